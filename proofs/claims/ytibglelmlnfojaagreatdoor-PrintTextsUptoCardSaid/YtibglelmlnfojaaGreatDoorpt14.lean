/- PROVED: a part of the proof. Conditions: none. -/
import Derived.Test.YtibglelmlnfojaaGreatDoorpt13
set_option linter.unusedSimpArgs false
set_option linter.unusedVariables false
noncomputable section
namespace Go.Proofs.YtibglelmlnfojaaGreatDoor
open Go Go.Proofs.Tryz
set_option linter.unusedVariables false
set_option maxRecDepth 100000
abbrev gG:=(aa->Int->Option ae)
abbrev mq(R:gG):Prop:=∀(p:aa) (least:Int),OG 188 [.agg (ac p),.int .i64 least,.bptr 0 0,.bptr 1 0] [] [.cells [.func (.func 188) [] [.bptr 0 0,.bptr 1 0]] [],.cells [.func (.func 185) [] [.bptr 0 0]] []] (R p least) (λr=>.str r) [] (λr=>[.cells [.func (.func 188) [] [.bptr 0 0,.bptr 1 0]] [],.cells [.func (.func 185) [] [.bptr 0 0]] []])
noncomputable def qpJ:Code:=f190.body.getD .skip
def qng:List Nat:=[]
theorem qoJ:ZF Pg qng 190 f190 qpJ:=zf call190 func190 rfl mixed
def sd(op:Int):Option (aR×Bool):=
 if(op==18)=true then
  some ((⟨1,1,2,qT⟩:aR),true)
 else if(op==17)=true then
  some ((⟨2,3,2,tj⟩:aR),true)
 else if(op==16)=true then
  some ((⟨3,3,4,wD⟩:aR),true)
 else if(op==15)=true then
  some ((⟨4,4,5,wB⟩:aR),true)
 else if(op==10)=true then
  some ((⟨6,7,7,VM⟩:aR),true)
 else if(op==11)=true then
  some ((⟨6,7,7,gV⟩:aR),true)
 else if(op==12)=true then
  some ((⟨6,7,7,PK⟩:aR),true)
 else if(op==13)=true then
  some ((⟨6,7,7,wC⟩:aR),true)
 else if(op==6)=true then
  some ((⟨7,7,8,PJ⟩:aR),true)
 else if(op==7)=true then
  some ((⟨7,7,8,pT⟩:aR),true)
 else if(op==8)=true then
  some ((⟨8,8,9,PI⟩:aR),true)
 else
  some ((⟨0,0,0,([]:ae)⟩:aR),false)
theorem BU{op:Int}:OV 190 [.int .i64 op] (sd op) (λr=>.tuple [.agg (fC r.1),.bool r.2]) []:=qoJ.v<|
 tx qfB<|tF (tv (bR 1 1 2 qT)<|tx (cr (⟨1,1,2,qT⟩:aR))<|CR λq=>aI (vaW PVal.tuple (d5 (cV (⟨1,1,2,qT⟩:aR)) (d5 (rP (.bool true)) (rfl:([]:List PVal)=[])))) q.2)<|tF (tv (bR 2 3 2 tj)<|tx (cr (⟨2,3,2,tj⟩:aR))<|CR λq=>aI (vaW PVal.tuple (d5 (cV (⟨2,3,2,tj⟩:aR)) (d5 (rP (.bool true)) (rfl:([]:List PVal)=[])))) q.2)<|tF (tv (bR 3 3 4 wD)<|tx (cr (⟨3,3,4,wD⟩:aR))<|CR λq=>aI (vaW PVal.tuple (d5 (cV (⟨3,3,4,wD⟩:aR)) (d5 (rP (.bool true)) (rfl:([]:List PVal)=[])))) q.2)<|tF (tv (bR 4 4 5 wB)<|tx (cr (⟨4,4,5,wB⟩:aR))<|CR λq=>aI (vaW PVal.tuple (d5 (cV (⟨4,4,5,wB⟩:aR)) (d5 (rP (.bool true)) (rfl:([]:List PVal)=[])))) q.2)<|tF (tv (bR 6 7 7 VM)<|tx (cr (⟨6,7,7,VM⟩:aR))<|CR λq=>aI (vaW PVal.tuple (d5 (cV (⟨6,7,7,VM⟩:aR)) (d5 (rP (.bool true)) (rfl:([]:List PVal)=[])))) q.2)<|tF (tv (bR 6 7 7 gV)<|tx (cr (⟨6,7,7,gV⟩:aR))<|CR λq=>aI (vaW PVal.tuple (d5 (cV (⟨6,7,7,gV⟩:aR)) (d5 (rP (.bool true)) (rfl:([]:List PVal)=[])))) q.2)<|tF (tv (bR 6 7 7 PK)<|tx (cr (⟨6,7,7,PK⟩:aR))<|CR λq=>aI (vaW PVal.tuple (d5 (cV (⟨6,7,7,PK⟩:aR)) (d5 (rP (.bool true)) (rfl:([]:List PVal)=[])))) q.2)<|tF (tv (bR 6 7 7 wC)<|tx (cr (⟨6,7,7,wC⟩:aR))<|CR λq=>aI (vaW PVal.tuple (d5 (cV (⟨6,7,7,wC⟩:aR)) (d5 (rP (.bool true)) (rfl:([]:List PVal)=[])))) q.2)<|tF (tv (bR 7 7 8 PJ)<|tx (cr (⟨7,7,8,PJ⟩:aR))<|CR λq=>aI (vaW PVal.tuple (d5 (cV (⟨7,7,8,PJ⟩:aR)) (d5 (rP (.bool true)) (rfl:([]:List PVal)=[])))) q.2)<|tF (tv (bR 7 7 8 pT)<|tx (cr (⟨7,7,8,pT⟩:aR))<|CR λq=>aI (vaW PVal.tuple (d5 (cV (⟨7,7,8,pT⟩:aR)) (d5 (rP (.bool true)) (rfl:([]:List PVal)=[])))) q.2)<|tF (tv (bR 8 8 9 PI)<|tx (cr (⟨8,8,9,PI⟩:aR))<|CR λq=>aI (vaW PVal.tuple (d5 (cV (⟨8,8,9,PI⟩:aR)) (d5 (rP (.bool true)) (rfl:([]:List PVal)=[])))) q.2)<|tv (Kv)<|tx (cr (⟨0,0,0,([]:ae)⟩:aR))<|CR λq=>aI (vaW PVal.tuple (d5 (cV (⟨0,0,0,([]:ae)⟩:aR)) (d5 (rP (.bool false)) (rfl:([]:List PVal)=[])))) q.2
noncomputable def qpI:Code:=f189.body.getD .skip
def qnf:List Nat:=[]
theorem qoI:ZF Pg qnf 189 f189 qpI:=zf call189 func189 rfl mixed
def Aa(p:aa):Option Int:=
 if(p.Op==14)=true then
  some 5
 else if(p.Op==9)=true then
  some 9
 else
  (sd p.Op).bind λr3=>
  if r3.2=true then
   some r3.1.level
  else
   some 10
theorem MS{p:aa}:OV 189 [.agg (ac p)] (Aa p) (λr=>.int .i64 r) []:=qoI.v<|
 te (dQ p)<|tw (aD p)<|tF tE<|tF tE<|tb λr3 br3=>tw (aD p)<|bG (BU _ br3)<|tx qfB<|tx (cr r3.1)<|tF (ts<|tE)<|tE
noncomputable def qpG:Code:=f186.body.getD .skip
def qnd:List Nat:=[]
theorem qoG:ZF Pg qnd 186 f186 qpG:=zf call186 func186 rfl mixed
def dW(a:waA):Option ae:=
 (Vd a ([]:ae)).bind λr1=>
 some r1
theorem eo{a:waA}:OV 186 [sl cS a] (dW a) (λr=>.str r) []:=qoG.v<|
 tb λr1 br1=>bG (YN br1)<|tE
noncomputable def qiX:Code:=f185.body.getD .skip
def qnc:List Nat:=[13]
theorem qks:ZF Pg qnc 185 f185 qiX:=zf call185 func185 rfl mixed
section
variable(R65:gG)(t7:waC)(t8:Int)(out:waA)(t9:Int)
def jE:aK:=aQ 24 [(1,.bptr 0 0),(4,sl cS out),(7,sl ac t7),(8,.int .i64 t8),(9,.int .i64 t9)] [.cells [.func (.func 188) [] [.bptr 0 0,.bptr 1 0]] [],.cells [.func (.func 185) [] [.bptr 0 0]] []] [((4,0),9)]
def nB(o:waA):aK:=aQ 24 [(4,sl cS o)] [.cells [.func (.func 188) [] [.bptr 0 0,.bptr 1 0]] [],.cells [.func (.func 185) [] [.bptr 0 0]] []] [((4,0),9)]
instance iS_predtext_Text_1_L1:KS 2 (jE t7 t8 out t9):=⟨rfl,(bD (aI (cZ rfl) (aI (up (aZ Q0 out)) (aI (up (aZ bK t7)) (aI vzz (aI vzz vzz)))))),(aI (aI (aI vzz (aI (cZ rfl) (aI (cZ rfl) trivial))) trivial) (aI (aI (aI vzz (aI (cZ rfl) trivial)) trivial) trivial))⟩
instance iO_predtext_Text_1_L1{o:waA}:KS 2 (nB o):=⟨rfl,(bD (aI (up (aZ Q0 o)) trivial)),(aI (aI (aI vzz (aI (cZ rfl) (aI (cZ rfl) trivial))) trivial) (aI (aI (aI vzz (aI (cZ rfl) trivial)) trivial) trivial))⟩
def gy:Option ((waA×Int)⊕(waA)):=
 if decide (t9<t8)=true then
  (cX t7 t9).bind λx2=>
  (R65 x2 1).bind λr3=>
  (app out ([r3]:List ae)).bind λl4=>
  some (.inl (l4,dt (t9+1)))
 else
  some (.inr out)
def ls:Option waA:=loop (λ(zz:waA×Int)=>gy R65 t7 t8 zz.1 zz.2) (out,t9)
theorem EU(hR65:mq R65):OL 2 (cA qiX 119) (gy R65 t7 t8 out t9) (λ(zz:waA×Int)=>jE t7 t8 zz.1 zz.2) (λ_=>.exit 0) nB (jE t7 t8 out t9):=qks.lx<|
 tF (tb λx2 bx2=>tb λr3 br3=>tb λl4 bl4=>tv (dT.ia (k:=.i64) bx2)<|tv (bu x2)<|tx M0<|tx (fT x2)<|ts<|tv (fS x2 [])<|tc [0,1] (hR65 _ _ _ br3)<|tv (bJ [r3] 1 rfl)<|tv (d8.ap bl4)<|tE)<|tE
theorem Gn(hR65:mq R65):OJ 2 (.loop (cA qiX 119)) (ls R65 t7 t8 out t9) (.exit 0) nB (jE t7 t8 out t9):=y1 λ_=>EU _ _ _ _ _ hR65
end
def lP(R65:gG)(a:waC):Option ae:=
 (ls R65 a (a.length:Int) ([]:List ae) 0).bind λo5=>
 (Vd o5 aU).bind λr6=>
 (dW ([cE,r6,dI]:List ae)).bind λr7=>
 some r7
theorem z8(R65:gG)(hR65:mq R65){a:waC}:OG 185 [sl ac a,.bptr 0 0] [] [.cells [.func (.func 188) [] [.bptr 0 0,.bptr 1 0]] [],.cells [.func (.func 185) [] [.bptr 0 0]] []] (lP R65 a) (λr=>.str r) [] (λr=>[.cells [.func (.func 188) [] [.bptr 0 0,.bptr 1 0]] [],.cells [.func (.func 185) [] [.bptr 0 0]] []]):=qks.g 2<|
 tb λo5 bo5=>tb λr6 br6=>tb λr7 br7=>bL (dT.ln a)<|bT (Gn R65 a (a.length:Int) ([]:List ae) 0 hR65 _ bo5)<|bG (YN br6)<|tv (bJ [cE,r6,dI] 3 rfl)<|bG (eo _ br7)<|tE
noncomputable def qpH:Code:=f188.body.getD .skip
def qne:List Nat:=[]
theorem qoH:ZF Pg qne 188 f188 qpH:=zf call188 func188 rfl mixed
def mD(R65:gG)(p:aa)(least:Int):Option ae:=
 (Aa p).bind λr1=>
 if decide (r1<least)=true then
  (R65 p 1).bind λr3=>
  (dW ([cE,r3,dI]:List ae)).bind λr4=>
  some r4
 else
  (sd p.Op).bind λr5=>
  if r5.2=true then
   (cX p.Kids 0).bind λx7=>
   (R65 x7 r5.1.left).bind λr8=>
   (cX p.Kids 1).bind λx9=>
   (R65 x9 r5.1.right).bind λr10=>
   (dW ([r8,dh,r5.1.sign,dh,r10]:List ae)).bind λr11=>
   some r11
  else if(p.Op==1)=true then
   if decide (p.N<0)=true then
    (SH p.N).bind λr14=>
    (dW ([cE,r14,dI]:List ae)).bind λr15=>
    some r15
   else
    (SH p.N).bind λr16=>
    some r16
  else if(p.Op==2)=true then
   (gb (p.N==1)).bind λr18=>
   some r18
  else if(p.Op==3)=true then
   some p.Name
  else if(p.Op==4)=true then
   (lP R65 p.Kids).bind λr21=>
   (dW ([p.Name,r21]:List ae)).bind λr22=>
   some r22
  else if(p.Op==5)=true then
   (lP R65 p.Kids).bind λr24=>
   (dW ([TZ,p.Name,r24]:List ae)).bind λr25=>
   some r25
  else if(p.Op==14)=true then
   (cX p.Kids 0).bind λx27=>
   (R65 x27 5).bind λr28=>
   (dW ([xS,r28]:List ae)).bind λr29=>
   some r29
  else
   (cX p.Kids 0).bind λx30=>
   (R65 x30 9).bind λr31=>
   (dW ([pT,r31]:List ae)).bind λr32=>
   some r32
theorem Jg(R65:gG)(hR65:mq R65){p:aa}{least:Int}:OG 188 [.agg (ac p),.int .i64 least,.bptr 0 0,.bptr 1 0] [] [.cells [.func (.func 188) [] [.bptr 0 0,.bptr 1 0]] [],.cells [.func (.func 185) [] [.bptr 0 0]] []] (mD R65 p least) (λr=>.str r) [] (λr=>[.cells [.func (.func 188) [] [.bptr 0 0,.bptr 1 0]] [],.cells [.func (.func 185) [] [.bptr 0 0]] []]):=qoH.g 2<|
 tb λr1 br1=>te (dQ p)<|tv (bu p)<|bG (MS _ br1)<|tF (tb λr3 br3=>tb λr4 br4=>ts<|tv (bu p)<|tc [0,1] (hR65 _ _ _ br3)<|tv (bJ [cE,r3,dI] 3 rfl)<|bG (eo _ br4)<|tE)<|tb λr5 br5=>tw (aD p)<|bG (BU _ br5)<|tx qfB<|tx (cr r5.1)<|tF (tb λx7 bx7=>tb λr8 br8=>tb λx9 bx9=>tb λr10 br10=>tb λr11 br11=>O3 (.dx [0,0,2,6,14,0,32,127,0,256,0,0,2048,6144,14336,0,32768,130303,262143,524287,1048575] [] [] [0,2,3,11,263,301,317,343])<|ts<|tw (aC p)<|tv (dT.ia (k:=.i64) bx7)<|tv (bu x7)<|ts<|qrz [0,1] (hR65 _ _ _ br8)<|ts<|ts<|tw (aC p)<|tv (dT.ia (k:=.i64) bx9)<|tv (bu x9)<|ts<|qrz [0,1] (hR65 _ _ _ br10)<|tv (bJ [r8,dh,r5.1.sign,dh,r10] 5 rfl)<|bG (eo _ br11)<|tE)<|tw (aD p)<|tF (tw (bh p)<|tF (tb λr14 br14=>tb λr15 br15=>tw (bh p)<|bG (Q6 br14)<|tv (bJ [cE,r14,dI] 3 rfl)<|bG (eo _ br15)<|tE)<|tb λr16 br16=>tw (bh p)<|bG (Q6 br16)<|tE)<|tF (tb λr18 br18=>tw (bh p)<|bG (tR _ br18)<|tE)<|tF (tw (bv p)<|tE)<|tF (tb λr21 br21=>tb λr22 br22=>O3 (.dx [0,1,0,0,8,28,63,127,255] [] [] [3,11,589,617])<|tw (bv p)<|ts<|tw (aC p)<|tc [0,1] (z8 R65 hR65 _ br21)<|tv (bJ [p.Name,r21] 2 rfl)<|bG (eo _ br22)<|tE)<|tF (tb λr24 br24=>tb λr25 br25=>O3 (.dx [0,1,0,0,8,28,63,127,255] [] [] [3,11,669,697])<|tw (bv p)<|ts<|tw (aC p)<|tc [0,1] (z8 R65 hR65 _ br24)<|tv (bJ [TZ,p.Name,r24] 3 rfl)<|bG (eo _ br25)<|tE)<|tF (tb λx27 bx27=>tb λr28 br28=>tb λr29 br29=>O3 (.dx [0,0,2,6,14,31,63,127,255] [] [] [3,11,777])<|ts<|tw (aC p)<|tv (dT.ia (k:=.i64) bx27)<|tv (bu x27)<|tc [0,1] (hR65 _ _ _ br28)<|tv (bJ [xS,r28] 2 rfl)<|bG (eo _ br29)<|tE)<|tb λx30 bx30=>tb λr31 br31=>tb λr32 br32=>O3 (.dx [0,0,2,6,14,31,63,127,255] [] [] [3,11,841])<|ts<|tw (aC p)<|tv (dT.ia (k:=.i64) bx30)<|tv (bu x30)<|tc [0,1] (hR65 _ _ _ br31)<|tv (bJ [pT,r31] 2 rfl)<|bG (eo _ br32)<|tE
def sb:((aa×Int)->Option ae)->(aa×Int)->Option ae:=λ(rec:(aa×Int)->Option ae) (x:aa×Int)=>mD (λp least=>rec (p,least)) x.1 x.2
def wX(p:aa)(least:Int):Option ae:=pA sb (p,least)
theorem K1{p:aa}{least:Int}:OG 188 [.agg (ac p),.int .i64 least,.bptr 0 0,.bptr 1 0] [] [.cells [.func (.func 188) [] [.bptr 0 0,.bptr 1 0]] [],.cells [.func (.func 185) [] [.bptr 0 0]] []] (wX p least) (λr=>.str r) [] (λr=>[.cells [.func (.func 188) [] [.bptr 0 0,.bptr 1 0]] [],.cells [.func (.func 185) [] [.bptr 0 0]] []]):=Vo λ_ h=>
 dN (F:=sb) (M:=λ(x:aa×Int) (r:ae)=>C Pg GE 188 [.agg (ac x.1),.int .i64 x.2,.bptr 0 0,.bptr 1 0] [] [.cells [.func (.func 188) [] [.bptr 0 0,.bptr 1 0]] [],.cells [.func (.func 185) [] [.bptr 0 0]] []] (.str r) [] [.cells [.func (.func 188) [] [.bptr 0 0,.bptr 1 0]] [],.cells [.func (.func 185) [] [.bptr 0 0]] []]) (λrec hrec x r h=>Jg _ (λp least=>Vo λr h=>hrec (p,least) r h) _ h) h
noncomputable def qpp:Code:=f127.body.getD .skip
def qmu:List Nat:=[11]
theorem qop:ZF Pg qmu 127 f127 qpp:=zf call127 func127 rfl mixed
def vq(p:aa):Option (ae×Int):=
 (uq p).bind λr1=>
 if(r1 !=0)=true then
  some (([]:ae),r1)
 else
  (wX p 1).bind λr3=>
  some (r3,0)
theorem ON{p:aa}:OV 127 [.agg (ac p)] (vq p) (λr=>.tuple [.str r.1,.int .i64 r.2]) []:=qop.v<|
 tb λr1 br1=>te (dQ p)<|tv (bu p)<|bG (UK br1)<|tF tE<|tb λr3 br3=>tx qlv<|tx qlw<|ts<|ts<|ts<|tv (bu p)<|tc [1,2] (K1 _ br3)<|tE
noncomputable def qrj:Code:=f78.body.getD .skip
def qsn:List Nat:=[]
theorem qq9:ZF Pg qsn 78 f78 qrj:=zf call78 func78 rfl mixed
section
variable(s:ae)(e:Int)(m:(List Int))(m2:Bool)
def jK:Option Bool:=
 if m2=true then
  some true
 else
  some (e !=0)
theorem DC:OJ 1 (cA qrj 14) (jK e m2) .normal (λo=>aQ 26 [(0,.bptr 0 0),(4,.str s)] [.cells [.nptr 0 76,sl (cI .u8) m,.bool o] [(1,5)],.dead] []) (aQ 26 [(0,.bptr 0 0),(4,.str s),(5,.int .i64 e)] [.cells [.nptr 0 76,sl (cI .u8) m,.bool m2] [(1,5)],.dead] []):=qq9.j<|
 tf (λc2=>ts<|tg 6 c2<|ts<|tE) λc2=>ts<|tg 6 c2<|ts<|tE
end
def jJ(p:aa)(k0:(List Int))(k02:Bool):Option ((List Int)×Bool):=
 (vq p).bind λr1=>
 (jK r1.2 k02).bind λo3=>
 (al ([r1.1]:List ae) k0 o3).bind λr4=>
 some (r4,o3)
theorem wu{p:aa}{k0:(List Int)}{k02:Bool}:OG 78 [.bptr 0 0,.agg (ac p)] [] [.cells [.nptr 0 76,sl (cI .u8) k0,.bool k02] [(1,5)]] (jJ p k0 k02) (λr=>.tuple []) [] (λr=>[.cells [.nptr 0 76,sl (cI .u8) r.1,.bool r.2] [(1,5)]]):=qq9.g 1<|
 tb λr1 br1=>tb λo3 bo3=>tb λr4 br4=>te (dQ p)<|tv (bu p)<|bG (ON _ br1)<|fc 0<|bT (DC r1.1 r1.2 k0 k02 _ bo3)<|tv (bJ [r1.1] 1 rfl)<|tc [0] (ak _ br4)<|tE
noncomputable def qtx:Code:=f95.body.getD .skip
def qsw:List Nat:=[]
theorem qs4:ZF Pg qsw 95 f95 qtx:=zf call95 func95 rfl mixed
def lB(p:aa)(k0:(List Int))(k02:Bool):Option ((List Int)×Bool):=
 (nK p).bind λr1=>
 if r1=true then
  (al ([nR]:List ae) k0 k02).bind λr3=>
  some (r3,k02)
 else
  (jJ p k0 k02).bind λr4=>
  some (r4.1,r4.2)
theorem Gt{p:aa}{k0:(List Int)}{k02:Bool}:OG 95 [.bptr 0 0,.agg (ac p)] [] [.cells [.nptr 0 76,sl (cI .u8) k0,.bool k02] [(1,5)]] (lB p k0 k02) (λr=>.tuple []) [] (λr=>[.cells [.nptr 0 76,sl (cI .u8) r.1,.bool r.2] [(1,5)]]):=qs4.g 1<|
 tb λr1 br1=>te (dQ p)<|tv (bu p)<|bG (pN _ br1)<|tF (tb λr3 br3=>tv (bJ [nR] 1 rfl)<|tc [0] (ak _ br3)<|tE)<|tb λr4 br4=>tv (bu p)<|tc [0] (wu _ br4)<|tE
noncomputable def qtw:Code:=f94.body.getD .skip
def qsv:List Nat:=[]
theorem qs3:ZF Pg qsv 94 f94 qtw:=zf call94 func94 rfl mixed
def qt(i:Int)(a:af)(k1:(List Int))(k12:Bool):Option ((List Int)×Bool):=
 (al ([jn]:List ae) k1 k12).bind λr1=>
 (cX a.Preds i).bind λx2=>
 (lB x2 r1 k12).bind λr3=>
 some (r3.1,r3.2)
theorem Gu{i:Int}{a:af}{k1:(List Int)}{k12:Bool}:OG 94 [.int .i64 i,.bptr 0 0,.eptr (ai a)] [] [.cells [.bptr 1 0] [],.cells [.nptr 1 76,sl (cI .u8) k1,.bool k12] [(1,5)]] (qt i a k1 k12) (λr=>.tuple []) [] (λr=>[.cells [.bptr 1 0] [],.cells [.nptr 1 76,sl (cI .u8) r.1,.bool r.2] [(1,5)]]):=qs3.g 2<|
 tb λr1 br1=>tb λx2 bx2=>tb λr3 br3=>ts<|tv (bJ [jn] 1 rfl)<|tc [1] (ak _ br1)<|tk<|O3 (.dx [0,0,2,0,14,30] [] [] [])<|ts<|tw (bm a)<|tv (dT.ia (k:=.i64) bx2)<|tv (bu x2)<|tc [1] (Gt _ br3)<|tE
section
variable(v:af)(i:Int)(t7:Int)(m:(List Int))(m2:Bool)
def pI:Option (((List Int))):=
 if decide (i>0)=true then
  (al ([aU]:List ae) m m2).bind λr3=>
  some r3
 else
  some m
theorem yz:OJ 2 (cA Wp 1014) (pI i m m2) .normal (λo=>aQ 20 [(0,.bptr 0 0),(2,.func (.func 94) [] [.bptr 1 0,.eptr (ai v)]),(6,.int .i64 i),(7,.int .i64 t7),(8,.int .i64 i)] [.cells [.nptr 0 76,sl (cI .u8) o,.bool m2] [(1,5)],.cells [.bptr 0 0] []] []) (aQ 20 [(0,.bptr 0 0),(2,.func (.func 94) [] [.bptr 1 0,.eptr (ai v)]),(6,.int .i64 i),(7,.int .i64 t7),(8,.int .i64 i)] [.cells [.nptr 0 76,sl (cI .u8) m,.bool m2] [(1,5)],.cells [.bptr 0 0] []] []):=XP.j<|
 tF (tb λr3 br3=>tv (bJ [aU] 1 rfl)<|tc [0] (ak _ br3)<|tE)<|tE
end
section
variable(v:af)(t7:Int)(t8:Int)(m:(List Int))(m2:Bool)
def iG:aK:=aQ 20 [(0,.bptr 0 0),(2,.func (.func 94) [] [.bptr 1 0,.eptr (ai v)]),(7,.int .i64 t7),(8,.int .i64 t8)] [.cells [.nptr 0 76,sl (cI .u8) m,.bool m2] [(1,5)],.cells [.bptr 0 0] []] []
def nD(o:(List Int)×Bool):aK:=aQ 20 [] [.cells [.nptr 0 76,sl (cI .u8) o.1,.bool o.2] [(1,5)],.cells [.bptr 0 0] []] []
def db:Option ((Int×(List Int)×Bool)⊕(((List Int)×Bool))):=
 if decide (t8<t7)=true then
  (pI t8 m m2).bind λo4=>
  (qt t8 v o4 m2).bind λr5=>
  some (.inl (dt (t8+1),r5.1,r5.2))
 else
  some (.inr (m,m2))
def jP:Option (((List Int)×Bool)):=loop (λ(zz:Int×(List Int)×Bool)=>db v t7 zz.1 zz.2.1 zz.2.2) (t8,m,m2)
theorem w9:OL 2 (cA Wp 15) (db v t7 t8 m m2) (λ(zz:Int×(List Int)×Bool)=>iG v t7 zz.1 zz.2.1 zz.2.2) (λ_=>.exit 0) nD (iG v t7 t8 m m2):=XP.l<|
 tF (tb λo4 bo4=>tb λr5 br5=>fc 2<|bT (yz v t8 t7 m m2 _ bo4)<|tc [1,0] (Gu _ br5)<|tE)<|tE
theorem yA:OJ 2 (.loop (cA Wp 15)) (jP v t7 t8 m m2) (.exit 0) nD (iG v t7 t8 m m2):=y1 λ_=>w9 _ _ _ _ _
end
def iW(n:Int)(c:af)(k0:(List Int))(k02:Bool):Option ((List Int)×Bool):=
 (jP c n 0 k0 k02).bind λo6=>
 some (o6.1,o6.2)
theorem CH{n:Int}{c:af}{k0:(List Int)}{k02:Bool}:OG 70 [.bptr 0 0,.int .i64 n,.func (.func 94) [] [.bptr 1 0,.eptr (ai c)]] [] [.cells [.nptr 0 76,sl (cI .u8) k0,.bool k02] [(1,5)],.cells [.bptr 0 0] []] (iW n c k0 k02) (λr=>.tuple []) [] (λr=>[.cells [.nptr 0 76,sl (cI .u8) r.1,.bool r.2] [(1,5)],.cells [.bptr 0 0] []]):=XP.g 2<|
 tb λo6 bo6=>bT (yA c n 0 k0 k02 _ bo6)<|tE
noncomputable def qkP:Code:=f147.body.getD .skip
def qmD:List Nat:=[]
theorem qkj:ZF Pg qmD 147 f147 qkP:=zf call147 func147 rfl mixed
section
variable(i:Int)(t1:af)(m:(List Int))(m2:Bool)
def iK:Option (((List Int)×Bool)):=
 if decide ((t1.Names.length:Int)>0)=true then
  (cX t1.Names i).bind λx2=>
  (cU x2 m m2).bind λr3=>
  (al ([bX]:List ae) r3.2 r3.1).bind λr4=>
  some (r4,r3.1)
 else
  some (m,m2)
theorem wr:OJ 2 (cA qkP 2) (iK i t1 m m2) .normal (λo=>aQ 25 [(0,.int .i64 i),(1,.eptr (ai t1)),(2,.bptr 0 0)] [.cells [.bptr 1 0] [],.cells [.nptr 1 76,sl (cI .u8) o.1,.bool o.2] [(1,5)]] []) (aQ 25 [(0,.int .i64 i),(1,.eptr (ai t1)),(2,.bptr 0 0)] [.cells [.bptr 1 0] [],.cells [.nptr 1 76,sl (cI .u8) m,.bool m2] [(1,5)]] []):=qkj.j<|
 tw (aX t1)<|bL (d8.ln t1.Names)<|tF (tb λx2 bx2=>tb λr3 br3=>tb λr4 br4=>tk<|O3 (.dx [0,0,2,0,14,30] [] [] [])<|ts<|tw (aX t1)<|tv (d8.ia (k:=.i64) bx2)<|tv (eC XC (.str x2) [])<|tc [1] (dq _ br3)<|ts<|tv (bJ [bX] 1 rfl)<|tc [1] (ak _ br4)<|tE)<|tE
end
def kH(R78:ce)(i:Int)(a:af)(k1:(List Int))(k12:Bool):Option ((List Int)×Bool):=
 (iK i a k1 k12).bind λo5=>
 (cX a.Args i).bind λx6=>
 (R78 x6 o5.1 o5.2).bind λr7=>
 some (r7.2,r7.1)
theorem Af(R78:ce)(hR78:du R78){i:Int}{a:af}{k1:(List Int)}{k12:Bool}:OG 147 [.int .i64 i,.eptr (ai a),.bptr 0 0] [] [.cells [.bptr 1 0] [],.cells [.nptr 1 76,sl (cI .u8) k1,.bool k12] [(1,5)]] (kH R78 i a k1 k12) (λr=>.tuple []) [] (λr=>[.cells [.bptr 1 0] [],.cells [.nptr 1 76,sl (cI .u8) r.1,.bool r.2] [(1,5)]]):=qkj.g 2<|
 tb λo5 bo5=>tb λx6 bx6=>tb λr7 br7=>fc 0<|bT (wr i a k1 k12 _ bo5)<|tk<|O3 (.dx [0,0,2,0,14,30] [] [] [])<|ts<|tw (aM a)<|tv (cu.ia (k:=.i64) bx6)<|tv (bo x6)<|tc [1] (hR78 _ _ _ _ br7)<|tE
section
variable(v:af)(i:Int)(t7:Int)(m:(List Int))(m2:Bool)
def pJ:Option (((List Int))):=
 if decide (i>0)=true then
  (al ([aU]:List ae) m m2).bind λr3=>
  some r3
 else
  some m
theorem yB:OJ 2 (cA Wp 1014) (pJ i m m2) .normal (λo=>aQ 20 [(0,.bptr 0 0),(2,.func (.func 147) [] [.eptr (ai v),.bptr 1 0]),(6,.int .i64 i),(7,.int .i64 t7),(8,.int .i64 i)] [.cells [.nptr 0 76,sl (cI .u8) o,.bool m2] [(1,5)],.cells [.bptr 0 0] []] []) (aQ 20 [(0,.bptr 0 0),(2,.func (.func 147) [] [.eptr (ai v),.bptr 1 0]),(6,.int .i64 i),(7,.int .i64 t7),(8,.int .i64 i)] [.cells [.nptr 0 76,sl (cI .u8) m,.bool m2] [(1,5)],.cells [.bptr 0 0] []] []):=XP.j<|
 tF (tb λr3 br3=>tv (bJ [aU] 1 rfl)<|tc [0] (ak _ br3)<|tE)<|tE
end
section
variable(R78:ce)(v:af)(t7:Int)(t8:Int)(m:(List Int))(m2:Bool)
def iH:aK:=aQ 20 [(0,.bptr 0 0),(2,.func (.func 147) [] [.eptr (ai v),.bptr 1 0]),(7,.int .i64 t7),(8,.int .i64 t8)] [.cells [.nptr 0 76,sl (cI .u8) m,.bool m2] [(1,5)],.cells [.bptr 0 0] []] []
def nF(o:(List Int)×Bool):aK:=aQ 20 [] [.cells [.nptr 0 76,sl (cI .u8) o.1,.bool o.2] [(1,5)],.cells [.bptr 0 0] []] []
def dc:Option ((Int×(List Int)×Bool)⊕(((List Int)×Bool))):=
 if decide (t8<t7)=true then
  (pJ t8 m m2).bind λo4=>
  (kH R78 t8 v o4 m2).bind λr5=>
  some (.inl (dt (t8+1),r5.1,r5.2))
 else
  some (.inr (m,m2))
def jQ:Option (((List Int)×Bool)):=loop (λ(zz:Int×(List Int)×Bool)=>dc R78 v t7 zz.1 zz.2.1 zz.2.2) (t8,m,m2)
theorem xa(hR78:du R78):OL 2 (cA Wp 15) (dc R78 v t7 t8 m m2) (λ(zz:Int×(List Int)×Bool)=>iH v t7 zz.1 zz.2.1 zz.2.2) (λ_=>.exit 0) nF (iH v t7 t8 m m2):=XP.l<|
 tF (tb λo4 bo4=>tb λr5 br5=>fc 2<|bT (yB v t8 t7 m m2 _ bo4)<|tc [1,0] (Af R78 hR78 _ br5)<|tE)<|tE
theorem yC(hR78:du R78):OJ 2 (.loop (cA Wp 15)) (jQ R78 v t7 t8 m m2) (.exit 0) nF (iH v t7 t8 m m2):=y1 λ_=>xa _ _ _ _ _ _ hR78
end
def mf(R78:ce)(n:Int)(c:af)(k0:(List Int))(k02:Bool):Option ((List Int)×Bool):=
 (jQ R78 c n 0 k0 k02).bind λo6=>
 some (o6.1,o6.2)
theorem CI(R78:ce)(hR78:du R78){n:Int}{c:af}{k0:(List Int)}{k02:Bool}:OG 70 [.bptr 0 0,.int .i64 n,.func (.func 147) [] [.eptr (ai c),.bptr 1 0]] [] [.cells [.nptr 0 76,sl (cI .u8) k0,.bool k02] [(1,5)],.cells [.bptr 0 0] []] (mf R78 n c k0 k02) (λr=>.tuple []) [] (λr=>[.cells [.nptr 0 76,sl (cI .u8) r.1,.bool r.2] [(1,5)],.cells [.bptr 0 0] []]):=XP.g 2<|
 tb λo6 bo6=>bT (yC R78 c n 0 k0 k02 hR78 _ bo6)<|tE
noncomputable def qty:Code:=f96.body.getD .skip
def qsx:List Nat:=[]
theorem qs5:ZF Pg qsx 96 f96 qty:=zf call96 func96 rfl mixed
def iX(R78:ce)(t:af)(k0:(List Int))(k02:Bool):Option ((List Int)×Bool):=
 (al ([cE]:List ae) k0 k02).bind λr1=>
 (mf R78 (dt ((t.Args.length:Int) - 1)) t r1 k02).bind λr2=>
 (al ([cG]:List ae) r2.1 r2.2).bind λr3=>
 (cX t.Args (dt ((t.Args.length:Int) - 1))).bind λx4=>
 (R78 x4 r3 r2.2).bind λr5=>
 some (r5.2,r5.1)
theorem CL(R78:ce)(hR78:du R78){t:af}{k0:(List Int)}{k02:Bool}:OG 96 [.bptr 0 0,.agg (ai t)] [] [.cells [.nptr 0 76,sl (cI .u8) k0,.bool k02] [(1,5)]] (iX R78 t k0 k02) (λr=>.tuple []) [] (λr=>[.cells [.nptr 0 76,sl (cI .u8) r.1,.bool r.2] [(1,5)]]):=qs5.g 1<|
 tb λr1 br1=>tb λr2 br2=>tb λr3 br3=>tb λx4 bx4=>tb λr5 br5=>qhT (rfl:ca (.bptr 0 0)=some [.bptr 0 0]) rfl<|te (dR t)<|tw (aM t)<|bL (cu.ln t.Args)<|ts<|tv (bJ [cE] 1 rfl)<|tc [0] (ak _ br1)<|ts<|tc [0,1] (CI R78 hR78 _ br2)<|ts<|tv (bJ [cG] 1 rfl)<|tc [0] (ak _ br3)<|tk<|O3 (.dx [0,0,2,0,14,30] [] [] [])<|ts<|tw (aM t)<|tv (cu.ia (k:=.i64) bx4)<|tv (bo x4)<|tc [0] (hR78 _ _ _ _ br5)<|tE
noncomputable def qjY:Code:=f53.body.getD .skip
def qr4:List Nat:=[]
theorem qkH:ZF Pg qr4 53 f53 qjY:=zf call53 func53 rfl mixed
section
variable(t:af)(m:(List Int))(m2:Bool)
def kh:Option Bool:=
 if(t.Op==6)=true then
  (nK t.Pred).bind λr3=>
  if(!r3)=true then
   some true
  else if decide ((t.Preds.length:Int)>0)=true then
   some true
  else if(t.Op !=4)=true then
   some (decide ((t.Preds.length:Int)>0))
  else
   some false
 else if(t.Op !=4)=true then
  some (decide ((t.Preds.length:Int)>0))
 else
  some false
theorem E3:OJ 1 (cA qjY 12) (kh t) .normal (λo=>aQ 119 [(2,.bptr 1 0),(3,.eptr (ai t)),(32,.bool o)] [.cells [.nptr 0 76,sl (cI .u8) m,.bool m2] [(1,5)],.cells [.bptr 0 0] [],.dead] []) (aQ 119 [(2,.bptr 1 0),(3,.eptr (ai t))] [.cells [.nptr 0 76,sl (cI .u8) m,.bool m2] [(1,5)],.cells [.bptr 0 0] [],.dead] []):=qkH.j<|
 have pp2:=λ{X Y Z} (r:PV _ X Y Z)=>tw (az t)<|r;tf (λc1=>tb λr3 br3=>have pp5:=λ{X Y Z} (r:PV _ X Y Z)=>pp2<|tg 4 c1<|tw (cj t)<|bG (pN _ br3)<|r;tf (λc4=>pp5<|tg 9 c4<|tE) λc4=>have pp7:=λ{X Y Z} (r:PV _ X Y Z)=>pp5<|tg 9 c4<|tw (bm t)<|bL (dT.ln t.Preds)<|r;tf (λc6=>pp7<|tg 16 c6<|tE) λc6=>have pp9:=λ{X Y Z} (r:PV _ X Y Z)=>pp7<|tg 16 c6<|tw (az t)<|r;tf (λc8=>pp9<|tg 20 c8<|tw (bm t)<|bL (dT.ln t.Preds)<|tE) λc8=>pp9<|tg 20 c8<|tE) λc1=>have pp11:=λ{X Y Z} (r:PV _ X Y Z)=>pp2<|tg 4 c1<|tw (az t)<|r;tf (λc10=>pp11<|tg 20 c10<|tw (bm t)<|bL (dT.ln t.Preds)<|tE) λc10=>pp11<|tg 20 c10<|tE
end
section
variable(t:af)(refined:Bool)(m:(List Int))(m2:Bool)
def ki:Option (((List Int))):=
 if refined=true then
  (al ([fG]:List ae) m m2).bind λr16=>
  some r16
 else
  some m
theorem E4:OJ 1 (cA qjY 30) (ki refined m m2) .normal (λo=>aQ 119 [(2,.bptr 1 0),(3,.eptr (ai t)),(4,.bool refined)] [.cells [.nptr 0 76,sl (cI .u8) o,.bool m2] [(1,5)],.cells [.bptr 0 0] [],.dead] []) (aQ 119 [(2,.bptr 1 0),(3,.eptr (ai t)),(4,.bool refined)] [.cells [.nptr 0 76,sl (cI .u8) m,.bool m2] [(1,5)],.cells [.bptr 0 0] [],.dead] []):=qkH.j<|
 tF (tb λr16 br16=>ts<|tv (bJ [fG] 1 rfl)<|tc [0] (ak _ br16)<|tE)<|tE
end
section
variable(R78:ce)(t:af)(refined:Bool)(t74:waB)(t75:Int)(t76:Int)(m:(List Int))(m2:Bool)
def i6:aK:=aQ 119 [(2,.bptr 1 0),(3,.eptr (ai t)),(4,.bool refined),(74,sl ai t74),(75,.int .i64 t75),(76,.int .i64 t76)] [.cells [.nptr 0 76,sl (cI .u8) m,.bool m2] [(1,5)],.cells [.bptr 0 0] [],.dead] []
def ml(o:(List Int)×Bool):aK:=aQ 119 [(2,.bptr 1 0),(3,.eptr (ai t)),(4,.bool refined)] [.cells [.nptr 0 76,sl (cI .u8) o.1,.bool o.2] [(1,5)],.cells [.bptr 0 0] [],.dead] []
instance iS_print_writer_typ_L4:KS 1 (i6 t refined t74 t75 t76 m m2):=⟨rfl,(bD (aI (cZ rfl) (aI (eA (cJ t)) (aI vzz (aI (up (aZ cJ t74)) (aI vzz (aI vzz vzz))))))),(aI (aI (cZ rfl) (aI (up (aZ (U1 .u8) m)) (aI vzz vzz))) (aI (aI (cZ rfl) trivial) (aI vzz vzz)))⟩
instance iO_print_writer_typ_L4{o:((List Int)×Bool)}:KS 1 (ml t refined o):=⟨rfl,(bD (aI (cZ rfl) (aI (eA (cJ t)) (aI vzz vzz)))),(aI (aI (cZ rfl) (aI (up (aZ (U1 .u8) o.1)) (aI vzz vzz))) (aI (aI (cZ rfl) trivial) (aI vzz vzz)))⟩
def eM:Option ((Int×(List Int)×Bool)⊕(((List Int)×Bool))):=
 if decide (t76<t75)=true then
  (cX t74 t76).bind λx29=>
  (al ([dh]:List ae) m m2).bind λr30=>
  (lA R78 x29 r30 m2).bind λr31=>
  some (.inl (dt (t76+1),r31.1,r31.2))
 else
  some (.inr (m,m2))
def kk:Option (((List Int)×Bool)):=loop (λ(zz:Int×(List Int)×Bool)=>eM R78 t74 t75 zz.1 zz.2.1 zz.2.2) (t76,m,m2)
theorem DF(hR78:du R78):OL 1 (cA qjY 8257495) (eM R78 t74 t75 t76 m m2) (λ(zz:Int×(List Int)×Bool)=>i6 t refined t74 t75 zz.1 zz.2.1 zz.2.2) (λ_=>.exit 1) (ml t refined) (i6 t refined t74 t75 t76 m m2):=qkH.lx<|
 tF (tb λx29 bx29=>tb λr30 br30=>tb λr31 br31=>tv (cu.ia (k:=.i64) bx29)<|tv (bo x29)<|tx K8<|tx (gJ x29)<|ts<|tv (bJ [dh] 1 rfl)<|tc [0] (ak _ br30)<|ts<|tv (ed x29 [])<|tc [0] (Gs R78 hR78 _ br31)<|tE)<|tE
theorem E6(hR78:du R78):OJ 1 (.loop (cA qjY 8257495)) (kk R78 t74 t75 t76 m m2) (.exit 1) (ml t refined) (i6 t refined t74 t75 t76 m m2):=y1 λ_=>DF _ _ _ _ _ _ _ _ hR78
end
section
variable(R78:ce)(t:af)(refined:Bool)(m:(List Int))(m2:Bool)
def kj:Option (((List Int)×Bool)):=
 if(t.Op==1)=true then
  (al ([VL]:List ae) m m2).bind λr19=>
  some (r19,m2)
 else if(t.Op==2)=true then
  (al ([Pa]:List ae) m m2).bind λr21=>
  some (r21,m2)
 else if(t.Op==3)=true then
  (al ([Pb]:List ae) m m2).bind λr23=>
  some (r23,m2)
 else if(t.Op==5)=true then
  (cU t.Name m m2).bind λr25=>
  some (r25.2,r25.1)
 else if(t.Op==4)=true then
  (fY t.Name m m2).bind λr27=>
  (kk R78 t.Args (t.Args.length:Int) 0 r27.2 r27.1).bind λo32=>
  if decide ((t.Preds.length:Int)>0)=true then
   (al ([DV]:List ae) o32.1 o32.2).bind λr34=>
   (iW (t.Preds.length:Int) t r34 o32.2).bind λr35=>
   (al ([VN]:List ae) r35.1 r35.2).bind λr36=>
   some (r36,r35.2)
  else
   some (o32.1,o32.2)
 else if(t.Op==6)=true then
  (iX R78 t m m2).bind λr38=>
  some (r38.1,r38.2)
 else
  some (m,m2)
theorem E5(hR78:du R78):OJ 1 (cA qjY 62) (kj R78 t m m2) .normal (λo=>aQ 119 [(2,.bptr 1 0),(3,.eptr (ai t)),(4,.bool refined)] [.cells [.nptr 0 76,sl (cI .u8) o.1,.bool o.2] [(1,5)],.cells [.bptr 0 0] [],.dead] []) (aQ 119 [(2,.bptr 1 0),(3,.eptr (ai t)),(4,.bool refined)] [.cells [.nptr 0 76,sl (cI .u8) m,.bool m2] [(1,5)],.cells [.bptr 0 0] [],.dead] []):=qkH.j<|
 tw (az t)<|tF (tb λr19 br19=>ts<|tv (bJ [VL] 1 rfl)<|tc [0] (ak _ br19)<|tE)<|tF (tb λr21 br21=>ts<|tv (bJ [Pa] 1 rfl)<|tc [0] (ak _ br21)<|tE)<|tF (tb λr23 br23=>ts<|tv (bJ [Pb] 1 rfl)<|tc [0] (ak _ br23)<|tE)<|tF (tb λr25 br25=>ts<|tw (bP t)<|tc [0] (dq _ br25)<|tE)<|tF (tb λr27 br27=>tb λo32 bo32=>ts<|tw (bP t)<|tc [0] (mj _ br27)<|tw (aM t)<|bL (cu.ln t.Args)<|bT (E6 R78 t refined t.Args (t.Args.length:Int) 0 r27.2 r27.1 hR78 _ bo32)<|tw (bm t)<|bL (dT.ln t.Preds)<|tF (tb λr34 br34=>tb λr35 br35=>tb λr36 br36=>ts<|tv (bJ [DV] 1 rfl)<|tc [0] (ak _ br34)<|ts<|tw (bm t)<|bL (dT.ln t.Preds)<|tc [0,1] (CH _ br35)<|ts<|tv (bJ [VN] 1 rfl)<|tc [0] (ak _ br36)<|tE)<|tE)<|tF (tb λr38 br38=>ts<|tv (bo t)<|tc [0] (CL R78 hR78 _ br38)<|tE)<|tE
end
def lC(R78:ce)(t:af)(k0:(List Int))(k02:Bool):Option (Bool×(List Int)):=
 (kh t).bind λo12=>
 if o12=true then
  some (true,k0)
 else
  (nK t.Pred).bind λr14=>
  (ki (!r14) k0 k02).bind λo17=>
  (kj R78 t o17 k02).bind λo39=>
  if(!r14)=true then
   (al ([kY]:List ae) o39.1 o39.2).bind λr41=>
   (jJ t.Pred r41 o39.2).bind λr42=>
   (al ([PL]:List ae) r42.1 r42.2).bind λr43=>
   some (r42.2,r43)
  else
   some (o39.2,o39.1)
theorem Ib(R78:ce)(hR78:du R78){t:af}{k0:(List Int)}{k02:Bool}:OG 53 [.bptr 0 0,.agg (ai t)] [] [.cells [.nptr 0 76,sl (cI .u8) k0,.bool k02] [(1,5)]] (lC R78 t k0 k02) (λr=>.tuple []) [] (λr=>[.cells [.nptr 0 76,sl (cI .u8) r.2,.bool r.1] [(1,5)]]):=qkH.g 1<|
 tb λo12 bo12=>qhT (rfl:ca (.bptr 0 0)=some [.bptr 0 0]) rfl<|te (dR t)<|fc 1<|bT (E3 t k0 k02 _ bo12)<|tF (ts<|ts<|tE)<|tb λr14 br14=>tb λo17 bo17=>tb λo39 bo39=>tw (cj t)<|bG (pN _ br14)<|fc 0<|bT (E4 t (!r14) k0 k02 _ bo17)<|fc 0<|bT (E5 R78 t (!r14) o17 k02 hR78 _ bo39)<|tF (tb λr41 br41=>tb λr42 br42=>tb λr43 br43=>ts<|tv (bJ [kY] 1 rfl)<|tc [0] (ak _ br41)<|ts<|tw (cj t)<|tc [0] (wu _ br42)<|ts<|tv (bJ [PL] 1 rfl)<|tc [0] (ak _ br43)<|tE)<|tE
def qv:((af×(List Int)×Bool)->Option (Bool×(List Int)))->(af×(List Int)×Bool)->Option (Bool×(List Int)):=λ(rec:(af×(List Int)×Bool)->Option (Bool×(List Int))) (x:af×(List Int)×Bool)=>lC (λt k0 k02=>rec (t,k0,k02)) x.1 x.2.1 x.2.2
def uv(t:af)(k0:(List Int))(k02:Bool):Option (Bool×(List Int)):=pA qv (t,k0,k02)
theorem Jo{t:af}{k0:(List Int)}{k02:Bool}:OG 53 [.bptr 0 0,.agg (ai t)] [] [.cells [.nptr 0 76,sl (cI .u8) k0,.bool k02] [(1,5)]] (uv t k0 k02) (λr=>.tuple []) [] (λr=>[.cells [.nptr 0 76,sl (cI .u8) r.2,.bool r.1] [(1,5)]]):=Vo λ_ h=>
 dN (F:=qv) (M:=λ(x:af×(List Int)×Bool) (r:Bool×(List Int))=>C Pg GE 53 [.bptr 0 0,.agg (ai x.1)] [] [.cells [.nptr 0 76,sl (cI .u8) x.2.1,.bool x.2.2] [(1,5)]] (.tuple []) [] [.cells [.nptr 0 76,sl (cI .u8) r.2,.bool r.1] [(1,5)]]) (λrec hrec x r h=>Ib _ (λt k0 k02=>Vo λr h=>hrec (t,k0,k02) r h) _ h) h
noncomputable def qtb:Code:=f22.body.getD .skip
def qrO:List Nat:=[]
theorem qsI:ZF Pg qrO 22 f22 qtb:=zf call22 func22 rfl mixed
def dU(t:af)(k0:(List Int))(k02:Bool):Option (Bool×(List Int)):=
 (nO t).bind λr1=>
 if(r1 !=0)=true then
  some (true,k0)
 else
  (uv t k0 k02).bind λr3=>
  some (r3.1,r3.2)
theorem e7{t:af}{k0:(List Int)}{k02:Bool}:OG 22 [.bptr 0 0,.agg (ai t)] [] [.cells [.nptr 0 76,sl (cI .u8) k0,.bool k02] [(1,5)]] (dU t k0 k02) (λr=>.tuple []) [] (λr=>[.cells [.nptr 0 76,sl (cI .u8) r.2,.bool r.1] [(1,5)]]):=qsI.g 1<|
 tb λr1 br1=>te (dR t)<|tv (bo t)<|bG (Aw _ br1)<|tF (ts<|tE)<|tb λr3 br3=>tv (bo t)<|tc [0] (Jo _ br3)<|tE
noncomputable def qpy:Code:=f163.body.getD .skip
def qmS:List Nat:=[]
theorem qoy:ZF Pg qmS 163 f163 qpy:=zf call163 func163 rfl mixed
def nJ(i:Int)(a:waB)(k1:(List Int))(k12:Bool):Option ((List Int)×Bool):=
 (cX a i).bind λx1=>
 (dU x1 k1 k12).bind λr2=>
 some (r2.2,r2.1)
theorem DG{i:Int}{a:waB}{k1:(List Int)}{k12:Bool}:OG 163 [.int .i64 i,.bptr 0 0,.eptr ((cL ai) a)] [] [.cells [.bptr 1 0] [],.cells [.nptr 1 76,sl (cI .u8) k1,.bool k12] [(1,5)]] (nJ i a k1 k12) (λr=>.tuple []) [] (λr=>[.cells [.bptr 1 0] [],.cells [.nptr 1 76,sl (cI .u8) r.1,.bool r.2] [(1,5)]]):=qoy.g 2<|
 tb λx1 bx1=>tb λr2 br2=>tk<|O3 (.dx [0,0,0,6,14] [] [] [])<|ts<|tv (eC qjH (sl ai a) [])<|tv (cu.ia (k:=.i64) bx1)<|tv (bo x1)<|tc [1] (e7 _ br2)<|tE
section
variable(v:waB)(i:Int)(t7:Int)(m:(List Int))(m2:Bool)
def pK:Option (((List Int))):=
 if decide (i>0)=true then
  (al ([aU]:List ae) m m2).bind λr3=>
  some r3
 else
  some m
theorem yD:OJ 2 (cA Wp 1014) (pK i m m2) .normal (λo=>aQ 20 [(0,.bptr 0 0),(2,.func (.func 163) [] [.bptr 1 0,.eptr ((cL ai) v)]),(6,.int .i64 i),(7,.int .i64 t7),(8,.int .i64 i)] [.cells [.nptr 0 76,sl (cI .u8) o,.bool m2] [(1,5)],.cells [.bptr 0 0] []] []) (aQ 20 [(0,.bptr 0 0),(2,.func (.func 163) [] [.bptr 1 0,.eptr ((cL ai) v)]),(6,.int .i64 i),(7,.int .i64 t7),(8,.int .i64 i)] [.cells [.nptr 0 76,sl (cI .u8) m,.bool m2] [(1,5)],.cells [.bptr 0 0] []] []):=XP.j<|
 tF (tb λr3 br3=>tv (bJ [aU] 1 rfl)<|tc [0] (ak _ br3)<|tE)<|tE
end
section
variable(v:waB)(t7:Int)(t8:Int)(m:(List Int))(m2:Bool)
def iI:aK:=aQ 20 [(0,.bptr 0 0),(2,.func (.func 163) [] [.bptr 1 0,.eptr ((cL ai) v)]),(7,.int .i64 t7),(8,.int .i64 t8)] [.cells [.nptr 0 76,sl (cI .u8) m,.bool m2] [(1,5)],.cells [.bptr 0 0] []] []
def nG(o:(List Int)×Bool):aK:=aQ 20 [] [.cells [.nptr 0 76,sl (cI .u8) o.1,.bool o.2] [(1,5)],.cells [.bptr 0 0] []] []
def de:Option ((Int×(List Int)×Bool)⊕(((List Int)×Bool))):=
 if decide (t8<t7)=true then
  (pK t8 m m2).bind λo4=>
  (nJ t8 v o4 m2).bind λr5=>
  some (.inl (dt (t8+1),r5.1,r5.2))
 else
  some (.inr (m,m2))
def jR:Option (((List Int)×Bool)):=loop (λ(zz:Int×(List Int)×Bool)=>de v t7 zz.1 zz.2.1 zz.2.2) (t8,m,m2)
theorem xb:OL 2 (cA Wp 15) (de v t7 t8 m m2) (λ(zz:Int×(List Int)×Bool)=>iI v t7 zz.1 zz.2.1 zz.2.2) (λ_=>.exit 0) nG (iI v t7 t8 m m2):=XP.l<|
 tF (tb λo4 bo4=>tb λr5 br5=>fc 2<|bT (yD v t8 t7 m m2 _ bo4)<|tc [1,0] (DG _ br5)<|tE)<|tE
theorem yE:OJ 2 (.loop (cA Wp 15)) (jR v t7 t8 m m2) (.exit 0) nG (iI v t7 t8 m m2):=y1 λ_=>xb _ _ _ _ _
end
def mg(n:Int)(c:waB)(k0:(List Int))(k02:Bool):Option ((List Int)×Bool):=
 (jR c n 0 k0 k02).bind λo6=>
 some (o6.1,o6.2)
theorem CJ{n:Int}{c:waB}{k0:(List Int)}{k02:Bool}:OG 70 [.bptr 0 0,.int .i64 n,.func (.func 163) [] [.bptr 1 0,.eptr ((cL ai) c)]] [] [.cells [.nptr 0 76,sl (cI .u8) k0,.bool k02] [(1,5)],.cells [.bptr 0 0] []] (mg n c k0 k02) (λr=>.tuple []) [] (λr=>[.cells [.nptr 0 76,sl (cI .u8) r.1,.bool r.2] [(1,5)],.cells [.bptr 0 0] []]):=XP.g 2<|
 tb λo6 bo6=>bT (yE c n 0 k0 k02 _ bo6)<|tE
noncomputable def qph:Code:=f109.body.getD .skip
def qmf:List Nat:=[]
theorem qoh:ZF Pg qmf 109 f109 qph:=zf call109 func109 rfl mixed
def iM(a:waB)(k0:(List Int))(k02:Bool):Option ((List Int)×Bool):=
 if((a.length:Int)==0)=true then
  some (k0,k02)
 else
  (al ([VO]:List ae) k0 k02).bind λr2=>
  (mg (a.length:Int) a r2 k02).bind λr3=>
  (al ([VP]:List ae) r3.1 r3.2).bind λr4=>
  some (r4,r3.2)
theorem tO{a:waB}{k0:(List Int)}{k02:Bool}:OG 109 [.bptr 0 0,sl ai a] [] [.cells [.nptr 0 76,sl (cI .u8) k0,.bool k02] [(1,5)]] (iM a k0 k02) (λr=>.tuple []) [] (λr=>[.cells [.nptr 0 76,sl (cI .u8) r.1,.bool r.2] [(1,5)]]):=qoh.g 1<|
 qhT (rfl:ca (.bptr 0 0)=some [.bptr 0 0]) rfl<|te (qqA ai a)<|tv (eC qjH (sl ai a) [])<|bL (cu.ln a)<|tF tE<|tb λr2 br2=>tb λr3 br3=>tb λr4 br4=>ts<|tv (bJ [VO] 1 rfl)<|tc [0] (ak _ br2)<|ts<|tv (eC qjH (sl ai a) [])<|bL (cu.ln a)<|tc [0,1] (CJ _ br3)<|ts<|tv (bJ [VP] 1 rfl)<|tc [0] (ak _ br4)<|tE
noncomputable def qpz:Code:=f164.body.getD .skip
def qmT:List Nat:=[]
theorem qoz:ZF Pg qmT 164 f164 qpz:=zf call164 func164 rfl mixed
def pe(R111:bI)(i:Int)(a:waD)(k1:(List Int))(k12:Bool):Option ((List Int)×Bool):=
 (cX a i).bind λx1=>
 (R111 x1 k1 k12).bind λr2=>
 some (r2.1,r2.2)
theorem EW(R111:bI)(hR111:cH R111){i:Int}{a:waD}{k1:(List Int)}{k12:Bool}:OG 164 [.int .i64 i,.bptr 0 0,.eptr ((cL ah) a)] [] [.cells [.bptr 1 0] [],.cells [.nptr 1 76,sl (cI .u8) k1,.bool k12] [(1,5)]] (pe R111 i a k1 k12) (λr=>.tuple []) [] (λr=>[.cells [.bptr 1 0] [],.cells [.nptr 1 76,sl (cI .u8) r.1,.bool r.2] [(1,5)]]):=qoz.g 2<|
 tb λx1 bx1=>tb λr2 br2=>tk<|O3 (.dx [0,0,0,6,14] [] [] [])<|ts<|tv (eC qlP (sl ah a) [])<|tv (dJ.ia (k:=.i64) bx1)<|tv (aF x1)<|tc [1] (hR111 _ _ _ _ br2)<|tE
section
variable(v:waD)(i:Int)(t7:Int)(m:(List Int))(m2:Bool)
def pL:Option (((List Int))):=
 if decide (i>0)=true then
  (al ([aU]:List ae) m m2).bind λr3=>
  some r3
 else
  some m
theorem yF:OJ 2 (cA Wp 1014) (pL i m m2) .normal (λo=>aQ 20 [(0,.bptr 0 0),(2,.func (.func 164) [] [.bptr 1 0,.eptr ((cL ah) v)]),(6,.int .i64 i),(7,.int .i64 t7),(8,.int .i64 i)] [.cells [.nptr 0 76,sl (cI .u8) o,.bool m2] [(1,5)],.cells [.bptr 0 0] []] []) (aQ 20 [(0,.bptr 0 0),(2,.func (.func 164) [] [.bptr 1 0,.eptr ((cL ah) v)]),(6,.int .i64 i),(7,.int .i64 t7),(8,.int .i64 i)] [.cells [.nptr 0 76,sl (cI .u8) m,.bool m2] [(1,5)],.cells [.bptr 0 0] []] []):=XP.j<|
 tF (tb λr3 br3=>tv (bJ [aU] 1 rfl)<|tc [0] (ak _ br3)<|tE)<|tE
end
section
variable(R111:bI)(v:waD)(t7:Int)(t8:Int)(m:(List Int))(m2:Bool)
def iJ:aK:=aQ 20 [(0,.bptr 0 0),(2,.func (.func 164) [] [.bptr 1 0,.eptr ((cL ah) v)]),(7,.int .i64 t7),(8,.int .i64 t8)] [.cells [.nptr 0 76,sl (cI .u8) m,.bool m2] [(1,5)],.cells [.bptr 0 0] []] []
def nH(o:(List Int)×Bool):aK:=aQ 20 [] [.cells [.nptr 0 76,sl (cI .u8) o.1,.bool o.2] [(1,5)],.cells [.bptr 0 0] []] []
def df:Option ((Int×(List Int)×Bool)⊕(((List Int)×Bool))):=
 if decide (t8<t7)=true then
  (pL t8 m m2).bind λo4=>
  (pe R111 t8 v o4 m2).bind λr5=>
  some (.inl (dt (t8+1),r5.1,r5.2))
 else
  some (.inr (m,m2))
def jS:Option (((List Int)×Bool)):=loop (λ(zz:Int×(List Int)×Bool)=>df R111 v t7 zz.1 zz.2.1 zz.2.2) (t8,m,m2)
theorem xc(hR111:cH R111):OL 2 (cA Wp 15) (df R111 v t7 t8 m m2) (λ(zz:Int×(List Int)×Bool)=>iJ v t7 zz.1 zz.2.1 zz.2.2) (λ_=>.exit 0) nH (iJ v t7 t8 m m2):=XP.l<|
 tF (tb λo4 bo4=>tb λr5 br5=>fc 2<|bT (yF v t8 t7 m m2 _ bo4)<|tc [1,0] (EW R111 hR111 _ br5)<|tE)<|tE
theorem yG(hR111:cH R111):OJ 2 (.loop (cA Wp 15)) (jS R111 v t7 t8 m m2) (.exit 0) nH (iJ v t7 t8 m m2):=y1 λ_=>xc _ _ _ _ _ _ hR111
end
def mh(R111:bI)(n:Int)(c:waD)(k0:(List Int))(k02:Bool):Option ((List Int)×Bool):=
 (jS R111 c n 0 k0 k02).bind λo6=>
 some (o6.1,o6.2)
theorem CK(R111:bI)(hR111:cH R111){n:Int}{c:waD}{k0:(List Int)}{k02:Bool}:OG 70 [.bptr 0 0,.int .i64 n,.func (.func 164) [] [.bptr 1 0,.eptr ((cL ah) c)]] [] [.cells [.nptr 0 76,sl (cI .u8) k0,.bool k02] [(1,5)],.cells [.bptr 0 0] []] (mh R111 n c k0 k02) (λr=>.tuple []) [] (λr=>[.cells [.nptr 0 76,sl (cI .u8) r.1,.bool r.2] [(1,5)],.cells [.bptr 0 0] []]):=XP.g 2<|
 tb λo6 bo6=>bT (yG R111 c n 0 k0 k02 hR111 _ bo6)<|tE
noncomputable def qpi:Code:=f110.body.getD .skip
def qmg:List Nat:=[]
theorem qoi:ZF Pg qmg 110 f110 qpi:=zf call110 func110 rfl mixed
def d7(R111:bI)(a:waD)(k0:(List Int))(k02:Bool):Option ((List Int)×Bool):=
 (al ([cE]:List ae) k0 k02).bind λr1=>
 (mh R111 (a.length:Int) a r1 k02).bind λr2=>
 (al ([dI]:List ae) r2.1 r2.2).bind λr3=>
 some (r3,r2.2)
theorem eZ(R111:bI)(hR111:cH R111){a:waD}{k0:(List Int)}{k02:Bool}:OG 110 [.bptr 0 0,sl ah a] [] [.cells [.nptr 0 76,sl (cI .u8) k0,.bool k02] [(1,5)]] (d7 R111 a k0 k02) (λr=>.tuple []) [] (λr=>[.cells [.nptr 0 76,sl (cI .u8) r.1,.bool r.2] [(1,5)]]):=qoi.g 1<|
 tb λr1 br1=>tb λr2 br2=>tb λr3 br3=>qhT (rfl:ca (.bptr 0 0)=some [.bptr 0 0]) rfl<|te (qqA ah a)<|ts<|tv (bJ [cE] 1 rfl)<|tc [0] (ak _ br1)<|ts<|tv (eC qlP (sl ah a) [])<|bL (dJ.ln a)<|tc [0,1] (CK R111 hR111 _ br2)<|ts<|tv (bJ [dI] 1 rfl)<|tc [0] (ak _ br3)<|tE
noncomputable def qpB:Code:=f166.body.getD .skip
def qmV:List Nat:=[]
theorem qoB:ZF Pg qmV 166 f166 qpB:=zf call166 func166 rfl mixed
def vA(t:af):Option Bool:=
 if (t.Op == 0) = true then
  if (t.Name == ([]:ae)) = true then
   if ((t.Args.length:Int) == 0) = true then
    if((t.Names.length:Int)==0)=true then
     (nK t.Pred).bind λr9=>
     if r9=true then
      some ((t.Preds.length:Int)==0)
     else
      some false
    else
     some false
   else
    some false
  else
   some false
 else
  some false
theorem OO{t:af}:OV 166 [.agg (ai t)] (vA t) (λr=>.bool r) []:=qoB.v<|
 te (dR t)<|have pp2:=λ{X Y Z} (r:PV _ X Y Z)=>tw (az t)<|r;tf (λc1=>have pp4:=λ{X Y Z} (r:PV _ X Y Z)=>pp2<|tg 4 c1<|tw (bP t)<|r;tf (λc3=>have pp6:=λ{X Y Z} (r:PV _ X Y Z)=>pp4<|tg 9 c3<|tw (aM t)<|bL (cu.ln t.Args)<|r;tf (λc5=>have pp8:=λ{X Y Z} (r:PV _ X Y Z)=>pp6<|tg 15 c5<|tw (aX t)<|bL (d8.ln t.Names)<|r;tf (λc7=>tb λr9 br9=>have pp11:=λ{X Y Z} (r:PV _ X Y Z)=>pp8<|tg 21 c7<|tw (cj t)<|bG (pN _ br9)<|r;tf (λc10=>pp11<|tg 26 c10<|tw (bm t)<|bL (dT.ln t.Preds)<|tE) λc10=>pp11<|tg 26 c10<|tE) λc7=>pp8<|tg 21 c7<|tE) λc5=>pp6<|tg 15 c5<|tE) λc3=>pp4<|tg 9 c3<|tE) λc1=>pp2<|tg 4 c1<|tE
noncomputable def qpA:Code:=f165.body.getD .skip
def qmU:List Nat:=[]
theorem qoA:ZF Pg qmU 165 f165 qpA:=zf call165 func165 rfl mixed
def nC(i:Int)(a:ag)(k1:(List Int))(k12:Bool):Option ((List Int)×Bool):=
 (cX a.Params i).bind λx1=>
 (cU x1.Name k1 k12).bind λr2=>
 (cX a.Params i).bind λx3=>
 (vA x3.Type_).bind λr4=>
 if(!r4)=true then
  (al ([bX]:List ae) r2.2 r2.1).bind λr6=>
  (cX a.Params i).bind λx7=>
  (dU x7.Type_ r6 r2.1).bind λr8=>
  some (r8.2,r8.1)
 else
  some (r2.2,r2.1)
theorem Dw{i:Int}{a:ag}{k1:(List Int)}{k12:Bool}:OG 165 [.int .i64 i,.bptr 0 0,.eptr (ah a)] [] [.cells [.bptr 1 0] [],.cells [.nptr 1 76,sl (cI .u8) k1,.bool k12] [(1,5)]] (nC i a k1 k12) (λr=>.tuple []) [] (λr=>[.cells [.bptr 1 0] [],.cells [.nptr 1 76,sl (cI .u8) r.1,.bool r.2] [(1,5)]]):=qoA.g 2<|
 tb λx1 bx1=>tb λr2 br2=>tb λx3 bx3=>tb λr4 br4=>tk<|O3 (.dx [0,0,2,0,14,30,62] [] [] [])<|ts<|tw (aS a)<|tv (pj.ia (k:=.i64) bx1)<|tw (o0 x1)<|tc [1] (dq _ br2)<|tw (aS a)<|tv (pj.ia (k:=.i64) bx3)<|tw (jz x3)<|bG (OO _ br4)<|tF (tb λr6 br6=>tb λx7 bx7=>tb λr8 br8=>ts<|tv (bJ [bX] 1 rfl)<|tc [1] (ak _ br6)<|tk<|O3 (.dx [0,0,2,0,14,30,62] [] [] [])<|ts<|tw (aS a)<|tv (pj.ia (k:=.i64) bx7)<|tw (jz x7)<|tc [1] (e7 _ br8)<|tE)<|tE
section
variable(v:ag)(i:Int)(t7:Int)(m:(List Int))(m2:Bool)
def oH:Option (((List Int))):=
 if decide (i>0)=true then
  (al ([aU]:List ae) m m2).bind λr3=>
  some r3
 else
  some m
theorem wY:OJ 2 (cA Wp 1014) (oH i m m2) .normal (λo=>aQ 20 [(0,.bptr 0 0),(2,.func (.func 165) [] [.bptr 1 0,.eptr (ah v)]),(6,.int .i64 i),(7,.int .i64 t7),(8,.int .i64 i)] [.cells [.nptr 0 76,sl (cI .u8) o,.bool m2] [(1,5)],.cells [.bptr 0 0] []] []) (aQ 20 [(0,.bptr 0 0),(2,.func (.func 165) [] [.bptr 1 0,.eptr (ah v)]),(6,.int .i64 i),(7,.int .i64 t7),(8,.int .i64 i)] [.cells [.nptr 0 76,sl (cI .u8) m,.bool m2] [(1,5)],.cells [.bptr 0 0] []] []):=XP.j<|
 tF (tb λr3 br3=>tv (bJ [aU] 1 rfl)<|tc [0] (ak _ br3)<|tE)<|tE
end
section
variable(v:ag)(t7:Int)(t8:Int)(m:(List Int))(m2:Bool)
def g5:aK:=aQ 20 [(0,.bptr 0 0),(2,.func (.func 165) [] [.bptr 1 0,.eptr (ah v)]),(7,.int .i64 t7),(8,.int .i64 t8)] [.cells [.nptr 0 76,sl (cI .u8) m,.bool m2] [(1,5)],.cells [.bptr 0 0] []] []
def mK(o:(List Int)×Bool):aK:=aQ 20 [] [.cells [.nptr 0 76,sl (cI .u8) o.1,.bool o.2] [(1,5)],.cells [.bptr 0 0] []] []
def cO:Option ((Int×(List Int)×Bool)⊕(((List Int)×Bool))):=
 if decide (t8<t7)=true then
  (oH t8 m m2).bind λo4=>
  (nC t8 v o4 m2).bind λr5=>
  some (.inl (dt (t8+1),r5.1,r5.2))
 else
  some (.inr (m,m2))
def jh:Option (((List Int)×Bool)):=loop (λ(zz:Int×(List Int)×Bool)=>cO v t7 zz.1 zz.2.1 zz.2.2) (t8,m,m2)
theorem wo:OL 2 (cA Wp 15) (cO v t7 t8 m m2) (λ(zz:Int×(List Int)×Bool)=>g5 v t7 zz.1 zz.2.1 zz.2.2) (λ_=>.exit 0) mK (g5 v t7 t8 m m2):=XP.l<|
 tF (tb λo4 bo4=>tb λr5 br5=>fc 2<|bT (wY v t8 t7 m m2 _ bo4)<|tc [1,0] (Dw _ br5)<|tE)<|tE
theorem wZ:OJ 2 (.loop (cA Wp 15)) (jh v t7 t8 m m2) (.exit 0) mK (g5 v t7 t8 m m2):=y1 λ_=>wo _ _ _ _ _
end
def gZ(n:Int)(c:ag)(k0:(List Int))(k02:Bool):Option ((List Int)×Bool):=
 (jh c n 0 k0 k02).bind λo6=>
 some (o6.1,o6.2)
theorem AP{n:Int}{c:ag}{k0:(List Int)}{k02:Bool}:OG 70 [.bptr 0 0,.int .i64 n,.func (.func 165) [] [.bptr 1 0,.eptr (ah c)]] [] [.cells [.nptr 0 76,sl (cI .u8) k0,.bool k02] [(1,5)],.cells [.bptr 0 0] []] (gZ n c k0 k02) (λr=>.tuple []) [] (λr=>[.cells [.nptr 0 76,sl (cI .u8) r.1,.bool r.2] [(1,5)],.cells [.bptr 0 0] []]):=XP.g 2<|
 tb λo6 bo6=>bT (wZ c n 0 k0 k02 _ bo6)<|tE
noncomputable def qd0:Code:=f111.body.getD .skip
def qmh:List Nat:=[117]
theorem qgb:ZF Pg qmh 111 f111 qd0:=zf call111 func111 rfl mixed
section
variable(e:ag)(m:(List Int))(m2:Bool)
def me:Option (((List Int)×Bool)):=
 if decide ((e.Types.length:Int)>0)=true then
  (al ([bX]:List ae) m m2).bind λr11=>
  (cX e.Types 0).bind λx12=>
  (dU x12 r11 m2).bind λr13=>
  some (r13.2,r13.1)
 else
  some (m,m2)
theorem CE:OJ 1 (cA qd0 2038) (me e m m2) .normal (λo=>aQ 176 [(2,.bptr 1 0),(3,.eptr (ah e))] [.cells [.nptr 0 76,sl (cI .u8) o.1,.bool o.2] [(1,5)],.cells [.bptr 0 0] [],.dead] []) (aQ 176 [(2,.bptr 1 0),(3,.eptr (ah e))] [.cells [.nptr 0 76,sl (cI .u8) m,.bool m2] [(1,5)],.cells [.bptr 0 0] [],.dead] []):=qgb.j<|
 tw (aw e)<|bL (cu.ln e.Types)<|tF (tb λr11 br11=>tb λx12 bx12=>tb λr13 br13=>ts<|tv (bJ [bX] 1 rfl)<|tc [0] (ak _ br11)<|tk<|O3 (.dx [0,0,2,6,14] [] [] [])<|ts<|tw (aw e)<|tv (cu.ia (k:=.i64) bx12)<|tv (bo x12)<|tc [0] (e7 _ br13)<|tE)<|tE
end
section
variable(i:Int)(t113:waE)(t114:Int)(m:(List Int))(m2:Bool)(m3:ae)(m4:waA)(m5:Int)(m6:ae)(m7:Int)(m8:waD)(m9:waF)(m10:waE)(m11:waB)
def tK:Option (((List Int))):=
 if decide (i>0)=true then
  (al ([kP]:List ae) m m2).bind λr39=>
  some r39
 else
  some m
theorem CF:OJ 1 (cA qd0 33545718) (tK i m m2) .normal (λo=>aQ 176 [(2,.bptr 1 0),(5,.bptr 3 0),(113,sl bE t113),(114,.int .i64 t114),(115,.int .i64 i)] [.cells [.nptr 0 76,sl (cI .u8) o,.bool m2] [(1,5)],.cells [.bptr 0 0] [],.dead,.cells [.str m3,sl cS m4,.int .i64 m5,.str m6,.int .i64 m7,sl ah m8,sl bw m9,sl bE m10,sl ai m11] []] []) (aQ 176 [(2,.bptr 1 0),(4,.int .i64 i),(5,.bptr 3 0),(113,sl bE t113),(114,.int .i64 t114),(115,.int .i64 i)] [.cells [.nptr 0 76,sl (cI .u8) m,.bool m2] [(1,5)],.cells [.bptr 0 0] [],.dead,.cells [.str m3,sl cS m4,.int .i64 m5,.str m6,.int .i64 m7,sl ah m8,sl bw m9,sl bE m10,sl ai m11] []] []):=qgb.j<|
 tF (tb λr39 br39=>ts<|tv (bJ [kP] 1 rfl)<|tc [0] (ak _ br39)<|tE)<|tE
end
section
variable(R111:bI)(t113:waE)(t114:Int)(t115:Int)(m:(List Int))(m2:Bool)
def gK:aK:=aQ 176 [(2,.bptr 1 0),(113,sl bE t113),(114,.int .i64 t114),(115,.int .i64 t115)] [.cells [.nptr 0 76,sl (cI .u8) m,.bool m2] [(1,5)],.cells [.bptr 0 0] [],.dead] []
def kG(o:(List Int)×Bool):aK:=aQ 176 [(2,.bptr 1 0)] [.cells [.nptr 0 76,sl (cI .u8) o.1,.bool o.2] [(1,5)],.cells [.bptr 0 0] [],.dead] []
instance iS_print_writer_block_L2:KS 1 (gK t113 t114 t115 m m2):=⟨rfl,(bD (aI (cZ rfl) (aI (up (aZ oc t113)) (aI vzz (aI vzz vzz))))),(aI (aI (cZ rfl) (aI (up (aZ (U1 .u8) m)) (aI vzz vzz))) (aI (aI (cZ rfl) trivial) (aI vzz vzz)))⟩
instance iO_print_writer_block_L2{o:((List Int)×Bool)}:KS 1 (kG o):=⟨rfl,(bD (aI (cZ rfl) trivial)),(aI (aI (cZ rfl) (aI (up (aZ (U1 .u8) o.1)) (aI vzz vzz))) (aI (aI (cZ rfl) trivial) (aI vzz vzz)))⟩
def ef:Option ((Int×(List Int)×Bool)⊕(((List Int)×Bool))):=
 if decide (t115<t114)=true then
  (cX t113 t115).bind λx37=>
  (tK t115 m m2).bind λo40=>
  (fY x37.Con o40 m2).bind λr41=>
  (iL x37.Names r41.2 r41.1).bind λr42=>
  (al ([kO]:List ae) r42.1 r42.2).bind λr43=>
  (R111 x37.Body r43 r42.2).bind λr44=>
  some (.inl (dt (t115+1),r44.1,r44.2))
 else
  some (.inr (m,m2))
def iV:Option (((List Int)×Bool)):=loop (λ(zz:Int×(List Int)×Bool)=>ef R111 t113 t114 zz.1 zz.2.1 zz.2.2) (t115,m,m2)
theorem AO(hR111:cH R111):OL 1 (cA qd0 524151) (ef R111 t113 t114 t115 m m2) (λ(zz:Int×(List Int)×Bool)=>gK t113 t114 zz.1 zz.2.1 zz.2.2) (λ_=>.exit 1) kG (gK t113 t114 t115 m m2):=qgb.lx<|
 tF (tb λx37 bx37=>tb λo40 bo40=>tb λr41 br41=>tb λr42 br42=>tb λr43 br43=>tb λr44 br44=>tv (gz.ia (k:=.i64) bx37)<|tv (yp x37)<|tx PF<|tx (wk x37)<|fc 0<|bT (CF t115 t113 t114 m m2 x37.Con x37.Names x37.Body.Op x37.Body.Name x37.Body.N x37.Body.Kids x37.Body.Params x37.Body.Alts x37.Body.Types _ bo40)<|ts<|ts<|tc [0] (mj _ br41)<|ts<|ts<|tc [0] (tM _ br42)<|ts<|tv (bJ [kO] 1 rfl)<|tc [0] (ak _ br43)<|ts<|tv (im x37.Body [])<|tc [0] (hR111 _ _ _ _ br44)<|tE)<|tE
theorem CG(hR111:cH R111):OJ 1 (.loop (cA qd0 524151)) (iV R111 t113 t114 t115 m m2) (.exit 1) kG (gK t113 t114 t115 m m2):=y1 λ_=>AO _ _ _ _ _ _ hR111
end
def ly(R111:bI)(e:ag)(k0:(List Int))(k02:Bool):Option ((List Int)×Bool):=
 if(e.Op==6)=true then
  (al ([nQ]:List ae) k0 k02).bind λr2=>
  (gZ (e.Params.length:Int) e r2 k02).bind λr3=>
  (al ([cG]:List ae) r3.1 r3.2).bind λr4=>
  (cX e.Kids 0).bind λx5=>
  (R111 x5 r4 r3.2).bind λr6=>
  some (r6.1,r6.2)
 else if(e.Op==7)=true then
  (al ([wE]:List ae) k0 k02).bind λr8=>
  (cU e.Name r8 k02).bind λr9=>
  (me e r9.2 r9.1).bind λo14=>
  (al ([ii]:List ae) o14.1 o14.2).bind λr15=>
  (cX e.Kids 0).bind λx16=>
  (R111 x16 r15 o14.2).bind λr17=>
  (al ([eS]:List ae) r17.1 r17.2).bind λr18=>
  (cX e.Kids 1).bind λx19=>
  (R111 x19 r18 r17.2).bind λr20=>
  some (r20.1,r20.2)
 else if(e.Op==8)=true then
  (al ([Fj]:List ae) k0 k02).bind λr22=>
  (cX e.Kids 0).bind λx23=>
  (R111 x23 r22 k02).bind λr24=>
  (al ([lF]:List ae) r24.1 r24.2).bind λr25=>
  (cX e.Kids 1).bind λx26=>
  (R111 x26 r25 r24.2).bind λr27=>
  (al ([lE]:List ae) r27.1 r27.2).bind λr28=>
  (cX e.Kids 2).bind λx29=>
  (R111 x29 r28 r27.2).bind λr30=>
  some (r30.1,r30.2)
 else if(e.Op==9)=true then
  (al ([uK]:List ae) k0 k02).bind λr32=>
  (cX e.Kids 0).bind λx33=>
  (R111 x33 r32 k02).bind λr34=>
  (al ([gf]:List ae) r34.1 r34.2).bind λr35=>
  (iV R111 e.Alts (e.Alts.length:Int) 0 r35 r34.2).bind λo45=>
  (al ([Ay]:List ae) o45.1 o45.2).bind λr46=>
  some (r46,o45.2)
 else if(e.Op==25)=true then
  (al ([Az]:List ae) k0 k02).bind λr48=>
  (cU e.Name r48 k02).bind λr49=>
  (al ([dh]:List ae) r49.2 r49.1).bind λr50=>
  (OY e.Kids none (some (dt ((e.Kids.length:Int) - 1)))).bind λl51=>
  (d7 R111 l51 r50 r49.1).bind λr52=>
  (al ([eS]:List ae) r52.1 r52.2).bind λr53=>
  (cX e.Kids (dt ((e.Kids.length:Int) - 1))).bind λx54=>
  (R111 x54 r53 r52.2).bind λr55=>
  some (r55.1,r55.2)
 else
  some (k0,k02)
theorem Gp(R111:bI)(hR111:cH R111){e:ag}{k0:(List Int)}{k02:Bool}:OG 111 [.bptr 0 0,.agg (ah e)] [] [.cells [.nptr 0 76,sl (cI .u8) k0,.bool k02] [(1,5)]] (ly R111 e k0 k02) (λr=>.tuple []) [] (λr=>[.cells [.nptr 0 76,sl (cI .u8) r.1,.bool r.2] [(1,5)]]):=qgb.g 1<|
 qhT (rfl:ca (.bptr 0 0)=some [.bptr 0 0]) rfl<|te (bQ e)<|tw (bk e)<|tF (tb λr2 br2=>tb λr3 br3=>tb λr4 br4=>tb λx5 bx5=>tb λr6 br6=>ts<|tv (bJ [nQ] 1 rfl)<|tc [0] (ak _ br2)<|ts<|tw (aS e)<|bL (pj.ln e.Params)<|tc [0,1] (AP _ br3)<|ts<|tv (bJ [cG] 1 rfl)<|tc [0] (ak _ br4)<|tk<|O3 (.dx [0,0,2,6,14] [] [] [])<|ts<|tw (aq e)<|tv (dJ.ia (k:=.i64) bx5)<|tv (aF x5)<|tc [0] (hR111 _ _ _ _ br6)<|tE)<|tF (tb λr8 br8=>tb λr9 br9=>tb λo14 bo14=>tb λr15 br15=>tb λx16 bx16=>tb λr17 br17=>tb λr18 br18=>tb λx19 bx19=>tb λr20 br20=>ts<|tv (bJ [wE] 1 rfl)<|tc [0] (ak _ br8)<|ts<|tw (ch e)<|tc [0] (dq _ br9)<|fc 0<|bT (CE e r9.2 r9.1 _ bo14)<|ts<|tv (bJ [ii] 1 rfl)<|tc [0] (ak _ br15)<|tk<|O3 (.dx [0,0,2,6,14] [] [] [])<|ts<|tw (aq e)<|tv (dJ.ia (k:=.i64) bx16)<|tv (aF x16)<|tc [0] (hR111 _ _ _ _ br17)<|ts<|tv (bJ [eS] 1 rfl)<|tc [0] (ak _ br18)<|tk<|O3 (.dx [0,0,2,6,14] [] [] [])<|ts<|tw (aq e)<|tv (dJ.ia (k:=.i64) bx19)<|tv (aF x19)<|tc [0] (hR111 _ _ _ _ br20)<|tE)<|tF (tb λr22 br22=>tb λx23 bx23=>tb λr24 br24=>tb λr25 br25=>tb λx26 bx26=>tb λr27 br27=>tb λr28 br28=>tb λx29 bx29=>tb λr30 br30=>ts<|tv (bJ [Fj] 1 rfl)<|tc [0] (ak _ br22)<|tk<|O3 (.dx [0,0,2,6,14] [] [] [])<|ts<|tw (aq e)<|tv (dJ.ia (k:=.i64) bx23)<|tv (aF x23)<|tc [0] (hR111 _ _ _ _ br24)<|ts<|tv (bJ [lF] 1 rfl)<|tc [0] (ak _ br25)<|tk<|O3 (.dx [0,0,2,6,14] [] [] [])<|ts<|tw (aq e)<|tv (dJ.ia (k:=.i64) bx26)<|tv (aF x26)<|tc [0] (hR111 _ _ _ _ br27)<|ts<|tv (bJ [lE] 1 rfl)<|tc [0] (ak _ br28)<|tk<|O3 (.dx [0,0,2,6,14] [] [] [])<|ts<|tw (aq e)<|tv (dJ.ia (k:=.i64) bx29)<|tv (aF x29)<|tc [0] (hR111 _ _ _ _ br30)<|tE)<|tF (tb λr32 br32=>tb λx33 bx33=>tb λr34 br34=>tb λr35 br35=>tb λo45 bo45=>tb λr46 br46=>ts<|tv (bJ [uK] 1 rfl)<|tc [0] (ak _ br32)<|tk<|O3 (.dx [0,0,2,6,14] [] [] [])<|ts<|tw (aq e)<|tv (dJ.ia (k:=.i64) bx33)<|tv (aF x33)<|tc [0] (hR111 _ _ _ _ br34)<|ts<|tv (bJ [gf] 1 rfl)<|tc [0] (ak _ br35)<|tw (aB e)<|bL (gz.ln e.Alts)<|bT (CG R111 e.Alts (e.Alts.length:Int) 0 r35 r34.2 hR111 _ bo45)<|ts<|tv (bJ [Ay] 1 rfl)<|tc [0] (ak _ br46)<|tE)<|tF (tb λr48 br48=>tb λr49 br49=>tb λr50 br50=>tb λl51 bl51=>tb λr52 br52=>tb λr53 br53=>tb λx54 bx54=>tb λr55 br55=>tw (aq e)<|bL (dJ.ln e.Kids)<|ts<|tv (bJ [Az] 1 rfl)<|tc [0] (ak _ br48)<|ts<|tw (ch e)<|tc [0] (dq _ br49)<|ts<|tv (bJ [dh] 1 rfl)<|tc [0] (ak _ br50)<|tk<|O3 (.dx [0,0,2,0,14] [] [] [])<|ts<|tw (aq e)<|tv (dJ.sc bl51)<|tc [0] (eZ R111 hR111 _ br52)<|ts<|tv (bJ [eS] 1 rfl)<|tc [0] (ak _ br53)<|tk<|O3 (.dx [0,0,2,0,14,30] [] [] [])<|ts<|tw (aq e)<|tv (dJ.ia (k:=.i64) bx54)<|tv (aF x54)<|tc [0] (hR111 _ _ _ _ br55)<|tE)<|tE
noncomputable def qd1:Code:=f114.body.getD .skip
def qmk:List Nat:=[]
theorem qdQ:ZF Pg qmk 114 f114 qd1:=zf call114 func114 rfl mixed
section
variable(e:ag)(t4:Int)
def H3:Option Bool:=
 if(t4==7)=true then
  some (t4==7)
 else if(t4==8)=true then
  some (t4==8)
 else if(t4==9)=true then
  some (t4==9)
 else if(t4==6)=true then
  some (t4==6)
 else
  some (t4==25)
theorem MU:OJ 0 (cA qd1 54) (H3 t4) .normal (λo=>aQ 36 [(1,.eptr (ah e)),(4,.int .i64 t4),(5,.bool o)] [.dead] []) (aQ 36 [(1,.eptr (ah e)),(4,.int .i64 t4)] [.dead] []):=qdQ.j<|
 tF tE<|tF tE<|tF tE<|tF tE<|tE
end
section
variable(t4:Int)
def H4:Option Bool:=
 if(t4==16)=true then
  some (t4==16)
 else if(t4==17)=true then
  some (t4==17)
 else
  some (t4==18)
theorem MV:OJ 0 (cA qd1 14334) (H4 t4) .normal (λo=>aQ 36 [(4,.int .i64 t4),(23,.bool o)] [.dead] []) (aQ 36 [(4,.int .i64 t4)] [.dead] []):=qdQ.j<|
 tF tE<|tF tE<|tE
end
section
variable(t4:Int)
def H5:Option Bool:=
 if(t4==10)=true then
  some (t4==10)
 else
  some (t4==11)
theorem MW:OJ 0 (cA qd1 57342) (H5 t4) .normal (λo=>aQ 36 [(4,.int .i64 t4),(27,.bool o)] [.dead] []) (aQ 36 [(4,.int .i64 t4)] [.dead] []):=qdQ.j<|
 tF tE<|tE
end
section
variable(t4:Int)
def H6:Option Bool:=
 if(t4==12)=true then
  some (t4==12)
 else if(t4==13)=true then
  some (t4==13)
 else
  some (t4==14)
theorem MX:OJ 0 (cA qd1 229374) (H6 t4) .normal (λo=>aQ 36 [(4,.int .i64 t4),(30,.bool o)] [.dead] []) (aQ 36 [(4,.int .i64 t4)] [.dead] []):=qdQ.j<|
 tF tE<|tF tE<|tE
end
def wn(e:ag):Option Int:=
 (H3 e.Op).bind λo5=>
 if o5=true then
  some 0
 else if(e.Op==20)=true then
  some 1
 else if(e.Op==19)=true then
  some 2
 else if(e.Op==21)=true then
  (cX e.Kids 0).bind λx10=>
  if(x10.Op==16)=true then
   some 4
  else
   some 3
 else
  (H4 e.Op).bind λo14=>
  if o14=true then
   some 4
  else
   (H5 e.Op).bind λo17=>
   if o17=true then
    some 5
   else
    (H6 e.Op).bind λo21=>
    if o21=true then
     some 6
    else if(e.Op==15)=true then
     some 7
    else
     some 8
theorem Ac{e:ag}:OV 114 [.agg (ah e)] (wn e) (λr=>.int .i64 r) []:=qdQ.v<|
 tb λo5 bo5=>te (bQ e)<|tw (bk e)<|fc 0<|bT (MU e e.Op _ bo5)<|tF tE<|tF tE<|tF tE<|tF (tb λx10 bx10=>tw (aq e)<|tv (dJ.ia (k:=.i64) bx10)<|tw (bk x10)<|tF tE<|tE)<|tb λo14 bo14=>fc 0<|bT (MV e.Op _ bo14)<|tF tE<|tb λo17 bo17=>fc 0<|bT (MW e.Op _ bo17)<|tF tE<|tb λo21 bo21=>fc 0<|bT (MX e.Op _ bo21)<|tF tE<|tF tE<|tE
noncomputable def qpk:Code:=f113.body.getD .skip
def qmj:List Nat:=[]
theorem qok:ZF Pg qmj 113 f113 qpk:=zf call113 func113 rfl mixed
def fX(R111:bI)(e:ag)(least:Int)(k0:(List Int))(k02:Bool):Option ((List Int)×Bool):=
 (wn e).bind λr1=>
 if decide (r1<least)=true then
  (al ([cE]:List ae) k0 k02).bind λr3=>
  (R111 e r3 k02).bind λr4=>
  (al ([dI]:List ae) r4.1 r4.2).bind λr5=>
  some (r5,r4.2)
 else
  (R111 e k0 k02).bind λr6=>
  some (r6.1,r6.2)
theorem kg(R111:bI)(hR111:cH R111){e:ag}{least:Int}{k0:(List Int)}{k02:Bool}:OG 113 [.bptr 0 0,.agg (ah e),.int .i64 least] [] [.cells [.nptr 0 76,sl (cI .u8) k0,.bool k02] [(1,5)]] (fX R111 e least k0 k02) (λr=>.tuple []) [] (λr=>[.cells [.nptr 0 76,sl (cI .u8) r.1,.bool r.2] [(1,5)]]):=qok.g 1<|
 tb λr1 br1=>te (bQ e)<|tv (aF e)<|bG (Ac _ br1)<|tF (tb λr3 br3=>tb λr4 br4=>tb λr5 br5=>tv (bJ [cE] 1 rfl)<|tc [0] (ak _ br3)<|tv (aF e)<|tc [0] (hR111 _ _ _ _ br4)<|tv (bJ [dI] 1 rfl)<|tc [0] (ak _ br5)<|tE)<|tb λr6 br6=>tv (aF e)<|tc [0] (hR111 _ _ _ _ br6)<|tE
noncomputable def qpj:Code:=f112.body.getD .skip
def qmi:List Nat:=[]
theorem qoj:ZF Pg qmi 112 f112 qpj:=zf call112 func112 rfl mixed
def fy(R111:bI)(a:ag)(sign:ae)(a2:ag)(first:Int)(second:Int)(k0:(List Int))(k02:Bool):Option ((List Int)×Bool):=
 (fX R111 a first k0 k02).bind λr1=>
 (al ([dh,sign,dh]:List ae) r1.1 r1.2).bind λr2=>
 (fX R111 a2 second r2 r1.2).bind λr3=>
 some (r3.1,r3.2)
theorem lw(R111:bI)(hR111:cH R111){a:ag}{sign:ae}{a2:ag}{first:Int}{second:Int}{k0:(List Int)}{k02:Bool}:OG 112 [.bptr 0 0,.agg (ah a),.str sign,.agg (ah a2),.int .i64 first,.int .i64 second] [] [.cells [.nptr 0 76,sl (cI .u8) k0,.bool k02] [(1,5)]] (fy R111 a sign a2 first second k0 k02) (λr=>.tuple []) [] (λr=>[.cells [.nptr 0 76,sl (cI .u8) r.1,.bool r.2] [(1,5)]]):=qoj.g 1<|
 tb λr1 br1=>tb λr2 br2=>tb λr3 br3=>te (bQ a)<|te (bQ a2)<|tv (aF a)<|tc [0] (kg R111 hR111 _ br1)<|tv (bJ [dh,sign,dh] 3 rfl)<|tc [0] (ak _ br2)<|tv (aF a2)<|tc [0] (kg R111 hR111 _ br3)<|tE
noncomputable def qqf:Code:=f64.body.getD .skip
def qse:List Nat:=[]
theorem qpd:ZF Pg qse 64 f64 qqf:=zf call64 func64 rfl mixed
section
variable(e:ag)(t6:Int)(m:(List Int))(m2:Bool)
def jG:Option Bool:=
 if(t6==6)=true then
  some (t6==6)
 else if(t6==7)=true then
  some (t6==7)
 else if(t6==8)=true then
  some (t6==8)
 else if(t6==9)=true then
  some (t6==9)
 else
  some (t6==25)
theorem Dx:OJ 1 (cA qqf 32766) (jG t6) .normal (λo=>aQ 203 [(0,.bptr 0 0),(3,.eptr (ah e)),(6,.int .i64 t6),(90,.bool o)] [.cells [.nptr 0 76,sl (cI .u8) m,.bool m2] [(1,5)],.dead] []) (aQ 203 [(0,.bptr 0 0),(3,.eptr (ah e)),(6,.int .i64 t6)] [.cells [.nptr 0 76,sl (cI .u8) m,.bool m2] [(1,5)],.dead] []):=qpd.j<|
 tF tE<|tF tE<|tF tE<|tF tE<|tE
end
section
variable(e:ag)(t6:Int)(m:(List Int))(m2:Bool)
def jH:Option Bool:=
 if(t6==16)=true then
  some (t6==16)
 else if(t6==17)=true then
  some (t6==17)
 else
  some (t6==18)
theorem Dy:OJ 1 (cA qqf 536870910) (jH t6) .normal (λo=>aQ 203 [(0,.bptr 0 0),(3,.eptr (ah e)),(185,.bool o)] [.cells [.nptr 0 76,sl (cI .u8) m,.bool m2] [(1,5)],.dead] []) (aQ 203 [(0,.bptr 0 0),(3,.eptr (ah e)),(6,.int .i64 t6)] [.cells [.nptr 0 76,sl (cI .u8) m,.bool m2] [(1,5)],.dead] []):=qpd.j<|
 tF tE<|tF tE<|tE
end
def kf(R111:bI)(e:ag)(k0:(List Int))(k02:Bool):Option ((List Int)×Bool):=
 if(e.Op==1)=true then
  if decide (e.N<0)=true then
   (SH e.N).bind λr3=>
   (al ([cE,r3,dI]:List ae) k0 k02).bind λr4=>
   some (r4,k02)
  else
   (SH e.N).bind λr5=>
   (al ([r5]:List ae) k0 k02).bind λr6=>
   some (r6,k02)
 else if(e.Op==2)=true then
  (gb (e.N==1)).bind λr8=>
  (al ([r8]:List ae) k0 k02).bind λr9=>
  some (r9,k02)
 else if(e.Op==3)=true then
  (cU e.Name k0 k02).bind λr11=>
  some (r11.2,r11.1)
 else if(e.Op==4)=true then
  (fY e.Name k0 k02).bind λr13=>
  (iM e.Types r13.2 r13.1).bind λr14=>
  if decide ((e.Kids.length:Int)>0)=true then
   (d7 R111 e.Kids r14.1 r14.2).bind λr16=>
   some (r16.1,r16.2)
  else
   some (r14.1,r14.2)
 else if(e.Op==5)=true then
  (cU e.Name k0 k02).bind λr18=>
  (iM e.Types r18.2 r18.1).bind λr19=>
  (d7 R111 e.Kids r19.1 r19.2).bind λr20=>
  some (r20.1,r20.2)
 else
  (jG e.Op).bind λo25=>
  if o25=true then
   (ly R111 e k0 k02).bind λr27=>
   some (r27.1,r27.2)
  else if(e.Op==21)=true then
   (cX e.Kids 0).bind λx29=>
   if(x29.Op==16)=true then
    (cX x29.Kids 0).bind λx31=>
    (cX x29.Kids 1).bind λx32=>
    (fy R111 x31 gV x32 5 5 k0 k02).bind λr33=>
    some (r33.1,r33.2)
   else
    (al ([xS]:List ae) k0 k02).bind λr34=>
    (fX R111 x29 3 r34 k02).bind λr35=>
    some (r35.1,r35.2)
  else if(e.Op==15)=true then
   (al ([pT]:List ae) k0 k02).bind λr37=>
   (cX e.Kids 0).bind λx38=>
   (fX R111 x38 7 r37 k02).bind λr39=>
   some (r39.1,r39.2)
  else if(e.Op==22)=true then
   (al ([VS]:List ae) k0 k02).bind λr41=>
   (d7 R111 e.Kids r41 k02).bind λr42=>
   some (r42.1,r42.2)
  else if(e.Op==23)=true then
   (al ([VQ]:List ae) k0 k02).bind λr44=>
   (d7 R111 e.Kids r44 k02).bind λr45=>
   some (r45.1,r45.2)
  else if(e.Op==24)=true then
   (al ([VT]:List ae) k0 k02).bind λr47=>
   (d7 R111 e.Kids r47 k02).bind λr48=>
   some (r48.1,r48.2)
  else if(e.Op==26)=true then
   (al ([cE]:List ae) k0 k02).bind λr50=>
   (cX e.Kids 0).bind λx51=>
   (R111 x51 r50 k02).bind λr52=>
   (al ([bX]:List ae) r52.1 r52.2).bind λr53=>
   (cX e.Types 0).bind λx54=>
   (dU x54 r53 r52.2).bind λr55=>
   (al ([dI]:List ae) r55.2 r55.1).bind λr56=>
   some (r56,r55.1)
  else
   (jH e.Op).bind λo59=>
   if o59=true then
    (cX e.Kids 0).bind λx61=>
    (cX jF e.Op).bind λx62=>
    (cX e.Kids 1).bind λx63=>
    (fy R111 x61 x62 x63 5 5 k0 k02).bind λr64=>
    some (r64.1,r64.2)
   else
    (cX e.Kids 0).bind λx65=>
    (cX jF e.Op).bind λx66=>
    (cX e.Kids 1).bind λx67=>
    (wn e).bind λr68=>
    (wn e).bind λr69=>
    (fy R111 x65 x66 x67 r68 (dt (r69+1)) k0 k02).bind λr70=>
    some (r70.1,r70.2)
theorem Gr(R111:bI)(hR111:cH R111){e:ag}{k0:(List Int)}{k02:Bool}:OG 64 [.bptr 0 0,.agg (ah e)] [] [.cells [.nptr 0 76,sl (cI .u8) k0,.bool k02] [(1,5)]] (kf R111 e k0 k02) (λr=>.tuple []) [] (λr=>[.cells [.nptr 0 76,sl (cI .u8) r.1,.bool r.2] [(1,5)]]):=qpd.g 1<|
 te (bQ e)<|tw (bk e)<|tF (tw (bF e)<|tF (tb λr3 br3=>tb λr4 br4=>tw (bF e)<|bG (Q6 br3)<|tv (bJ [cE,r3,dI] 3 rfl)<|tc [0] (ak _ br4)<|tE)<|tb λr5 br5=>tb λr6 br6=>tw (bF e)<|bG (Q6 br5)<|tv (bJ [r5] 1 rfl)<|tc [0] (ak _ br6)<|tE)<|tF (tb λr8 br8=>tb λr9 br9=>tw (bF e)<|bG (tR _ br8)<|tv (bJ [r8] 1 rfl)<|tc [0] (ak _ br9)<|tE)<|tF (tb λr11 br11=>tw (ch e)<|tc [0] (dq _ br11)<|tE)<|tF (tb λr13 br13=>tb λr14 br14=>tw (ch e)<|tc [0] (mj _ br13)<|tw (aw e)<|tc [0] (tO _ br14)<|tw (aq e)<|bL (dJ.ln e.Kids)<|tF (tb λr16 br16=>tw (aq e)<|tc [0] (eZ R111 hR111 _ br16)<|tE)<|tE)<|tF (tb λr18 br18=>tb λr19 br19=>tb λr20 br20=>tw (ch e)<|tc [0] (dq _ br18)<|tw (aw e)<|tc [0] (tO _ br19)<|tw (aq e)<|tc [0] (eZ R111 hR111 _ br20)<|tE)<|tb λo25 bo25=>fc 0<|bT (Dx e e.Op k0 k02 _ bo25)<|tF (tb λr27 br27=>tv (aF e)<|tc [0] (Gp R111 hR111 _ br27)<|tE)<|tF (tb λx29 bx29=>tw (aq e)<|tv (dJ.ia (k:=.i64) bx29)<|tv (aF x29)<|tx UO<|tx (y2 x29)<|ts<|tF (tb λx31 bx31=>tb λx32 bx32=>tb λr33 br33=>tk<|O3 (.dx [0,0,2,6,14,0,32,96,224] [] [] [])<|ts<|tv (dJ.ia (k:=.i64) bx31)<|tv (aF x31)<|ts<|tv (dJ.ia (k:=.i64) bx32)<|tv (aF x32)<|tc [0] (lw R111 hR111 _ br33)<|tE)<|tb λr34 br34=>tb λr35 br35=>tv (bJ [xS] 1 rfl)<|tc [0] (ak _ br34)<|tv (im x29 [])<|tc [0] (kg R111 hR111 _ br35)<|tE)<|tF (tb λr37 br37=>tb λx38 bx38=>tb λr39 br39=>tv (bJ [pT] 1 rfl)<|tc [0] (ak _ br37)<|tw (aq e)<|tv (dJ.ia (k:=.i64) bx38)<|tv (aF x38)<|tc [0] (kg R111 hR111 _ br39)<|tE)<|tF (tb λr41 br41=>tb λr42 br42=>tv (bJ [VS] 1 rfl)<|tc [0] (ak _ br41)<|tw (aq e)<|tc [0] (eZ R111 hR111 _ br42)<|tE)<|tF (tb λr44 br44=>tb λr45 br45=>tv (bJ [VQ] 1 rfl)<|tc [0] (ak _ br44)<|tw (aq e)<|tc [0] (eZ R111 hR111 _ br45)<|tE)<|tF (tb λr47 br47=>tb λr48 br48=>tv (bJ [VT] 1 rfl)<|tc [0] (ak _ br47)<|tw (aq e)<|tc [0] (eZ R111 hR111 _ br48)<|tE)<|tF (tb λr50 br50=>tb λx51 bx51=>tb λr52 br52=>tb λr53 br53=>tb λx54 bx54=>tb λr55 br55=>tb λr56 br56=>tv (bJ [cE] 1 rfl)<|tc [0] (ak _ br50)<|tw (aq e)<|tv (dJ.ia (k:=.i64) bx51)<|tv (aF x51)<|tc [0] (hR111 _ _ _ _ br52)<|tv (bJ [bX] 1 rfl)<|tc [0] (ak _ br53)<|tw (aw e)<|tv (cu.ia (k:=.i64) bx54)<|tv (bo x54)<|tc [0] (e7 _ br55)<|tv (bJ [dI] 1 rfl)<|tc [0] (ak _ br56)<|tE)<|tb λo59 bo59=>fc 0<|bT (Dy e e.Op k0 k02 _ bo59)<|tF (tb λx61 bx61=>tb λx62 bx62=>tb λx63 bx63=>tb λr64 br64=>tk<|O3 (.dx [0,0,2,6,14,0,32,96,224,0,512,1536,3584] [] [] [])<|tw (aq e)<|tv (dJ.ia (k:=.i64) bx61)<|tv (aF x61)<|tw (bk e)<|tv (H7 (k:=.i64) bx62)<|tv (H8 bx62)<|tw (aq e)<|tv (dJ.ia (k:=.i64) bx63)<|tv (aF x63)<|tc [0] (lw R111 hR111 _ br64)<|tE)<|tb λx65 bx65=>tb λx66 bx66=>tb λx67 bx67=>tb λr68 br68=>tb λr69 br69=>tb λr70 br70=>tk<|O3 (.dx [0,0,2,6,14,0,32,96,224,0,512,1536,3584,0,8192,0,57344,122880] [] [] [])<|tw (aq e)<|tv (dJ.ia (k:=.i64) bx65)<|tv (aF x65)<|tw (bk e)<|tv (H7 (k:=.i64) bx66)<|tv (H8 bx66)<|tw (aq e)<|tv (dJ.ia (k:=.i64) bx67)<|tv (aF x67)<|tv (aF e)<|bG (Ac _ br68)<|tv (aF e)<|bG (Ac _ br69)<|tc [0] (lw R111 hR111 _ br70)<|tE
def pg:((ag×(List Int)×Bool)->Option ((List Int)×Bool))->(ag×(List Int)×Bool)->Option ((List Int)×Bool):=λ(rec:(ag×(List Int)×Bool)->Option ((List Int)×Bool)) (x:ag×(List Int)×Bool)=>kf (λe k0 k02=>rec (e,k0,k02)) x.1 x.2.1 x.2.2
def sA(e:ag)(k0:(List Int))(k02:Bool):Option ((List Int)×Bool):=pA pg (e,k0,k02)
theorem Ia{e:ag}{k0:(List Int)}{k02:Bool}:OG 64 [.bptr 0 0,.agg (ah e)] [] [.cells [.nptr 0 76,sl (cI .u8) k0,.bool k02] [(1,5)]] (sA e k0 k02) (λr=>.tuple []) [] (λr=>[.cells [.nptr 0 76,sl (cI .u8) r.1,.bool r.2] [(1,5)]]):=Vo λ_ h=>
 dN (F:=pg) (M:=λ(x:ag×(List Int)×Bool) (r:(List Int)×Bool)=>C Pg GE 64 [.bptr 0 0,.agg (ah x.1)] [] [.cells [.nptr 0 76,sl (cI .u8) x.2.1,.bool x.2.2] [(1,5)]] (.tuple []) [] [.cells [.nptr 0 76,sl (cI .u8) r.1,.bool r.2] [(1,5)]]) (λrec hrec x r h=>Gr _ (λe k0 k02=>Vo λr h=>hrec (e,k0,k02) r h) _ h) h
noncomputable def qtd:Code:=f27.body.getD .skip
def qrT:List Nat:=[]
theorem qsK:ZF Pg qrT 27 f27 qtd:=zf call27 func27 rfl mixed
def lD(e:ag)(k0:(List Int))(k02:Bool):Option (Bool×(List Int)):=
 (yK e).bind λr1=>
 if(r1 !=0)=true then
  some (true,k0)
 else
  (sA e k0 k02).bind λr3=>
  some (r3.2,r3.1)
theorem tP{e:ag}{k0:(List Int)}{k02:Bool}:OG 27 [.bptr 0 0,.agg (ah e)] [] [.cells [.nptr 0 76,sl (cI .u8) k0,.bool k02] [(1,5)]] (lD e k0 k02) (λr=>.tuple []) [] (λr=>[.cells [.nptr 0 76,sl (cI .u8) r.2,.bool r.1] [(1,5)]]):=qsK.g 1<|
 tb λr1 br1=>te (bQ e)<|tv (aF e)<|bG (QP _ br1)<|tF (ts<|tE)<|tb λr3 br3=>tv (aF e)<|tc [0] (Ia _ br3)<|tE
noncomputable def qlZ:Code:=f38.body.getD .skip
def qrZ:List Nat:=[]
theorem qlY:ZF Pg qrZ 38 f38 qlZ:=zf call38 func38 rfl mixed
section
variable(d:j3)(assumed:Bool)(m:(List Int))(m2:Bool)
def xL:Option (((List Int)×Bool)):=
 if(d.Mode==0)=true then
  (al ([ZB]:List ae) m m2).bind λr2=>
  some (r2,m2)
 else if(d.Mode==2)=true then
  (al ([Nv]:List ae) m m2).bind λr4=>
  some (r4,m2)
 else if(d.Mode==1)=true then
  (al ([PM]:List ae) m m2).bind λr6=>
  some (r6,m2)
 else
  some (m,true)
theorem EZ:OJ 1 (cA qlZ 14) (xL d m m2) .normal (λo=>aQ 75 [(0,.bptr 0 0),(3,.eptr (ct d)),(4,.bool assumed)] [.cells [.nptr 0 76,sl (cI .u8) o.1,.bool o.2] [(1,5)],.dead] []) (aQ 75 [(0,.bptr 0 0),(3,.eptr (ct d)),(4,.bool assumed)] [.cells [.nptr 0 76,sl (cI .u8) m,.bool m2] [(1,5)],.dead] []):=qlY.j<|
 tw (rT d)<|tF (tb λr2 br2=>tv (bJ [ZB] 1 rfl)<|tc [0] (ak _ br2)<|tE)<|tF (tb λr4 br4=>tv (bJ [Nv] 1 rfl)<|tc [0] (ak _ br4)<|tE)<|tF (tb λr6 br6=>tv (bJ [PM] 1 rfl)<|tc [0] (ak _ br6)<|tE)<|ts<|tE
end
section
variable(d:j3)(assumed:Bool)(m:(List Int))(m2:Bool)
def xM:Option Bool:=
 if(d.Mode !=0)=true then
  if(!d.Typed)=true then
   some true
  else if assumed=true then
   (Ij d.Body (⟨0,([]:ae),0,([]:List ag),([]:List cP),([]:List cK),([]:List af)⟩:ag)).bind λr14=>
   some (!r14)
  else
   some false
 else if assumed=true then
  (Ij d.Body (⟨0,([]:ae),0,([]:List ag),([]:List cP),([]:List cK),([]:List af)⟩:ag)).bind λr17=>
  some (!r17)
 else
  some false
theorem E0:OJ 1 (cA qlZ 60) (xM d assumed) .normal (λo=>aQ 75 [(0,.bptr 0 0),(3,.eptr (ct d)),(4,.bool assumed),(45,.bool o)] [.cells [.nptr 0 76,sl (cI .u8) m,.bool m2] [(1,5)],.dead] []) (aQ 75 [(0,.bptr 0 0),(3,.eptr (ct d)),(4,.bool assumed)] [.cells [.nptr 0 76,sl (cI .u8) m,.bool m2] [(1,5)],.dead] []):=qlY.j<|
 have pp9:=λ{X Y Z} (r:PV _ X Y Z)=>tw (rT d)<|r;tf (λc8=>have pp11:=λ{X Y Z} (r:PV _ X Y Z)=>pp9<|tg 4 c8<|tw (BJ d)<|r;tf (λc10=>pp11<|tg 9 c10<|tE) λc10=>have pp13:=λ{X Y Z} (r:PV _ X Y Z)=>pp11<|tg 9 c10<|r;tf (λc12=>tb λr14 br14=>pp13<|tg 11 c12<|tw (rS d)<|QT (Kw) (Kt)<|bG (Ik _ br14)<|tE) λc12=>pp13<|tg 11 c12<|tE) λc8=>have pp16:=λ{X Y Z} (r:PV _ X Y Z)=>pp9<|tg 4 c8<|r;tf (λc15=>tb λr17 br17=>pp16<|tg 11 c15<|tw (rS d)<|QT (Kw) (Kt)<|bG (Ik _ br17)<|tE) λc15=>pp16<|tg 11 c15<|tE
end
section
variable(d:j3)(assumed:Bool)(m:(List Int))(m2:Bool)
def xO:Option (((List Int)×Bool)):=
 if d.Typed=true then
  (al ([bX]:List ae) m m2).bind λr23=>
  (DE d.Sig r23 m2).bind λr24=>
  some (r24.1,r24.2)
 else
  some (m,m2)
theorem E1:OJ 1 (cA qlZ 254) (xO d m m2) .normal (λo=>aQ 75 [(0,.bptr 0 0),(3,.eptr (ct d)),(4,.bool assumed)] [.cells [.nptr 0 76,sl (cI .u8) o.1,.bool o.2] [(1,5)],.dead] []) (aQ 75 [(0,.bptr 0 0),(3,.eptr (ct d)),(4,.bool assumed)] [.cells [.nptr 0 76,sl (cI .u8) m,.bool m2] [(1,5)],.dead] []):=qlY.j<|
 tw (BJ d)<|tF (tb λr23 br23=>tb λr24 br24=>tv (bJ [bX] 1 rfl)<|tc [0] (ak _ br23)<|tw (KK d)<|tc [0] (Jn _ br24)<|tE)<|tE
end
def uu(d:j3)(k0:(List Int))(k02:Bool):Option ((List Int)×Bool):=
 (xL d k0 k02).bind λo7=>
 (xM d (d.Mode==1)).bind λo18=>
 if o18=true then
  some (o7.1,true)
 else
  (cU d.Name o7.1 o7.2).bind λr20=>
  (iL d.Params r20.2 r20.1).bind λr21=>
  (xO d r21.1 r21.2).bind λo25=>
  if(!(d.Mode==1))=true then
   (al ([ii]:List ae) o25.1 o25.2).bind λr27=>
   (lD d.Body r27 o25.2).bind λr28=>
   some (r28.2,r28.1)
  else
   some (o25.1,o25.2)
theorem xP{d:j3}{k0:(List Int)}{k02:Bool}:OG 38 [.bptr 0 0,.agg (ct d)] [] [.cells [.nptr 0 76,sl (cI .u8) k0,.bool k02] [(1,5)]] (uu d k0 k02) (λr=>.tuple []) [] (λr=>[.cells [.nptr 0 76,sl (cI .u8) r.1,.bool r.2] [(1,5)]]):=qlY.g 1<|
 tb λo7 bo7=>tb λo18 bo18=>te (qby d)<|tw (rT d)<|fc 0<|bT (EZ d (d.Mode==1) k0 k02 _ bo7)<|fc 1<|bT (E0 d (d.Mode==1) o7.1 o7.2 _ bo18)<|tF (ts<|tE)<|tb λr20 br20=>tb λr21 br21=>tb λo25 bo25=>tw (N4 d)<|tc [0] (dq _ br20)<|tw (Mp d)<|tc [0] (tM _ br21)<|fc 0<|bT (E1 d (d.Mode==1) r21.1 r21.2 _ bo25)<|tF (tb λr27 br27=>tb λr28 br28=>tv (bJ [ii] 1 rfl)<|tc [0] (ak _ br27)<|tw (rS d)<|tc [0] (tP _ br28)<|tE)<|tE
noncomputable def qtu:Code:=f82.body.getD .skip
def qsp:List Nat:=[]
theorem qs1:ZF Pg qsp 82 f82 qtu:=zf call82 func82 rfl mixed
def xQ(k0:(List Int))(k02:Bool):Option Int:=
 some (k0.length:Int)
theorem Fb{k0:(List Int)}{k02:Bool}:OG 82 [.bptr 0 0] [] [.cells [.nptr 0 76,sl (cI .u8) k0,.bool k02] [(1,5)]] (xQ k0 k02) (λr=>.int .i64 r) [] (λr=>[.cells [.nptr 0 76,sl (cI .u8) k0,.bool k02] [(1,5)]]):=qs1.g 1<|
 ts<|bL (qjG.ln k0)<|tE
noncomputable def qti:Code:=f39.body.getD .skip
def qr0:List Nat:=[]
theorem qsP:ZF Pg qr0 39 f39 qti:=zf call39 func39 rfl mixed
def sy(k0:(List Int))(k02:Bool):Option (ae×Int):=
 if k02=true then
  some (([]:ae),6)
 else
  (xQ k0 k02).bind λr2=>
  if decide (r2>40000)=true then
   some (([]:ae),7)
  else
   (Iw k0 k02).bind λr4=>
   some (r4,0)
theorem wq{k0:(List Int)}{k02:Bool}:OG 39 [.bptr 0 0] [] [.cells [.nptr 0 76,sl (cI .u8) k0,.bool k02] [(1,5)]] (sy k0 k02) (λr=>.tuple [.str r.1,.int .i64 r.2]) [] (λr=>[.cells [.nptr 0 76,sl (cI .u8) k0,.bool k02] []]):=qsP.g 1<|
 ts<|tF tE<|tb λr2 br2=>tc [0] (Fb _ br2)<|tF tE<|tb λr4 br4=>tc [0] (L5 br4)<|tE
noncomputable def qta:Code:=f17.body.getD .skip
def qrM:List Nat:=[]
theorem qsH:ZF Pg qrM 17 f17 qta:=zf call17 func17 rfl mixed
def Vu(d:j3):Option (ae×Int):=
 (uu d ([]:List Int) false).bind λr1=>
 (sy r1.1 r1.2).bind λr2=>
 some (r2.1,r2.2)
theorem Xu{d:j3}:OV 17 [.agg (ct d)] (Vu d) (λr=>.tuple [.str r.1,.int .i64 r.2]) []:=qsH.v<|
 tb λr1 br1=>tb λr2 br2=>te (qby d)<|QT (show cx Pg 76 []=some (.agg [.val (.pointer none),sl (cI .u8) ([]:List Int),.bool false]) by kernel_rfl) (show wT Pg 76 [] [(1,5)]from⟨[.val (.pointer none),.val eO,.bool false],by kernel_rfl,(aI rfl vzz)⟩)<|ty (ql6 [.val (.pointer none),sl (cI .u8) ([]:List Int),.bool false])<|tv (qbh d)<|tc [1] (xP _ br1)<|tc [1] (wq _ br2)<|tE
def B4(d:As)(k0:(List Int))(k02:Bool):Option ((List Int)×Bool):=none
theorem H9{d:As}{k0:(List Int)}{k02:Bool}:OG 32 [.bptr 0 0,.agg (lm d)] [] [.cells [.nptr 0 76,sl (cI .u8) k0,.bool k02] [(1,5)]] (B4 d k0 k02) (λr=>.tuple []) [] (λr=>[.cells [.nptr 0 76,sl (cI .u8) r.1,.bool r.2] [(1,5)]]):=Vo λr h=>by cases(show(none:Option _)=some r from h)
def Ad(c:qx)(k0:(List Int))(k02:Bool):Option ((List Int)×Bool):=none
theorem Gq{c:qx}{k0:(List Int)}{k02:Bool}:OG 34 [.bptr 0 0,.agg (iy c)] [] [.cells [.nptr 0 76,sl (cI .u8) k0,.bool k02] [(1,5)]] (Ad c k0 k02) (λr=>.tuple []) [] (λr=>[.cells [.nptr 0 76,sl (cI .u8) r.1,.bool r.2] [(1,5)]]):=Vo λr h=>by cases(show(none:Option _)=some r from h)
def tL(a:gd)(k0:(List Int))(k02:Bool):Option ((List Int)×Bool):=none
theorem CM{a:gd}{k0:(List Int)}{k02:Bool}:OG 35 [.bptr 0 0,.agg (dZ a)] [] [.cells [.nptr 0 76,sl (cI .u8) k0,.bool k02] [(1,5)]] (tL a k0 k02) (λr=>.tuple []) [] (λr=>[.cells [.nptr 0 76,sl (cI .u8) r.1,.bool r.2] [(1,5)]]):=Vo λr h=>by cases(show(none:Option _)=some r from h)
def wt(a:iP)(k0:(List Int))(k02:Bool):Option ((List Int)×Bool):=none
theorem Dz{a:iP}{k0:(List Int)}{k02:Bool}:OG 36 [.bptr 0 0,.agg (eI a)] [] [.cells [.nptr 0 76,sl (cI .u8) k0,.bool k02] [(1,5)]] (wt a k0 k02) (λr=>.tuple []) [] (λr=>[.cells [.nptr 0 76,sl (cI .u8) r.1,.bool r.2] [(1,5)]]):=Vo λr h=>by cases(show(none:Option _)=some r from h)
def sB(q:At)(k0:(List Int))(k02:Bool):Option ((List Int)×Bool):=none
theorem AS{q:At}{k0:(List Int)}{k02:Bool}:OG 37 [.bptr 0 0,.agg (kc q)] [] [.cells [.nptr 0 76,sl (cI .u8) k0,.bool k02] [(1,5)]] (sB q k0 k02) (λr=>.tuple []) [] (λr=>[.cells [.nptr 0 76,sl (cI .u8) r.1,.bool r.2] [(1,5)]]):=Vo λr h=>by cases(show(none:Option _)=some r from h)
end Go.Proofs.YtibglelmlnfojaaGreatDoor
