/- PROVED: a part of the proof. Conditions: none. -/
import Derived.Test.YtankopenjcbeeaaGreatDoords13
set_option linter.unusedSimpArgs false
set_option linter.unusedVariables false
noncomputable section
namespace Go.Proofs.YtankopenjcbeeaaGreatDoor
open Go Go.Proofs.Tryz
set_option linter.unusedVariables false
set_option maxRecDepth 100000
abbrev eW:=(ag->Int->Option ac)
abbrev i8(R:eW):Prop:=∀(p:ag) (least:Int),OG 274 [.agg (aa p),.int .i64 least,.bptr 0 0,.bptr 1 0] [] [.cells [.func (.func 274) [] [.bptr 0 0,.bptr 1 0]] [],.cells [.func (.func 271) [] [.bptr 0 0]] []] (R p least) (λr=>.str r) [] (λr=>[.cells [.func (.func 274) [] [.bptr 0 0,.bptr 1 0]] [],.cells [.func (.func 271) [] [.bptr 0 0]] []])
noncomputable def qbH:Code:=f276.body.getD .skip
def Zy:List Nat:=[]
theorem qaH:ZF Pg Zy 276 f276 qbH:=zf call276 func276 rfl mixed
def tD(op:Int):Option (aF×Bool):=
 if(op==18)=true then
  some ((⟨1,1,2,wD⟩:aF),true)
 else if(op==17)=true then
  some ((⟨2,3,2,G7⟩:aF),true)
 else if(op==16)=true then
  some ((⟨3,3,4,G8⟩:aF),true)
 else if(op==15)=true then
  some ((⟨4,4,5,G5⟩:aF),true)
 else if(op==10)=true then
  some ((⟨6,7,7,Qs⟩:aF),true)
 else if(op==11)=true then
  some ((⟨6,7,7,Cm⟩:aF),true)
 else if(op==12)=true then
  some ((⟨6,7,7,Mi⟩:aF),true)
 else if(op==13)=true then
  some ((⟨6,7,7,G6⟩:aF),true)
 else if(op==6)=true then
  some ((⟨7,7,8,Qr⟩:aF),true)
 else if(op==7)=true then
  some ((⟨7,7,8,IE⟩:aF),true)
 else if(op==8)=true then
  some ((⟨8,8,9,Qq⟩:aF),true)
 else
  some ((⟨0,0,0,([]:ac)⟩:aF),false)
theorem v6{op:Int}:OV 276 [.int .i64 op] (tD op) (λr=>.tuple [.agg (eh r.1),.bool r.2]) []:=qaH.v<|
 tx SL<|tF (tv (bz 1 1 2 wD)<|tx (bX (⟨1,1,2,wD⟩:aF))<|GV λq=>aI (vaS PVal.tuple (cP (cr (⟨1,1,2,wD⟩:aF)) (cP (rP (.bool true)) (rfl:([]:List PVal)=[])))) q.2)<|tF (tv (bz 2 3 2 G7)<|tx (bX (⟨2,3,2,G7⟩:aF))<|GV λq=>aI (vaS PVal.tuple (cP (cr (⟨2,3,2,G7⟩:aF)) (cP (rP (.bool true)) (rfl:([]:List PVal)=[])))) q.2)<|tF (tv (bz 3 3 4 G8)<|tx (bX (⟨3,3,4,G8⟩:aF))<|GV λq=>aI (vaS PVal.tuple (cP (cr (⟨3,3,4,G8⟩:aF)) (cP (rP (.bool true)) (rfl:([]:List PVal)=[])))) q.2)<|tF (tv (bz 4 4 5 G5)<|tx (bX (⟨4,4,5,G5⟩:aF))<|GV λq=>aI (vaS PVal.tuple (cP (cr (⟨4,4,5,G5⟩:aF)) (cP (rP (.bool true)) (rfl:([]:List PVal)=[])))) q.2)<|tF (tv (bz 6 7 7 Qs)<|tx (bX (⟨6,7,7,Qs⟩:aF))<|GV λq=>aI (vaS PVal.tuple (cP (cr (⟨6,7,7,Qs⟩:aF)) (cP (rP (.bool true)) (rfl:([]:List PVal)=[])))) q.2)<|tF (tv (bz 6 7 7 Cm)<|tx (bX (⟨6,7,7,Cm⟩:aF))<|GV λq=>aI (vaS PVal.tuple (cP (cr (⟨6,7,7,Cm⟩:aF)) (cP (rP (.bool true)) (rfl:([]:List PVal)=[])))) q.2)<|tF (tv (bz 6 7 7 Mi)<|tx (bX (⟨6,7,7,Mi⟩:aF))<|GV λq=>aI (vaS PVal.tuple (cP (cr (⟨6,7,7,Mi⟩:aF)) (cP (rP (.bool true)) (rfl:([]:List PVal)=[])))) q.2)<|tF (tv (bz 6 7 7 G6)<|tx (bX (⟨6,7,7,G6⟩:aF))<|GV λq=>aI (vaS PVal.tuple (cP (cr (⟨6,7,7,G6⟩:aF)) (cP (rP (.bool true)) (rfl:([]:List PVal)=[])))) q.2)<|tF (tv (bz 7 7 8 Qr)<|tx (bX (⟨7,7,8,Qr⟩:aF))<|GV λq=>aI (vaS PVal.tuple (cP (cr (⟨7,7,8,Qr⟩:aF)) (cP (rP (.bool true)) (rfl:([]:List PVal)=[])))) q.2)<|tF (tv (bz 7 7 8 IE)<|tx (bX (⟨7,7,8,IE⟩:aF))<|GV λq=>aI (vaS PVal.tuple (cP (cr (⟨7,7,8,IE⟩:aF)) (cP (rP (.bool true)) (rfl:([]:List PVal)=[])))) q.2)<|tF (tv (bz 8 8 9 Qq)<|tx (bX (⟨8,8,9,Qq⟩:aF))<|GV λq=>aI (vaS PVal.tuple (cP (cr (⟨8,8,9,Qq⟩:aF)) (cP (rP (.bool true)) (rfl:([]:List PVal)=[])))) q.2)<|tv (Ea)<|tx (bX (⟨0,0,0,([]:ac)⟩:aF))<|GV λq=>aI (vaS PVal.tuple (cP (cr (⟨0,0,0,([]:ac)⟩:aF)) (cP (rP (.bool false)) (rfl:([]:List PVal)=[])))) q.2
noncomputable def qbG:Code:=f275.body.getD .skip
def Zx:List Nat:=[]
theorem qaG:ZF Pg Zx 275 f275 qbG:=zf call275 func275 rfl mixed
def BK(p:ag):Option Int:=
 if(p.Op==14)=true then
  some 5
 else if(p.Op==9)=true then
  some 9
 else
  (tD p.Op).bind λr3=>
  if r3.2=true then
   some r3.1.level
  else
   some 10
theorem Gt{p:ag}:OV 275 [.agg (aa p)] (BK p) (λr=>.int .i64 r) []:=qaG.v<|
 te (fy p)<|tw (aK p)<|tF tE<|tF tE<|tb λr3 br3=>tw (aK p)<|ck (v6 _ br3)<|tx SL<|tx (bX r3.1)<|tF (ts<|tE)<|tE
noncomputable def qbE:Code:=f272.body.getD .skip
def Zv:List Nat:=[]
theorem qaE:ZF Pg Zv 272 f272 qbE:=zf call272 func272 rfl mixed
def dF(a:waA):Option ac:=
 (P4 a ([]:ac)).bind λr1=>
 some r1
theorem dn{a:waA}:OV 272 [sl cS a] (dF a) (λr=>.str r) []:=qaE.v<|
 tb λr1 br1=>ck (NY br1)<|tE
noncomputable def qbz:Code:=f245.body.getD .skip
def Zo:List Nat:=[]
theorem qaz:ZF Pg Zo 245 f245 qbz:=zf call245 func245 rfl mixed
def jl(a:Bool):Option ac:=
 if a=true then
  some ([116,114,117,101]:ac)
 else
  some ([102,97,108,115,101]:ac)
theorem pf{a:Bool}:OV 245 [.bool a] (jl a) (λr=>.str r) []:=qaz.v<|
 tF tE<|tE
noncomputable def qbk:Code:=f203.body.getD .skip
def YZ:List Nat:=[]
theorem qal:ZF Pg YZ 203 f203 qbk:=zf call203 func203 rfl mixed
def mh(a:Bool):Option ac:=
 (jl a).bind λr1=>
 some r1
theorem oP{a:Bool}:OV 203 [.bool a] (mh a) (λr=>.str r) []:=qal.v<|
 tb λr1 br1=>ck (pf _ br1)<|tE
noncomputable def U3:Code:=f271.body.getD .skip
def Zu:List Nat:=[13]
theorem WB:ZF Pg Zu 271 f271 U3:=zf call271 func271 rfl mixed
section
variable(R64:eW)(t7:waB)(t8:Int)(out:waA)(t9:Int)
def gg:ay:=aM 24 [(1,.bptr 0 0),(4,sl cS out),(7,sl aa t7),(8,.int .i64 t8),(9,.int .i64 t9)] [.cells [.func (.func 274) [] [.bptr 0 0,.bptr 1 0]] [],.cells [.func (.func 271) [] [.bptr 0 0]] []] [((4,0),9)]
def jP(o:waA):ay:=aM 24 [(4,sl cS o)] [.cells [.func (.func 274) [] [.bptr 0 0,.bptr 1 0]] [],.cells [.func (.func 271) [] [.bptr 0 0]] []] [((4,0),9)]
instance iS_predtext_Text_1_L1:KS 2 (gg t7 t8 out t9):=⟨rfl,(bk (aI (bH rfl) (aI (up (ak eU out)) (aI (up (ak aJ t7)) (aI vzz (aI vzz vzz)))))),(aI (aI (aI vzz (aI (bH rfl) (aI (bH rfl) trivial))) trivial) (aI (aI (aI vzz (aI (bH rfl) trivial)) trivial) trivial))⟩
instance iO_predtext_Text_1_L1{o:waA}:KS 2 (jP o):=⟨rfl,(bk (aI (up (ak eU o)) trivial)),(aI (aI (aI vzz (aI (bH rfl) (aI (bH rfl) trivial))) trivial) (aI (aI (aI vzz (aI (bH rfl) trivial)) trivial) trivial))⟩
def pW:Option ((waA×Int)⊕(waA)):=
 if decide (t9<t8)=true then
  (dw t7 t9).bind λx2=>
  (R64 x2 1).bind λr3=>
  (app out ([r3]:List ac)).bind λl4=>
  some (.inl (l4,fh (t9+1)))
 else
  some (.inr out)
def tA:Option waA:=loop (λ(zz:waA×Int)=>pW R64 t7 t8 zz.1 zz.2) (out,t9)
theorem yZ(hR64:i8 R64):OL 2 (cA U3 119) (pW R64 t7 t8 out t9) (λ(zz:waA×Int)=>gg t7 t8 zz.1 zz.2) (λ_=>.exit 0) jP (gg t7 t8 out t9):=WB.lx<|
 tF (tb λx2 bx2=>tb λr3 br3=>tb λl4 bl4=>tv (fl.ia (k:=.i64) bx2)<|tv (co x2)<|tx PA<|tx (mt x2)<|ts<|tv (iS x2 [])<|tc [0,1] (hR64 _ _ _ br3)<|tv (bK [r3] 1 rfl)<|tv (cz.ap bl4)<|tE)<|tE
theorem AM(hR64:i8 R64):OJ 2 (.loop (cA U3 119)) (tA R64 t7 t8 out t9) (.exit 0) jP (gg t7 t8 out t9):=sQ λ_=>yZ _ _ _ _ _ hR64
end
def qx(R64:eW)(a:waB):Option ac:=
 (tA R64 a (a.length:Int) ([]:List ac) 0).bind λo5=>
 (P4 o5 ee).bind λr6=>
 (dF ([mD,r6,mE]:List ac)).bind λr7=>
 some r7
theorem tB(R64:eW)(hR64:i8 R64){a:waB}:OG 271 [sl aa a,.bptr 0 0] [] [.cells [.func (.func 274) [] [.bptr 0 0,.bptr 1 0]] [],.cells [.func (.func 271) [] [.bptr 0 0]] []] (qx R64 a) (λr=>.str r) [] (λr=>[.cells [.func (.func 274) [] [.bptr 0 0,.bptr 1 0]] [],.cells [.func (.func 271) [] [.bptr 0 0]] []]):=WB.g 2<|
 tb λo5 bo5=>tb λr6 br6=>tb λr7 br7=>cb (fl.ln a)<|cu (AM R64 a (a.length:Int) ([]:List ac) 0 hR64 _ bo5)<|ck (NY br6)<|tv (bK [mD,r6,mE] 3 rfl)<|ck (dn _ br7)<|tE
noncomputable def qbF:Code:=f274.body.getD .skip
def Zw:List Nat:=[]
theorem qaF:ZF Pg Zw 274 f274 qbF:=zf call274 func274 rfl mixed
def vY(R64:eW)(p:ag)(least:Int):Option ac:=
 (BK p).bind λr1=>
 if decide (r1<least)=true then
  (R64 p 1).bind λr3=>
  (dF ([mD,r3,mE]:List ac)).bind λr4=>
  some r4
 else
  (tD p.Op).bind λr5=>
  if r5.2=true then
   (dw p.Kids 0).bind λx7=>
   (R64 x7 r5.1.left).bind λr8=>
   (dw p.Kids 1).bind λx9=>
   (R64 x9 r5.1.right).bind λr10=>
   (dF ([r8,wA,r5.1.sign,wA,r10]:List ac)).bind λr11=>
   some r11
  else if(p.Op==1)=true then
   if decide (p.N<0)=true then
    (NW p.N).bind λr14=>
    (dF ([mD,r14,mE]:List ac)).bind λr15=>
    some r15
   else
    (NW p.N).bind λr16=>
    some r16
  else if(p.Op==2)=true then
   (mh (p.N==1)).bind λr18=>
   some r18
  else if(p.Op==3)=true then
   some p.Name
  else if(p.Op==4)=true then
   (qx R64 p.Kids).bind λr21=>
   (dF ([p.Name,r21]:List ac)).bind λr22=>
   some r22
  else if(p.Op==5)=true then
   (qx R64 p.Kids).bind λr24=>
   (dF ([Qt,p.Name,r24]:List ac)).bind λr25=>
   some r25
  else if(p.Op==14)=true then
   (dw p.Kids 0).bind λx27=>
   (R64 x27 5).bind λr28=>
   (dF ([Qp,r28]:List ac)).bind λr29=>
   some r29
  else
   (dw p.Kids 0).bind λx30=>
   (R64 x30 9).bind λr31=>
   (dF ([IE,r31]:List ac)).bind λr32=>
   some r32
theorem C2(R64:eW)(hR64:i8 R64){p:ag}{least:Int}:OG 274 [.agg (aa p),.int .i64 least,.bptr 0 0,.bptr 1 0] [] [.cells [.func (.func 274) [] [.bptr 0 0,.bptr 1 0]] [],.cells [.func (.func 271) [] [.bptr 0 0]] []] (vY R64 p least) (λr=>.str r) [] (λr=>[.cells [.func (.func 274) [] [.bptr 0 0,.bptr 1 0]] [],.cells [.func (.func 271) [] [.bptr 0 0]] []]):=qaF.g 2<|
 tb λr1 br1=>te (fy p)<|tv (co p)<|ck (Gt _ br1)<|tF (tb λr3 br3=>tb λr4 br4=>ts<|tv (co p)<|tc [0,1] (hR64 _ _ _ br3)<|tv (bK [mD,r3,mE] 3 rfl)<|ck (dn _ br4)<|tE)<|tb λr5 br5=>tw (aK p)<|ck (v6 _ br5)<|tx SL<|tx (bX r5.1)<|tF (tb λx7 bx7=>tb λr8 br8=>tb λx9 bx9=>tb λr10 br10=>tb λr11 br11=>Av (.dx [0,0,2,6,14,0,32,127,0,256,0,0,2048,6144,14336,0,32768,130303,262143,524287,1048575] [] [] [0,2,3,11,263,301,317,343])<|ts<|tw (aL p)<|tv (fl.ia (k:=.i64) bx7)<|tv (co x7)<|ts<|qdu [0,1] (hR64 _ _ _ br8)<|ts<|ts<|tw (aL p)<|tv (fl.ia (k:=.i64) bx9)<|tv (co x9)<|ts<|qdu [0,1] (hR64 _ _ _ br10)<|tv (bK [r8,wA,r5.1.sign,wA,r10] 5 rfl)<|ck (dn _ br11)<|tE)<|tw (aK p)<|tF (tw (bU p)<|tF (tb λr14 br14=>tb λr15 br15=>tw (bU p)<|ck (Jk br14)<|tv (bK [mD,r14,mE] 3 rfl)<|ck (dn _ br15)<|tE)<|tb λr16 br16=>tw (bU p)<|ck (Jk br16)<|tE)<|tF (tb λr18 br18=>tw (bU p)<|ck (oP _ br18)<|tE)<|tF (tw (cQ p)<|tE)<|tF (tb λr21 br21=>tb λr22 br22=>Av (.dx [0,1,0,0,8,28,63,127,255] [] [] [3,11,589,617])<|tw (cQ p)<|ts<|tw (aL p)<|tc [0,1] (tB R64 hR64 _ br21)<|tv (bK [p.Name,r21] 2 rfl)<|ck (dn _ br22)<|tE)<|tF (tb λr24 br24=>tb λr25 br25=>Av (.dx [0,1,0,0,8,28,63,127,255] [] [] [3,11,669,697])<|tw (cQ p)<|ts<|tw (aL p)<|tc [0,1] (tB R64 hR64 _ br24)<|tv (bK [Qt,p.Name,r24] 3 rfl)<|ck (dn _ br25)<|tE)<|tF (tb λx27 bx27=>tb λr28 br28=>tb λr29 br29=>Av (.dx [0,0,2,6,14,31,63,127,255] [] [] [3,11,777])<|ts<|tw (aL p)<|tv (fl.ia (k:=.i64) bx27)<|tv (co x27)<|tc [0,1] (hR64 _ _ _ br28)<|tv (bK [Qp,r28] 2 rfl)<|ck (dn _ br29)<|tE)<|tb λx30 bx30=>tb λr31 br31=>tb λr32 br32=>Av (.dx [0,0,2,6,14,31,63,127,255] [] [] [3,11,841])<|ts<|tw (aL p)<|tv (fl.ia (k:=.i64) bx30)<|tv (co x30)<|tc [0,1] (hR64 _ _ _ br31)<|tv (bK [IE,r31] 2 rfl)<|ck (dn _ br32)<|tE
def vZ:((ag×Int)->Option ac)->(ag×Int)->Option ac:=λ(rec:(ag×Int)->Option ac) (x:ag×Int)=>vY (λp least=>rec (p,least)) x.1 x.2
def Af(p:ag)(least:Int):Option ac:=Bq vZ (p,least)
theorem EH{p:ag}{least:Int}:OG 274 [.agg (aa p),.int .i64 least,.bptr 0 0,.bptr 1 0] [] [.cells [.func (.func 274) [] [.bptr 0 0,.bptr 1 0]] [],.cells [.func (.func 271) [] [.bptr 0 0]] []] (Af p least) (λr=>.str r) [] (λr=>[.cells [.func (.func 274) [] [.bptr 0 0,.bptr 1 0]] [],.cells [.func (.func 271) [] [.bptr 0 0]] []]):=N4 λ_ h=>
 fg (F:=vZ) (M:=λ(x:ag×Int) (r:ac)=>C Pg GE 274 [.agg (aa x.1),.int .i64 x.2,.bptr 0 0,.bptr 1 0] [] [.cells [.func (.func 274) [] [.bptr 0 0,.bptr 1 0]] [],.cells [.func (.func 271) [] [.bptr 0 0]] []] (.str r) [] [.cells [.func (.func 274) [] [.bptr 0 0,.bptr 1 0]] [],.cells [.func (.func 271) [] [.bptr 0 0]] []]) (λrec hrec x r h=>C2 _ (λp least=>N4 λr h=>hrec (p,least) r h) _ h) h
noncomputable def qbq:Code:=f229.body.getD .skip
def Y8:List Nat:=[11]
theorem qaq:ZF Pg Y8 229 f229 qbq:=zf call229 func229 rfl mixed
def DK(p:ag):Option (ac×Int):=
 (EF p).bind λr1=>
 if(r1 !=0)=true then
  some (([]:ac),r1)
 else
  (Af p 1).bind λr3=>
  some (r3,0)
theorem HQ{p:ag}:OV 229 [.agg (aa p)] (DK p) (λr=>.tuple [.str r.1,.int .i64 r.2]) []:=qaq.v<|
 tb λr1 br1=>te (fy p)<|tv (co p)<|ck (Lw br1)<|tF tE<|tb λr3 br3=>tx XC<|tx XD<|ts<|ts<|ts<|tv (co p)<|tc [1,2] (EH _ br3)<|tE
noncomputable def WS:Code:=f179.body.getD .skip
def YH:List Nat:=[]
theorem Ws:ZF Pg YH 179 f179 WS:=zf call179 func179 rfl mixed
section
variable(s:ac)(e:Int)(m:(List Int))(m2:Bool)
def p9:Option Bool:=
 if m2=true then
  some true
 else
  some (e !=0)
theorem xP:OJ 1 (cA WS 14) (p9 e m2) .normal (λo=>aM 26 [(0,.bptr 0 0),(4,.str s)] [.cells [.nptr 0 132,sl (cI .u8) m,.bool o] [(1,5)],.dead] []) (aM 26 [(0,.bptr 0 0),(4,.str s),(5,.int .i64 e)] [.cells [.nptr 0 132,sl (cI .u8) m,.bool m2] [(1,5)],.dead] []):=Ws.j<|
 tf (λc2=>ts<|tg 6 c2<|ts<|tE) λc2=>ts<|tg 6 c2<|ts<|tE
end
def gh(p:ag)(k0:(List Int))(k02:Bool):Option ((List Int)×Bool):=
 (DK p).bind λr1=>
 (p9 r1.2 k02).bind λo3=>
 (af ([r1.1]:List ac) k0 o3).bind λr4=>
 some (r4,o3)
theorem gi{p:ag}{k0:(List Int)}{k02:Bool}:OG 179 [.bptr 0 0,.agg (aa p)] [] [.cells [.nptr 0 132,sl (cI .u8) k0,.bool k02] [(1,5)]] (gh p k0 k02) (λr=>.tuple []) [] (λr=>[.cells [.nptr 0 132,sl (cI .u8) r.1,.bool r.2] [(1,5)]]):=Ws.g 1<|
 tb λr1 br1=>tb λo3 bo3=>tb λr4 br4=>te (fy p)<|tv (co p)<|ck (HQ _ br1)<|gz 0<|cu (xP r1.1 r1.2 k0 k02 _ bo3)<|tv (bK [r1.1] 1 rfl)<|tc [0] (ae _ br4)<|tE
noncomputable def qa7:Code:=f155.body.getD .skip
def Yx:List Nat:=[]
theorem qaa:ZF Pg Yx 155 f155 qa7:=zf call155 func155 rfl mixed
def iw(p:ag)(k0:(List Int))(k02:Bool):Option ((List Int)×Bool):=
 (pn p).bind λr1=>
 if r1=true then
  (af ([SX]:List ac) k0 k02).bind λr3=>
  some (r3,k02)
 else
  (gh p k0 k02).bind λr4=>
  some (r4.1,r4.2)
theorem iZ{p:ag}{k0:(List Int)}{k02:Bool}:OG 155 [.bptr 0 0,.agg (aa p)] [] [.cells [.nptr 0 132,sl (cI .u8) k0,.bool k02] [(1,5)]] (iw p k0 k02) (λr=>.tuple []) [] (λr=>[.cells [.nptr 0 132,sl (cI .u8) r.1,.bool r.2] [(1,5)]]):=qaa.g 1<|
 tb λr1 br1=>te (fy p)<|tv (co p)<|ck (lz _ br1)<|tF (tb λr3 br3=>tv (bK [SX] 1 rfl)<|tc [0] (ae _ br3)<|tE)<|tb λr4 br4=>tv (co p)<|tc [0] (gi _ br4)<|tE
noncomputable def qa8:Code:=f156.body.getD .skip
def Yy:List Nat:=[]
theorem qab:ZF Pg Yy 156 f156 qa8:=zf call156 func156 rfl mixed
def Is(p:ag):Option Bool:=
 if (p.Op == 9) = true then
  if((p.Kids.length:Int)==1)=true then
   (dw p.Kids 0).bind λx5=>
   if(x5.Op==1)=true then
    (dw p.Kids 0).bind λx8=>
    some (decide (x8.N>=0))
   else
    some false
  else
   some false
 else
  some false
theorem Kv{p:ag}:OV 156 [.agg (aa p)] (Is p) (λr=>.bool r) []:=qab.v<|
 te (fy p)<|have pp2:=λ{X Y Z} (r:PV _ X Y Z)=>tw (aK p)<|r;tf (λc1=>have pp4:=λ{X Y Z} (r:PV _ X Y Z)=>pp2<|tg 4 c1<|tw (aL p)<|cb (fl.ln p.Kids)<|r;tf (λc3=>tb λx5 bx5=>have pp7:=λ{X Y Z} (r:PV _ X Y Z)=>pp4<|tg 10 c3<|tw (aL p)<|tv (fl.ia (k:=.i64) bx5)<|tw (aK x5)<|r;tf (λc6=>tb λx8 bx8=>pp7<|tg 18 c6<|tw (aL p)<|tv (fl.ia (k:=.i64) bx8)<|tw (bU x8)<|tE) λc6=>pp7<|tg 18 c6<|tE) λc3=>pp4<|tg 10 c3<|tE) λc1=>pp2<|tg 4 c1<|tE
abbrev pB:=(al->Option Int)
abbrev wE(R:pB):Prop:=∀(t:al),OV 227 [.agg (ai t)] (R t) (λr=>.int .i64 r) []
noncomputable def UZ:Code:=f227.body.getD .skip
def Y6:List Nat:=[]
theorem Wx:ZF Pg Y6 227 f227 UZ:=zf call227 func227 rfl mixed
section
variable(R74:pB)(t7:waC)(t8:Int)(n:Int)(t9:Int)
def kn:ay:=aM 20 [(3,.int .i64 n),(7,sl ai t7),(8,.int .i64 t8),(9,.int .i64 t9)] [.dead] []
def pA(o:Int):ay:=aM 20 [(3,.int .i64 o)] [.dead] []
instance iS_types_depth_L1:KS 0 (kn t7 t8 n t9):=⟨rfl,(bk (aI vzz (aI (up (ak bE t7)) (aI vzz (aI vzz vzz))))),(aI vzz vzz)⟩
instance iO_types_depth_L1{o:Int}:KS 0 (pA o):=⟨rfl,(bk (aI vzz vzz)),(aI vzz vzz)⟩
def yu:Option ((Int×Int)⊕(Int)):=
 if decide (t9<t8)=true then
  (dw t7 t9).bind λx2=>
  (R74 x2).bind λr3=>
  some (.inl ((if r3>n then r3 else n),fh (t9+1)))
 else
  some (.inr n)
def Ck:Option Int:=loop (λ(zz:Int×Int)=>yu R74 t7 t8 zz.1 zz.2) (n,t9)
theorem EZ(hR74:wE R74):OL 0 (cA UZ 119) (yu R74 t7 t8 n t9) (λ(zz:Int×Int)=>kn t7 t8 zz.1 zz.2) (λ_=>.exit 0) pA (kn t7 t8 n t9):=Wx.lx<|
 tF (tb λx2 bx2=>tb λr3 br3=>tv (dC.ia (k:=.i64) bx2)<|tv (dP x2)<|tx Rq<|tx (sR x2)<|tv (mm x2 [])<|ck (hR74 _ _ br3)<|tE)<|tE
theorem GY(hR74:wE R74):OJ 0 (.loop (cA UZ 119)) (Ck R74 t7 t8 n t9) (.exit 0) pA (kn t7 t8 n t9):=sQ λ_=>EZ _ _ _ _ _ hR74
end
def DY(R74:pB)(t:al):Option Int:=
 (Ck R74 t.Args (t.Args.length:Int) 0 0).bind λo4=>
 some (fh (o4+1))
theorem Jb(R74:pB)(hR74:wE R74){t:al}:OV 227 [.agg (ai t)] (DY R74 t) (λr=>.int .i64 r) []:=Wx.v<|
 tb λo4 bo4=>te (iC t)<|tw (bw t)<|cb (dC.ln t.Args)<|cu (GY R74 t.Args (t.Args.length:Int) 0 0 hR74 _ bo4)<|tE
def DZ:(al->Option Int)->(al)->Option Int:=λ(rec:al->Option Int) (x:al)=>DY (λt=>rec t) x
def IB(t:al):Option Int:=Bq DZ t
theorem KR{t:al}:OV 227 [.agg (ai t)] (IB t) (λr=>.int .i64 r) []:=N5 λ_ h=>
 fg (F:=DZ) (M:=λ(x:al) (r:Int)=>CC Pg GE 227 [.agg (ai x)] (.int .i64 r) []) (λrec hrec x r h=>Jb _ (λt=>N5 λr h=>hrec t r h) _ h) h
abbrev rV:=(al->Option Int)
abbrev yC(R:rV):Prop:=∀(t:al),OV 228 [.agg (ai t)] (R t) (λr=>.int .i64 r) []
noncomputable def WU:Code:=f269.body.getD .skip
def Zt:List Nat:=[]
theorem WA:ZF Pg Zt 269 f269 WU:=zf call269 func269 rfl mixed
section
variable(t:al)
def Cj:Option Bool:=
 if decide ((t.Args.length:Int)<2)=true then
  some true
 else if decide ((t.Args.length:Int)>7)=true then
  some true
 else if((t.Names.length:Int)!=0)=true then
  some ((t.Names.length:Int)!=(fh ((t.Args.length:Int) - 1)))
 else
  some false
theorem GX:OJ 0 (cA WU 892) (Cj t) .normal (λo=>aM 39 [(38,.bool o)] [.dead] []) (aM 39 [(1,.eptr (ai t))] [.dead] []):=WA.j<|
 have pp5:=λ{X Y Z} (r:PV _ X Y Z)=>tw (bw t)<|cb (dC.ln t.Args)<|r;tf (λc4=>pp5<|tg 5 c4<|tE) λc4=>have pp7:=λ{X Y Z} (r:PV _ X Y Z)=>pp5<|tg 5 c4<|tw (bw t)<|cb (dC.ln t.Args)<|r;tf (λc6=>pp7<|tg 11 c6<|tE) λc6=>have pp9:=λ{X Y Z} (r:PV _ X Y Z)=>pp7<|tg 11 c6<|tw (ct t)<|cb (cz.ln t.Names)<|r;tf (λc8=>pp9<|tg 16 c8<|tw (ct t)<|cb (cz.ln t.Names)<|tw (bw t)<|cb (dC.ln t.Args)<|tE) λc8=>pp9<|tg 16 c8<|tE
end
def IA(t:al):Option Int:=
 if(t.Op==4)=true then
  if decide ((t.Args.length:Int)>6)=true then
   some 13
  else
   some 0
 else if(t.Op==6)=true then
  (Cj t).bind λo10=>
  if o10=true then
   some 13
  else
   some 0
 else
  some 0
theorem KQ{t:al}:OV 269 [.agg (ai t)] (IA t) (λr=>.int .i64 r) []:=WA.v<|
 te (iC t)<|tw (aX t)<|tF (tw (bw t)<|cb (dC.ln t.Args)<|tF tE<|tE)<|tF (tb λo10 bo10=>gz 0<|cu (GX t _ bo10)<|tF tE<|tE)<|tE
noncomputable def NA:Code:=f228.body.getD .skip
def Y7:List Nat:=[68,100]
theorem OO:ZF Pg Y7 228 f228 NA:=zf call228 func228 rfl mixed
section
variable(t:al)
def D0:Option Bool:=
 if(t.Op==4)=true then
  some true
 else
  some (t.Op==5)
theorem H1:OJ 0 (cA NA 6) (D0 t) .normal (λo=>aM 102 [(1,.eptr (ai t)),(3,.bool o)] [.dead] []) (aM 102 [(1,.eptr (ai t))] [.dead] []):=OO.j<|
 have pp2:=λ{X Y Z} (r:PV _ X Y Z)=>tw (aX t)<|r;tf (λc1=>pp2<|tg 4 c1<|tE) λc1=>pp2<|tg 4 c1<|tw (aX t)<|tE
end
section
variable(t:al)(named:Bool)
def D1:Option Bool:=
 if(t.Op==4)=true then
  some true
 else
  some (t.Op==6)
theorem H3:OJ 0 (cA NA 14) (D1 t) .normal (λo=>aM 102 [(1,.eptr (ai t)),(3,.bool named),(4,.bool o)] [.dead] []) (aM 102 [(1,.eptr (ai t)),(3,.bool named)] [.dead] []):=OO.j<|
 have pp5:=λ{X Y Z} (r:PV _ X Y Z)=>tw (aX t)<|r;tf (λc4=>pp5<|tg 4 c4<|tE) λc4=>pp5<|tg 4 c4<|tw (aX t)<|tE
end
section
variable(t:al)(named:Bool)(compound:Bool)
def D2:Option Bool:=
 if decide (t.Op<1)=true then
  some true
 else if decide (t.Op>6)=true then
  some true
 else if(!(t.Name==([]:ac)))=true then
  if(!named)=true then
   some true
  else if decide ((t.Args.length:Int)>0)=true then
   if(!compound)=true then
    some true
   else if decide ((t.Names.length:Int)>0)=true then
    some (t.Op !=6)
   else
    some false
  else if decide ((t.Names.length:Int)>0)=true then
   some (t.Op !=6)
  else
   some false
 else if decide ((t.Args.length:Int)>0)=true then
  if(!compound)=true then
   some true
  else if decide ((t.Names.length:Int)>0)=true then
   some (t.Op !=6)
  else
   some false
 else if decide ((t.Names.length:Int)>0)=true then
  some (t.Op !=6)
 else
  some false
theorem H4:OJ 0 (cA NA 60) (D2 t named compound) .normal (λo=>aM 102 [(1,.eptr (ai t)),(3,.bool named),(63,.bool o)] [.dead] []) (aM 102 [(1,.eptr (ai t)),(3,.bool named),(4,.bool compound)] [.dead] []):=OO.j<|
 have pp8:=λ{X Y Z} (r:PV _ X Y Z)=>tw (aX t)<|r;tf (λc7=>pp8<|tg 4 c7<|tE) λc7=>have pp10:=λ{X Y Z} (r:PV _ X Y Z)=>pp8<|tg 4 c7<|tw (aX t)<|r;tf (λc9=>pp10<|tg 9 c9<|tE) λc9=>have pp12:=λ{X Y Z} (r:PV _ X Y Z)=>pp10<|tg 9 c9<|tw (dg t)<|r;tf (λc11=>have pp14:=λ{X Y Z} (r:PV _ X Y Z)=>pp12<|tg 13 c11<|r;tf (λc13=>pp14<|tg 18 c13<|tE) λc13=>have pp16:=λ{X Y Z} (r:PV _ X Y Z)=>pp14<|tg 18 c13<|tw (bw t)<|cb (dC.ln t.Args)<|r;tf (λc15=>have pp18:=λ{X Y Z} (r:PV _ X Y Z)=>pp16<|tg 23 c15<|r;tf (λc17=>pp18<|tg 28 c17<|tE) λc17=>have pp20:=λ{X Y Z} (r:PV _ X Y Z)=>pp18<|tg 28 c17<|tw (ct t)<|cb (cz.ln t.Names)<|r;tf (λc19=>pp20<|tg 33 c19<|tw (aX t)<|tE) λc19=>pp20<|tg 33 c19<|tE) λc15=>have pp22:=λ{X Y Z} (r:PV _ X Y Z)=>pp16<|tg 23 c15<|tw (ct t)<|cb (cz.ln t.Names)<|r;tf (λc21=>pp22<|tg 33 c21<|tw (aX t)<|tE) λc21=>pp22<|tg 33 c21<|tE) λc11=>have pp24:=λ{X Y Z} (r:PV _ X Y Z)=>pp12<|tg 13 c11<|tw (bw t)<|cb (dC.ln t.Args)<|r;tf (λc23=>have pp26:=λ{X Y Z} (r:PV _ X Y Z)=>pp24<|tg 23 c23<|r;tf (λc25=>pp26<|tg 28 c25<|tE) λc25=>have pp28:=λ{X Y Z} (r:PV _ X Y Z)=>pp26<|tg 28 c25<|tw (ct t)<|cb (cz.ln t.Names)<|r;tf (λc27=>pp28<|tg 33 c27<|tw (aX t)<|tE) λc27=>pp28<|tg 33 c27<|tE) λc23=>have pp30:=λ{X Y Z} (r:PV _ X Y Z)=>pp24<|tg 23 c23<|tw (ct t)<|cb (cz.ln t.Names)<|r;tf (λc29=>pp30<|tg 33 c29<|tw (aX t)<|tE) λc29=>pp30<|tg 33 c29<|tE
end
section
variable(t:al)
def D4:Option Bool:=
 (uD t.Name 0).bind λc38=>
 if decide (c38>=65)=true then
  (uD t.Name 0).bind λc41=>
  some (decide (c41<=90))
 else
  some false
theorem H5:OJ 0 (cA NA 2026) (D4 t) .normal (λo=>aM 102 [(1,.eptr (ai t)),(6,.bool o)] [.dead] []) (aM 102 [(1,.eptr (ai t))] [.dead] []):=OO.j<|
 tb λc38 bc38=>have pp40:=λ{X Y Z} (r:PV _ X Y Z)=>tw (dg t)<|tv (nx (k:=.i64) underlying9 bc38)<|r;tf (λc39=>tb λc41 bc41=>pp40<|tg 5 c39<|tw (dg t)<|tv (nx (k:=.i64) underlying9 bc41)<|tE) λc39=>pp40<|tg 5 c39<|tE
end
section
variable(t:al)(named:Bool)
def Jc(o:Unit⊕(Unit)):Exit:=match o with
 |(.inl _)=>.ret
 |(.inr _)=>.normal
def Jd(o:Unit⊕(Unit)):ay:=match o with
 |(.inl o)=>aM 102 [(2,.int .i64 3)] [.dead] []
 |(.inr o)=>aM 102 [(1,.eptr (ai t))] [.dead] []
def D3:Option (Unit⊕(Unit)):=
 if named=true then
  (lZ t.Name).bind λr36=>
  if(r36 !=0)=true then
   some (.inl ())
  else
   (D4 t).bind λo42=>
   if(!(o42==(t.Op==4)))=true then
    some (.inl ())
   else
    some (.inr ())
 else
  some (.inr ())
theorem yw:OK 0 (cA NA 126) (D3 t named) Jc (Jd t) (aM 102 [(1,.eptr (ai t)),(3,.bool named)] [.dead] []):=OO.k<|
 tF (tb λr36 br36=>tw (dg t)<|ck (fq _ br36)<|tF tE<|tb λo42 bo42=>gz 0<|cu (H5 t _ bo42)<|tw (aX t)<|tF tE<|tE)<|tE
end
section
variable(R75:rV)(t90:waC)(t91:Int)(t92:Int)
def lU:ay:=aM 102 [(90,sl ai t90),(91,.int .i64 t91),(92,.int .i64 t92)] [.dead] []
def Ax(o:Int⊕(Unit)):Exit:=match o with
 |(.inl _)=>.ret
 |(.inr _)=>.exit 0
def qS(o:Int⊕(Unit)):ay:=match o with
 |(.inl o)=>aM 102 [(2,.int .i64 o)] [.dead] []
 |(.inr o)=>aM 102 [] [.dead] []
instance iS_types_form_L6:KS 0 (lU t90 t91 t92):=⟨rfl,(bk (aI (up (ak bE t90)) (aI vzz (aI vzz vzz)))),(aI vzz vzz)⟩
instance iO_types_form_L6{o:Int⊕(Unit)}:KS 0 (qS o):=match o with
 |(.inl o)=>⟨rfl,(bk (aI vzz vzz)),(aI vzz vzz)⟩
 |(.inr o)=>⟨rfl,(bk vzz),(aI vzz vzz)⟩
def Aw:Option (Int⊕(Int⊕(Unit))):=
 if decide (t92<t91)=true then
  (dw t90 t92).bind λx46=>
  (R75 x46).bind λr47=>
  if(r47 !=0)=true then
   some (.inr (.inl r47))
  else
   some (.inl (fh (t92+1)))
 else
  some (.inr (.inr ()))
def D5:Option (Int⊕(Unit)):=loop (λ(zz:Int)=>Aw R75 t90 t91 zz) t92
theorem G1(hR75:yC R75):OL 0 (cA NA 2039) (Aw R75 t90 t91 t92) (λ(zz:Int)=>lU t90 t91 zz) Ax qS (lU t90 t91 t92):=OO.lx<|
 tF (tb λx46 bx46=>tb λr47 br47=>tv (dC.ia (k:=.i64) bx46)<|tv (dP x46)<|tx Rq<|tx (sR x46)<|tv (mm x46 [])<|ck (hR75 _ _ br47)<|tF tE<|tE)<|tE
theorem yx(hR75:yC R75):OK 0 (.loop (cA NA 2039)) (D5 R75 t90 t91 t92) Ax qS (lU t90 t91 t92):=HK λ_=>G1 _ _ _ _ hR75
end
def GZ(R75:rV)(t:al):Option Int:=
 (D0 t).bind λo3=>
 (D1 t).bind λo6=>
 (D2 t o3 o6).bind λo31=>
 if o31=true then
  some 1
 else
  (IA t).bind λr33=>
  if(r33 !=0)=true then
   some r33
  else
   (D3 t o3).bind λo44=>match o44 with
   |(.inl o44)=>
    some 3
   | (.inr o44) =>
    (D5 R75 t.Args (t.Args.length:Int) 0).bind λo49=>match o49 with
    |(.inl o49)=>
     some o49
    |(.inr o49)=>
     some 0
theorem KU(R75:rV)(hR75:yC R75){t:al}:OV 228 [.agg (ai t)] (GZ R75 t) (λr=>.int .i64 r) []:=OO.v<|
 tb λo3 bo3=>tb λo6 bo6=>tb λo31 bo31=>te (iC t)<|gz 0<|cu (H1 t _ bo3)<|gz 0<|cu (H3 t o3 _ bo6)<|gz 1<|cu (H4 t o3 o6 _ bo31)<|tF tE<|tb λr33 br33=>tv (dP t)<|ck (KQ _ br33)<|tF tE<|t2 (λo44 bo44=>gz 0<|cu (yw t o3 _ bo44)<|tE) λo44 bo44=>gz 0<|cu (yw t o3 _ bo44)<|tw (bw t)<|cb (dC.ln t.Args)<|t2 (λo49 bo49=>cu (yx R75 t.Args (t.Args.length:Int) 0 hR75 _ bo49)<|tE) λo49 bo49=>cu (yx R75 t.Args (t.Args.length:Int) 0 hR75 _ bo49)<|tE
def G0:(al->Option Int)->(al)->Option Int:=λ(rec:al->Option Int) (x:al)=>GZ (λt=>rec t) x
def KT(t:al):Option Int:=Bq G0 t
theorem LC{t:al}:OV 228 [.agg (ai t)] (KT t) (λr=>.int .i64 r) []:=N5 λ_ h=>
 fg (F:=G0) (M:=λ(x:al) (r:Int)=>CC Pg GE 228 [.agg (ai x)] (.int .i64 r) []) (λrec hrec x r h=>KU _ (λt=>N5 λr h=>hrec t r h) _ h) h
noncomputable def qbd:Code:=f177.body.getD .skip
def YF:List Nat:=[]
theorem qaf:ZF Pg YF 177 f177 qbd:=zf call177 func177 rfl mixed
def wz(t:al):Option Int:=
 (IB t).bind λr1=>
 if decide (r1>40)=true then
  some 8
 else
  (KT t).bind λr3=>
  some r3
theorem ul{t:al}:OV 177 [.agg (ai t)] (wz t) (λr=>.int .i64 r) []:=qaf.v<|
 tb λr1 br1=>te (iC t)<|tv (dP t)<|ck (KR _ br1)<|tF tE<|tb λr3 br3=>tv (dP t)<|ck (LC _ br3)<|tE
abbrev bL:=(al->(List Int)->Bool->Option (Bool×(List Int)))
abbrev cD(R:bL):Prop:=∀(t:al) (k0:(List Int)) (k02:Bool),OG 196 [.bptr 0 0,.agg (ai t)] [] [.cells [.nptr 0 132,sl (cI .u8) k0,.bool k02] [(1,5)]] (R t k0 k02) (λr=>.tuple []) [] (λr=>[.cells [.nptr 0 132,sl (cI .u8) r.2,.bool r.1] [(1,5)]])
noncomputable def WQ:Code:=f174.body.getD .skip
def YE:List Nat:=[]
theorem Wq:ZF Pg YE 174 f174 WQ:=zf call174 func174 rfl mixed
section
variable(s:ac)(m:(List Int))(m2:Bool)
def oJ:Option Bool:=
 (lZ s).bind λr1=>
 if(r1 !=0)=true then
  some true
 else
  (wM s).bind λr3=>
  some (!r3)
theorem wZ:OJ 1 (cA WQ 4) (oJ s) .normal (λo=>aM 19 [(0,.bptr 0 0),(1,.str s),(11,.bool o)] [.cells [.nptr 0 132,sl (cI .u8) m,.bool m2] [(1,5)]] []) (aM 19 [(0,.bptr 0 0),(1,.str s)] [.cells [.nptr 0 132,sl (cI .u8) m,.bool m2] [(1,5)]] []):=Wq.j<|
 tb λr1 br1=>tf (λc2=>ck (fq _ br1)<|tg 4 c2<|tE) λc2=>tb λr3 br3=>ck (fq _ br1)<|tg 4 c2<|ck (xG _ br3)<|tE
end
def iu(s:ac)(k0:(List Int))(k02:Bool):Option (Bool×(List Int)):=
 (oJ s).bind λo4=>
 if o4=true then
  some (true,k0)
 else
  (af ([s]:List ac) k0 k02).bind λr6=>
  some (k02,r6)
theorem iY{s:ac}{k0:(List Int)}{k02:Bool}:OG 174 [.bptr 0 0,.str s] [] [.cells [.nptr 0 132,sl (cI .u8) k0,.bool k02] [(1,5)]] (iu s k0 k02) (λr=>.tuple []) [] (λr=>[.cells [.nptr 0 132,sl (cI .u8) r.2,.bool r.1] [(1,5)]]):=Wq.g 1<|
 tb λo4 bo4=>gz 1<|cu (wZ s k0 k02 _ bo4)<|tF (ts<|tE)<|tb λr6 br6=>tv (bK [s] 1 rfl)<|tc [0] (ae _ br6)<|tE
noncomputable def WR:Code:=f178.body.getD .skip
def YG:List Nat:=[]
theorem Wr:ZF Pg YG 178 f178 WR:=zf call178 func178 rfl mixed
section
variable(t:al)(m:(List Int))(m2:Bool)
def oF:Option Bool:=
 (pn t.Pred).bind λr1=>
 if r1=true then
  if(t.Op==6)=true then
   some true
  else if decide ((t.Args.length:Int)>0)=true then
   some true
  else
   some (decide ((t.Preds.length:Int)>0))
 else
  some false
theorem wY:OJ 1 (cA WR 12) (oF t) .normal (λo=>aM 36 [(0,.bptr 0 0),(3,.eptr (ai t)),(23,.bool o)] [.cells [.nptr 0 132,sl (cI .u8) m,.bool m2] [(1,5)],.dead] []) (aM 36 [(0,.bptr 0 0),(3,.eptr (ai t))] [.cells [.nptr 0 132,sl (cI .u8) m,.bool m2] [(1,5)],.dead] []):=Wr.j<|
 tb λr1 br1=>have pp3:=λ{X Y Z} (r:PV _ X Y Z)=>tw (dJ t)<|ck (lz _ br1)<|r;tf (λc2=>have pp5:=λ{X Y Z} (r:PV _ X Y Z)=>pp3<|tg 4 c2<|tw (aX t)<|r;tf (λc4=>pp5<|tg 8 c4<|tE) λc4=>have pp7:=λ{X Y Z} (r:PV _ X Y Z)=>pp5<|tg 8 c4<|tw (bw t)<|cb (dC.ln t.Args)<|r;tf (λc6=>pp7<|tg 14 c6<|tE) λc6=>pp7<|tg 14 c6<|tw (cE t)<|cb (fl.ln t.Preds)<|tE) λc2=>pp3<|tg 4 c2<|tE
end
def tN(R77:bL)(t:al)(k0:(List Int))(k02:Bool):Option ((List Int)×Bool):=
 (oF t).bind λo8=>
 if o8=true then
  (af ([mD]:List ac) k0 k02).bind λr10=>
  (R77 t r10 k02).bind λr11=>
  (af ([mE]:List ac) r11.2 r11.1).bind λr12=>
  some (r12,r11.1)
 else
  (R77 t k0 k02).bind λr13=>
  some (r13.2,r13.1)
theorem AQ(R77:bL)(hR77:cD R77){t:al}{k0:(List Int)}{k02:Bool}:OG 178 [.bptr 0 0,.agg (ai t)] [] [.cells [.nptr 0 132,sl (cI .u8) k0,.bool k02] [(1,5)]] (tN R77 t k0 k02) (λr=>.tuple []) [] (λr=>[.cells [.nptr 0 132,sl (cI .u8) r.1,.bool r.2] [(1,5)]]):=Wr.g 1<|
 tb λo8 bo8=>te (iC t)<|gz 1<|cu (wY t k0 k02 _ bo8)<|tF (tb λr10 br10=>tb λr11 br11=>tb λr12 br12=>tv (bK [mD] 1 rfl)<|tc [0] (ae _ br10)<|tv (dP t)<|tc [0] (hR77 _ _ _ _ br11)<|tv (bK [mE] 1 rfl)<|tc [0] (ae _ br12)<|tE)<|tb λr13 br13=>tv (dP t)<|tc [0] (hR77 _ _ _ _ br13)<|tE
noncomputable def qbu:Code:=f236.body.getD .skip
def Ze:List Nat:=[]
theorem qau:ZF Pg Ze 236 f236 qbu:=zf call236 func236 rfl mixed
def tQ(i:Int)(a:al)(k1:(List Int))(k12:Bool):Option ((List Int)×Bool):=
 (af ([Mk]:List ac) k1 k12).bind λr1=>
 (dw a.Preds i).bind λx2=>
 (iw x2 r1 k12).bind λr3=>
 some (r3.1,r3.2)
theorem AT{i:Int}{a:al}{k1:(List Int)}{k12:Bool}:OG 236 [.int .i64 i,.bptr 0 0,.eptr (ai a)] [] [.cells [.bptr 1 0] [],.cells [.nptr 1 132,sl (cI .u8) k1,.bool k12] [(1,5)]] (tQ i a k1 k12) (λr=>.tuple []) [] (λr=>[.cells [.bptr 1 0] [],.cells [.nptr 1 132,sl (cI .u8) r.1,.bool r.2] [(1,5)]]):=qau.g 2<|
 tb λr1 br1=>tb λx2 bx2=>tb λr3 br3=>ts<|tv (bK [Mk] 1 rfl)<|tc [1] (ae _ br1)<|tk<|Av (.dx [0,0,2,0,14,30] [] [] [])<|ts<|tw (cE a)<|tv (fl.ia (k:=.i64) bx2)<|tv (co x2)<|tc [1] (iZ _ br3)<|tE
section
variable(v:al)(i:Int)(t7:Int)(m:(List Int))(m2:Bool)
def li:Option (((List Int))):=
 if decide (i>0)=true then
  (af ([ee]:List ac) m m2).bind λr3=>
  some r3
 else
  some m
theorem sq:OJ 2 (cA nQ 1014) (li i m m2) .normal (λo=>aM 20 [(0,.bptr 0 0),(2,.func (.func 236) [] [.bptr 1 0,.eptr (ai v)]),(6,.int .i64 i),(7,.int .i64 t7),(8,.int .i64 i)] [.cells [.nptr 0 132,sl (cI .u8) o,.bool m2] [(1,5)],.cells [.bptr 0 0] []] []) (aM 20 [(0,.bptr 0 0),(2,.func (.func 236) [] [.bptr 1 0,.eptr (ai v)]),(6,.int .i64 i),(7,.int .i64 t7),(8,.int .i64 i)] [.cells [.nptr 0 132,sl (cI .u8) m,.bool m2] [(1,5)],.cells [.bptr 0 0] []] []):=oV.j<|
 tF (tb λr3 br3=>tv (bK [ee] 1 rfl)<|tc [0] (ae _ br3)<|tE)<|tE
end
section
variable(v:al)(t7:Int)(t8:Int)(m:(List Int))(m2:Bool)
def fE:ay:=aM 20 [(0,.bptr 0 0),(2,.func (.func 236) [] [.bptr 1 0,.eptr (ai v)]),(7,.int .i64 t7),(8,.int .i64 t8)] [.cells [.nptr 0 132,sl (cI .u8) m,.bool m2] [(1,5)],.cells [.bptr 0 0] []] []
def jV(o:(List Int)×Bool):ay:=aM 20 [] [.cells [.nptr 0 132,sl (cI .u8) o.1,.bool o.2] [(1,5)],.cells [.bptr 0 0] []] []
def jU:Option ((Int×(List Int)×Bool)⊕(((List Int)×Bool))):=
 if decide (t8<t7)=true then
  (li t8 m m2).bind λo4=>
  (tQ t8 v o4 m2).bind λr5=>
  some (.inl (fh (t8+1),r5.1,r5.2))
 else
  some (.inr (m,m2))
def lj:Option (((List Int)×Bool)):=loop (λ(zz:Int×(List Int)×Bool)=>jU v t7 zz.1 zz.2.1 zz.2.2) (t8,m,m2)
theorem qC:OL 2 (cA nQ 15) (jU v t7 t8 m m2) (λ(zz:Int×(List Int)×Bool)=>fE v t7 zz.1 zz.2.1 zz.2.2) (λ_=>.exit 0) jV (fE v t7 t8 m m2):=oV.l<|
 tF (tb λo4 bo4=>tb λr5 br5=>gz 2<|cu (sq v t8 t7 m m2 _ bo4)<|tc [1,0] (AT _ br5)<|tE)<|tE
theorem su:OJ 2 (.loop (cA nQ 15)) (lj v t7 t8 m m2) (.exit 0) jV (fE v t7 t8 m m2):=sQ λ_=>qC _ _ _ _ _
end
def ol(n:Int)(c:al)(k0:(List Int))(k02:Bool):Option ((List Int)×Bool):=
 (lj c n 0 k0 k02).bind λo6=>
 some (o6.1,o6.2)
theorem wS{n:Int}{c:al}{k0:(List Int)}{k02:Bool}:OG 149 [.bptr 0 0,.int .i64 n,.func (.func 236) [] [.bptr 1 0,.eptr (ai c)]] [] [.cells [.nptr 0 132,sl (cI .u8) k0,.bool k02] [(1,5)],.cells [.bptr 0 0] []] (ol n c k0 k02) (λr=>.tuple []) [] (λr=>[.cells [.nptr 0 132,sl (cI .u8) r.1,.bool r.2] [(1,5)],.cells [.bptr 0 0] []]):=oV.g 2<|
 tb λo6 bo6=>cu (su c n 0 k0 k02 _ bo6)<|tE
noncomputable def WV:Code:=f277.body.getD .skip
def Zz:List Nat:=[]
theorem WC:ZF Pg Zz 277 f277 WV:=zf call277 func277 rfl mixed
section
variable(i:Int)(t1:al)(m:(List Int))(m2:Bool)
def j4:Option (((List Int)×Bool)):=
 if decide ((t1.Names.length:Int)>0)=true then
  (dw t1.Names i).bind λx2=>
  (bY x2 m m2).bind λr3=>
  (af ([dA]:List ac) r3.2 r3.1).bind λr4=>
  some (r4,r3.1)
 else
  some (m,m2)
theorem p5:OJ 2 (cA WV 2) (j4 i t1 m m2) .normal (λo=>aM 25 [(0,.int .i64 i),(1,.eptr (ai t1)),(2,.bptr 0 0)] [.cells [.bptr 1 0] [],.cells [.nptr 1 132,sl (cI .u8) o.1,.bool o.2] [(1,5)]] []) (aM 25 [(0,.int .i64 i),(1,.eptr (ai t1)),(2,.bptr 0 0)] [.cells [.bptr 1 0] [],.cells [.nptr 1 132,sl (cI .u8) m,.bool m2] [(1,5)]] []):=WC.j<|
 tw (ct t1)<|cb (cz.ln t1.Names)<|tF (tb λx2 bx2=>tb λr3 br3=>tb λr4 br4=>tk<|Av (.dx [0,0,2,0,14,30] [] [] [])<|ts<|tw (ct t1)<|tv (cz.ia (k:=.i64) bx2)<|tv (cH Iw (.str x2) [])<|tc [1] (bI _ br3)<|ts<|tv (bK [dA] 1 rfl)<|tc [1] (ae _ br4)<|tE)<|tE
end
def my(R77:bL)(i:Int)(a:al)(k1:(List Int))(k12:Bool):Option ((List Int)×Bool):=
 (j4 i a k1 k12).bind λo5=>
 (dw a.Args i).bind λx6=>
 (R77 x6 o5.1 o5.2).bind λr7=>
 some (r7.2,r7.1)
theorem tJ(R77:bL)(hR77:cD R77){i:Int}{a:al}{k1:(List Int)}{k12:Bool}:OG 277 [.int .i64 i,.eptr (ai a),.bptr 0 0] [] [.cells [.bptr 1 0] [],.cells [.nptr 1 132,sl (cI .u8) k1,.bool k12] [(1,5)]] (my R77 i a k1 k12) (λr=>.tuple []) [] (λr=>[.cells [.bptr 1 0] [],.cells [.nptr 1 132,sl (cI .u8) r.1,.bool r.2] [(1,5)]]):=WC.g 2<|
 tb λo5 bo5=>tb λx6 bx6=>tb λr7 br7=>gz 0<|cu (p5 i a k1 k12 _ bo5)<|tk<|Av (.dx [0,0,2,0,14,30] [] [] [])<|ts<|tw (bw a)<|tv (dC.ia (k:=.i64) bx6)<|tv (dP x6)<|tc [1] (hR77 _ _ _ _ br7)<|tE
section
variable(v:al)(i:Int)(t7:Int)(m:(List Int))(m2:Bool)
def lk:Option (((List Int))):=
 if decide (i>0)=true then
  (af ([ee]:List ac) m m2).bind λr3=>
  some r3
 else
  some m
theorem sw:OJ 2 (cA nQ 1014) (lk i m m2) .normal (λo=>aM 20 [(0,.bptr 0 0),(2,.func (.func 277) [] [.eptr (ai v),.bptr 1 0]),(6,.int .i64 i),(7,.int .i64 t7),(8,.int .i64 i)] [.cells [.nptr 0 132,sl (cI .u8) o,.bool m2] [(1,5)],.cells [.bptr 0 0] []] []) (aM 20 [(0,.bptr 0 0),(2,.func (.func 277) [] [.eptr (ai v),.bptr 1 0]),(6,.int .i64 i),(7,.int .i64 t7),(8,.int .i64 i)] [.cells [.nptr 0 132,sl (cI .u8) m,.bool m2] [(1,5)],.cells [.bptr 0 0] []] []):=oV.j<|
 tF (tb λr3 br3=>tv (bK [ee] 1 rfl)<|tc [0] (ae _ br3)<|tE)<|tE
end
section
variable(R77:bL)(v:al)(t7:Int)(t8:Int)(m:(List Int))(m2:Bool)
def fF:ay:=aM 20 [(0,.bptr 0 0),(2,.func (.func 277) [] [.eptr (ai v),.bptr 1 0]),(7,.int .i64 t7),(8,.int .i64 t8)] [.cells [.nptr 0 132,sl (cI .u8) m,.bool m2] [(1,5)],.cells [.bptr 0 0] []] []
def jX(o:(List Int)×Bool):ay:=aM 20 [] [.cells [.nptr 0 132,sl (cI .u8) o.1,.bool o.2] [(1,5)],.cells [.bptr 0 0] []] []
def jW:Option ((Int×(List Int)×Bool)⊕(((List Int)×Bool))):=
 if decide (t8<t7)=true then
  (lk t8 m m2).bind λo4=>
  (my R77 t8 v o4 m2).bind λr5=>
  some (.inl (fh (t8+1),r5.1,r5.2))
 else
  some (.inr (m,m2))
def ll:Option (((List Int)×Bool)):=loop (λ(zz:Int×(List Int)×Bool)=>jW R77 v t7 zz.1 zz.2.1 zz.2.2) (t8,m,m2)
theorem qD(hR77:cD R77):OL 2 (cA nQ 15) (jW R77 v t7 t8 m m2) (λ(zz:Int×(List Int)×Bool)=>fF v t7 zz.1 zz.2.1 zz.2.2) (λ_=>.exit 0) jX (fF v t7 t8 m m2):=oV.l<|
 tF (tb λo4 bo4=>tb λr5 br5=>gz 2<|cu (sw v t8 t7 m m2 _ bo4)<|tc [1,0] (tJ R77 hR77 _ br5)<|tE)<|tE
theorem sy(hR77:cD R77):OJ 2 (.loop (cA nQ 15)) (ll R77 v t7 t8 m m2) (.exit 0) jX (fF v t7 t8 m m2):=sQ λ_=>qD _ _ _ _ _ _ hR77
end
def om(R77:bL)(n:Int)(c:al)(k0:(List Int))(k02:Bool):Option ((List Int)×Bool):=
 (ll R77 c n 0 k0 k02).bind λo6=>
 some (o6.1,o6.2)
theorem wT(R77:bL)(hR77:cD R77){n:Int}{c:al}{k0:(List Int)}{k02:Bool}:OG 149 [.bptr 0 0,.int .i64 n,.func (.func 277) [] [.eptr (ai c),.bptr 1 0]] [] [.cells [.nptr 0 132,sl (cI .u8) k0,.bool k02] [(1,5)],.cells [.bptr 0 0] []] (om R77 n c k0 k02) (λr=>.tuple []) [] (λr=>[.cells [.nptr 0 132,sl (cI .u8) r.1,.bool r.2] [(1,5)],.cells [.bptr 0 0] []]):=oV.g 2<|
 tb λo6 bo6=>cu (sy R77 c n 0 k0 k02 hR77 _ bo6)<|tE
noncomputable def qbv:Code:=f237.body.getD .skip
def Zf:List Nat:=[]
theorem qav:ZF Pg Zf 237 f237 qbv:=zf call237 func237 rfl mixed
def oA(R77:bL)(t:al)(k0:(List Int))(k02:Bool):Option ((List Int)×Bool):=
 (af ([mD]:List ac) k0 k02).bind λr1=>
 (om R77 (fh ((t.Args.length:Int) - 1)) t r1 k02).bind λr2=>
 (af ([jF]:List ac) r2.1 r2.2).bind λr3=>
 (dw t.Args (fh ((t.Args.length:Int) - 1))).bind λx4=>
 (R77 x4 r3 r2.2).bind λr5=>
 some (r5.2,r5.1)
theorem wX(R77:bL)(hR77:cD R77){t:al}{k0:(List Int)}{k02:Bool}:OG 237 [.bptr 0 0,.agg (ai t)] [] [.cells [.nptr 0 132,sl (cI .u8) k0,.bool k02] [(1,5)]] (oA R77 t k0 k02) (λr=>.tuple []) [] (λr=>[.cells [.nptr 0 132,sl (cI .u8) r.1,.bool r.2] [(1,5)]]):=qav.g 1<|
 tb λr1 br1=>tb λr2 br2=>tb λr3 br3=>tb λx4 bx4=>tb λr5 br5=>TV (rfl:bO (.bptr 0 0)=some [.bptr 0 0]) rfl<|te (iC t)<|tw (bw t)<|cb (dC.ln t.Args)<|ts<|tv (bK [mD] 1 rfl)<|tc [0] (ae _ br1)<|ts<|tc [0,1] (wT R77 hR77 _ br2)<|ts<|tv (bK [jF] 1 rfl)<|tc [0] (ae _ br3)<|tk<|Av (.dx [0,0,2,0,14,30] [] [] [])<|ts<|tw (bw t)<|tv (dC.ia (k:=.i64) bx4)<|tv (dP x4)<|tc [0] (hR77 _ _ _ _ br5)<|tE
end Go.Proofs.YtankopenjcbeeaaGreatDoor
