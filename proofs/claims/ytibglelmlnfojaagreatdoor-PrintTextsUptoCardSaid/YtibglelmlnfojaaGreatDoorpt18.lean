/- PROVED: a part of the proof. Conditions: none. -/
import Derived.Test.YtibglelmlnfojaaGreatDoorpt17
set_option linter.unusedSimpArgs false
set_option linter.unusedVariables false
noncomputable section
namespace Go.Proofs.YtibglelmlnfojaaGreatDoor
open Go Go.Proofs.Tryz
set_option linter.unusedVariables false
set_option maxRecDepth 100000
noncomputable def qec:Code:=f231.body.getD .skip
def qnR:List Nat:=[]
theorem qdV:ZF Pg qnR 231 f231 qec:=zf call231 func231 rfl mixed
section
variable(p:aa)
def vQ:Option Bool:=
 if(p.Op==1)=true then
  some true
 else
  some (p.Op==2)
theorem RF:OJ 0 (cA qec 6) (vQ p) .normal (λo=>aQ 87 [(1,.eptr (ac p)),(3,.bool o)] [.dead] []) (aQ 87 [(1,.eptr (ac p))] [.dead] []):=qdV.j<|
 have pp2:=λ{X Y Z} (r:PV _ X Y Z)=>tw (aD p)<|r;tf (λc1=>pp2<|tg 4 c1<|tE) λc1=>pp2<|tg 4 c1<|tw (aD p)<|tE
end
section
variable(p:aa)(number:Bool)
def vR:Option Bool:=
 if decide (p.Op<1)=true then
  some true
 else if decide (p.Op>18)=true then
  some true
 else if(!(p.Name==([]:ae)))=true then
  (yS p.Op).bind λr10=>
  if(!r10)=true then
   some true
  else if(p.N !=0)=true then
   if(!number)=true then
    some true
   else
    (mW p.Op (p.Kids.length:Int)).bind λr17=>
    some (!r17)
  else
   (mW p.Op (p.Kids.length:Int)).bind λr18=>
   some (!r18)
 else if(p.N !=0)=true then
  if(!number)=true then
   some true
  else
   (mW p.Op (p.Kids.length:Int)).bind λr23=>
   some (!r23)
 else
  (mW p.Op (p.Kids.length:Int)).bind λr24=>
  some (!r24)
theorem RG:OJ 0 (cA qec 28) (vR p number) .normal (λo=>aQ 87 [(1,.eptr (ac p)),(48,.bool o)] [.dead] []) (aQ 87 [(1,.eptr (ac p)),(3,.bool number)] [.dead] []):=qdV.j<|
 have pp5:=λ{X Y Z} (r:PV _ X Y Z)=>tw (aD p)<|r;tf (λc4=>pp5<|tg 4 c4<|tE) λc4=>have pp7:=λ{X Y Z} (r:PV _ X Y Z)=>pp5<|tg 4 c4<|tw (aD p)<|r;tf (λc6=>pp7<|tg 9 c6<|tE) λc6=>have pp9:=λ{X Y Z} (r:PV _ X Y Z)=>pp7<|tg 9 c6<|tw (bv p)<|r;tf (λc8=>tb λr10 br10=>have pp12:=λ{X Y Z} (r:PV _ X Y Z)=>pp9<|tg 13 c8<|tw (aD p)<|bG (V9 _ br10)<|r;tf (λc11=>pp12<|tg 20 c11<|tE) λc11=>have pp14:=λ{X Y Z} (r:PV _ X Y Z)=>pp12<|tg 20 c11<|tw (bh p)<|r;tf (λc13=>have pp16:=λ{X Y Z} (r:PV _ X Y Z)=>pp14<|tg 24 c13<|r;tf (λc15=>pp16<|tg 29 c15<|tE) λc15=>tb λr17 br17=>pp16<|tg 29 c15<|tw (aD p)<|tw (aC p)<|bL (dT.ln p.Kids)<|bG (Bd _ br17)<|tE) λc13=>tb λr18 br18=>pp14<|tg 24 c13<|tw (aD p)<|tw (aC p)<|bL (dT.ln p.Kids)<|bG (Bd _ br18)<|tE) λc8=>have pp20:=λ{X Y Z} (r:PV _ X Y Z)=>pp9<|tg 13 c8<|tw (bh p)<|r;tf (λc19=>have pp22:=λ{X Y Z} (r:PV _ X Y Z)=>pp20<|tg 24 c19<|r;tf (λc21=>pp22<|tg 29 c21<|tE) λc21=>tb λr23 br23=>pp22<|tg 29 c21<|tw (aD p)<|tw (aC p)<|bL (dT.ln p.Kids)<|bG (Bd _ br23)<|tE) λc19=>tb λr24 br24=>pp20<|tg 24 c19<|tw (aD p)<|tw (aC p)<|bL (dT.ln p.Kids)<|bG (Bd _ br24)<|tE
end
section
variable(p:aa)
def mX:Option Bool:=
 if (p.Op == 1) = true then
  (D1 p.N).bind λr29=>
  if(!r29)=true then
   some true
  else if(p.Op==2)=true then
   if decide (p.N<0)=true then
    some true
   else
    some (decide (p.N>1))
  else
   some false
 else if(p.Op==2)=true then
  if decide (p.N<0)=true then
   some true
  else
   some (decide (p.N>1))
 else
  some false
theorem RH:OJ 0 (cA qec 60) (mX p) .normal (λo=>aQ 87 [(1,.eptr (ac p)),(72,.bool o)] [.dead] []) (aQ 87 [(1,.eptr (ac p))] [.dead] []):=qdV.j<|
 have pp28:=λ{X Y Z} (r:PV _ X Y Z)=>tw (aD p)<|r;tf (λc27=>tb λr29 br29=>have pp31:=λ{X Y Z} (r:PV _ X Y Z)=>pp28<|tg 4 c27<|tw (bh p)<|bG (UR _ br29)<|r;tf (λc30=>pp31<|tg 10 c30<|tE) λc30=>have pp33:=λ{X Y Z} (r:PV _ X Y Z)=>pp31<|tg 10 c30<|tw (aD p)<|r;tf (λc32=>have pp35:=λ{X Y Z} (r:PV _ X Y Z)=>pp33<|tg 14 c32<|tw (bh p)<|r;tf (λc34=>pp35<|tg 18 c34<|tE) λc34=>pp35<|tg 18 c34<|tw (bh p)<|tE) λc32=>pp33<|tg 14 c32<|tE) λc27=>have pp37:=λ{X Y Z} (r:PV _ X Y Z)=>pp28<|tg 4 c27<|tw (aD p)<|r;tf (λc36=>have pp39:=λ{X Y Z} (r:PV _ X Y Z)=>pp37<|tg 14 c36<|tw (bh p)<|r;tf (λc38=>pp39<|tg 18 c38<|tE) λc38=>pp39<|tg 18 c38<|tw (bh p)<|tE) λc36=>pp37<|tg 14 c36<|tE
end
section
variable(p:aa)
def vS:Option Bool:=
 if(p.Op==8)=true then
  (cX p.Kids 0).bind λx46=>
  some (x46.Op !=1)
 else
  some false
theorem RI:OJ 0 (cA qec 252) (vS p) .normal (λo=>aQ 87 [(86,.bool o)] [.dead] []) (aQ 87 [(1,.eptr (ac p))] [.dead] []):=qdV.j<|
 have pp45:=λ{X Y Z} (r:PV _ X Y Z)=>tw (aD p)<|r;tf (λc44=>tb λx46 bx46=>pp45<|tg 4 c44<|tw (aC p)<|tv (dT.ia (k:=.i64) bx46)<|tw (aD x46)<|tE) λc44=>pp45<|tg 4 c44<|tE
end
def vP(p:aa):Option Int:=
 (vQ p).bind λo3=>
 (vR p o3).bind λo25=>
 if o25=true then
  some 1
 else
  (mX p).bind λo40=>
  if o40=true then
   some 2
  else
   (qh p).bind λr42=>
   if(!r42)=true then
    some 3
   else
    (vS p).bind λo47=>
    if o47=true then
     some 6
    else
     some 0
theorem X0{p:aa}:OV 231 [.agg (ac p)] (vP p) (λr=>.int .i64 r) []:=qdV.v<|
 tb λo3 bo3=>tb λo25 bo25=>te (dQ p)<|fc 0<|bT (RF p _ bo3)<|fc 1<|bT (RG p o3 _ bo25)<|tF tE<|tb λo40 bo40=>fc 1<|bT (RH p _ bo40)<|tF tE<|tb λr42 br42=>tv (bu p)<|bG (T6 _ br42)<|tF tE<|tb λo47 bo47=>fc 1<|bT (RI p _ bo47)<|tF tE<|tE
noncomputable def qi1:Code:=f197.body.getD .skip
def qnm:List Nat:=[11,23]
theorem qkw:ZF Pg qnm 197 f197 qi1:=zf call197 func197 rfl mixed
section
variable(R190:Ep)(t13:waC)(t14:Int)(t15:Int)
def uM:aK:=aQ 25 [(13,sl ac t13),(14,.int .i64 t14),(15,.int .i64 t15)] [.dead] []
def JN(o:Int⊕(Unit)):Exit:=match o with
 |(.inl _)=>.ret
 |(.inr _)=>.exit 0
def Cn(o:Int⊕(Unit)):aK:=match o with
 |(.inl o)=>aQ 25 [(2,.int .i64 o)] [.dead] []
 |(.inr o)=>aQ 25 [] [.dead] []
instance iS_R07_form_L1:KS 0 (uM t13 t14 t15):=⟨rfl,(bD (aI (up (aZ bK t13)) (aI vzz (aI vzz vzz)))),(aI vzz vzz)⟩
instance iO_R07_form_L1{o:Int⊕(Unit)}:KS 0 (Cn o):=match o with
 |(.inl o)=>⟨rfl,(bD (aI vzz vzz)),(aI vzz vzz)⟩
 |(.inr o)=>⟨rfl,(bD vzz),(aI vzz vzz)⟩
def hZ:Option (Int⊕(Int⊕(Unit))):=
 if decide (t15<t14)=true then
  (cX t13 t15).bind λx4=>
  (R190 x4).bind λr5=>
  if(r5 !=0)=true then
   some (.inr (.inl r5))
  else
   some (.inl (dt (t15+1)))
 else
  some (.inr (.inr ()))
def vK:Option (Int⊕(Unit)):=loop (λ(zz:Int)=>hZ R190 t13 t14 zz) t15
theorem Qe(hR190:Kc R190):OL 0 (cA qi1 119) (hZ R190 t13 t14 t15) (λ(zz:Int)=>uM t13 t14 zz) JN Cn (uM t13 t14 t15):=qkw.lx<|
 tF (tb λx4 bx4=>tb λr5 br5=>tv (dT.ia (k:=.i64) bx4)<|tv (bu x4)<|tx M0<|tx (fT x4)<|tv (fS x4 [])<|bG (hR190 _ _ br5)<|tF tE<|tE)<|tE
theorem GZ(hR190:Kc R190):OK 0 (.loop (cA qi1 119)) (vK R190 t13 t14 t15) JN Cn (uM t13 t14 t15):=AN λ_=>Qe _ _ _ _ hR190
end
def tS(R190:Ep)(p:aa):Option Int:=
 (vP p).bind λr1=>
 if(r1 !=0)=true then
  some r1
 else
  (vK R190 p.Kids (p.Kids.length:Int) 0).bind λo7=>match o7 with
  |(.inl o7)=>
   some o7
  |(.inr o7)=>
   some 0
theorem V8(R190:Ep)(hR190:Kc R190){p:aa}:OV 197 [.agg (ac p)] (tS R190 p) (λr=>.int .i64 r) []:=qkw.v<|
 tb λr1 br1=>te (dQ p)<|tv (bu p)<|bG (X0 _ br1)<|tF tE<|tw (aC p)<|bL (dT.ln p.Kids)<|t2 (λo7 bo7=>bT (GZ R190 p.Kids (p.Kids.length:Int) 0 hR190 _ bo7)<|tE) λo7 bo7=>bT (GZ R190 p.Kids (p.Kids.length:Int) 0 hR190 _ bo7)<|tE
def D8:(aa->Option Int)->(aa)->Option Int:=λ(rec:aa->Option Int) (x:aa)=>tS (λp=>rec p) x
def LC(p:aa):Option Int:=pA D8 p
theorem XZ{p:aa}:OV 197 [.agg (ac p)] (LC p) (λr=>.int .i64 r) []:=Do λ_ h=>
 dN (F:=D8) (M:=λ(x:aa) (r:Int)=>CC Pg GE 197 [.agg (ac x)] (.int .i64 r) []) (λrec hrec x r h=>V8 _ (λp=>Do λr h=>hrec p r h) _ h) h
noncomputable def qpt:Code:=f149.body.getD .skip
def qmF:List Nat:=[]
theorem qot:ZF Pg qmF 149 f149 qpt:=zf call149 func149 rfl mixed
def nW(p:aa):Option Int:=
 (qD p).bind λr1=>
 if decide (r1>400)=true then
  some 7
 else
  (CW p).bind λr3=>
  if decide (r3>40)=true then
   some 8
  else
   (LC p).bind λr5=>
   some r5
theorem V5{p:aa}:OV 149 [.agg (ac p)] (nW p) (λr=>.int .i64 r) []:=qot.v<|
 tb λr1 br1=>te (dQ p)<|tv (bu p)<|bG (D6 _ br1)<|tF tE<|tb λr3 br3=>tv (bu p)<|bG (V6 _ br3)<|tF tE<|tb λr5 br5=>tv (bu p)<|bG (XZ _ br5)<|tE
abbrev nk:=(aa->Option ae)
abbrev y5(R:nk):Prop:=∀(p:aa),OV 150 [.agg (ac p)] (R p) (λr=>.str r) []
noncomputable def qi2:Code:=f198.body.getD .skip
def qnn:List Nat:=[]
theorem qiE:ZF Pg qnn 198 f198 qi2:=zf call198 func198 rfl mixed
section
variable(t4:Int)
def LE:Option Bool:=
 if(t4==10)=true then
  some (t4==10)
 else if(t4==11)=true then
  some (t4==11)
 else if(t4==12)=true then
  some (t4==12)
 else
  some (t4==13)
theorem Qf:OJ 0 (cA qi2 57342) (LE t4) .normal (λo=>aQ 27 [(4,.int .i64 t4),(15,.bool o)] [.dead] []) (aQ 27 [(4,.int .i64 t4)] [.dead] []):=qiE.j<|
 tF tE<|tF tE<|tF tE<|tE
end
section
variable(t4:Int)
def LF:Option Bool:=
 if(t4==6)=true then
  some (t4==6)
 else
  some (t4==7)
theorem Qg:OJ 0 (cA qi2 229374) (LF t4) .normal (λo=>aQ 27 [(4,.int .i64 t4),(20,.bool o)] [.dead] []) (aQ 27 [(4,.int .i64 t4)] [.dead] []):=qiE.j<|
 tF tE<|tE
end
def Ip(p:aa):Option Int:=
 if(p.Op==18)=true then
  some 1
 else if(p.Op==17)=true then
  some 2
 else if(p.Op==16)=true then
  some 3
 else if(p.Op==15)=true then
  some 4
 else if(p.Op==14)=true then
  some 5
 else
  (LE p.Op).bind λo9=>
  if o9=true then
   some 6
  else
   (LF p.Op).bind λo12=>
   if o12=true then
    some 7
   else if(p.Op==8)=true then
    some 8
   else if(p.Op==9)=true then
    some 9
   else
    some 10
theorem LH{p:aa}:OV 198 [.agg (ac p)] (Ip p) (λr=>.int .i64 r) []:=qiE.v<|
 te (dQ p)<|tw (aD p)<|tF tE<|tF tE<|tF tE<|tF tE<|tF tE<|tb λo9 bo9=>fc 0<|bT (Qf p.Op _ bo9)<|tF tE<|tb λo12 bo12=>fc 0<|bT (Qg p.Op _ bo12)<|tF tE<|tF tE<|tF tE<|tE
noncomputable def qgG:Code:=f233.body.getD .skip
def qnT:List Nat:=[16]
theorem qiH:ZF Pg qnT 233 f233 qgG:=zf call233 func233 rfl mixed
section
variable(n:Int)(v:(List Int))(neg:Bool)(d:Int)
def Nx:Option Int:=
 if decide (d<0)=true then
  some (IntKind.i64.wrap (0 - d))
 else
  some d
theorem VX:OJ 0 (cA qgG 1982) (Nx d) .normal (λo=>aQ 25 [(0,.int .i64 n),(2,.bptr 0 0),(3,sl (cI .i64) v),(4,.bool neg),(5,.int .i64 o)] [.cells [.bool false,sl (cI .i64) ([]:List Int)] [(1,3)]] [((3,0),3)]) (aQ 25 [(0,.int .i64 n),(2,.bptr 0 0),(3,sl (cI .i64) v),(4,.bool neg),(5,.int .i64 d)] [.cells [.bool false,sl (cI .i64) ([]:List Int)] [(1,3)]] [((3,0),3)]):=qiH.j<|
 tF tE<|tE
end
section
variable(neg:Bool)(n:Int)(v:(List Int))
def GG:aK:=aQ 25 [(0,.int .i64 n),(2,.bptr 0 0),(3,sl (cI .i64) v),(4,.bool neg)] [.cells [.bool false,sl (cI .i64) ([]:List Int)] [(1,3)]] [((3,0),3)]
def Pd(o:(List Int)):aK:=aQ 25 [(2,.bptr 0 0),(3,sl (cI .i64) o),(4,.bool neg)] [.cells [.bool false,sl (cI .i64) ([]:List Int)] [(1,3)]] [((3,0),3)]
def qz:Option ((Int×(List Int))⊕(((List Int)))):=
 if(n !=0)=true then
  (re n 10000).bind λq2=>
  (Nx q2).bind λo4=>
  (app v ([o4]:List Int)).bind λl5=>
  (qu .i64 n 10000).bind λq6=>
  some (.inl (q6,l5))
 else
  some (.inr v)
def yO:Option (((List Int))):=loop (λ(zz:Int×(List Int))=>qz zz.1 zz.2) (n,v)
theorem T1:OL 0 (cA qgG 123) (qz n v) (λ(zz:Int×(List Int))=>GG neg zz.1 zz.2) (λ_=>.exit 0) (Pd neg) (GG neg n v):=qiH.l<|
 tF (tb λq2 bq2=>tb λo4 bo4=>tb λl5 bl5=>tb λq6 bq6=>tv (Pl (P:=Pg) (t:=3) (k:=.i64) bq2)<|fc 0<|bT (VX n v neg q2 _ bo4)<|tv (M5.mk' (v:=(PVal.int .i64)) (qru .i64) ([o4]:List Int) 1 (by kernel_rfl))<|tv (M5.ap bl5)<|tv (Pk (P:=Pg) (t:=3) bq6)<|tE)<|tE
theorem VY:OJ 0 (.loop (cA qgG 123)) (yO n v) (.exit 0) (Pd neg) (GG neg n v):=y1 λ_=>T1 _ _ _
end
def VW(n:Int):Option ra:=
 (yO n ([]:List Int)).bind λo7=>
 some (⟨(decide (n<0)),o7⟩:ra)
theorem qb1{n:Int}:OV 233 [.int .i64 n] (VW n) (λr=>.agg (ez r)) []:=qiH.v<|
 tb λo7 bo7=>tx qlx<|bT (VY (decide (n<0)) n ([]:List Int) _ bo7)<|tv (Yg (decide (n<0)) o7)<|tx (qfh (⟨(decide (n<0)),o7⟩:ra))<|CR λq=>aI (qfI (⟨(decide (n<0)),o7⟩:ra)) q.2
noncomputable def qed:Code:=f261.body.getD .skip
def qn8:List Nat:=[]
theorem qgq:ZF Pg qn8 261 f261 qed:=zf call261 func261 rfl mixed
section
variable(v:ra)(n:Int)
def xT:Option Bool:=
 if decide (n>200)=true then
  some true
 else if(n==0)=true then
  if v.Neg=true then
   some true
  else if decide (n>0)=true then
   (cX v.Digits (dt (n - 1))).bind λx7=>
   some (x7==0)
  else
   some false
 else if decide (n>0)=true then
  (cX v.Digits (dt (n - 1))).bind λx10=>
  some (x10==0)
 else
  some false
theorem PQ:OJ 0 (cA qed 28) (xT v n) .normal (λo=>aQ 50 [(1,.eptr (ez v)),(3,.int .i64 n),(30,.bool o)] [.dead] []) (aQ 50 [(1,.eptr (ez v)),(3,.int .i64 n)] [.dead] []):=qgq.j<|
 tf (λc1=>tg 3 c1<|tE) λc1=>tf (λc2=>have pp4:=λ{X Y Z} (r:PV _ X Y Z)=>tg 3 c1<|tg 6 c2<|tw (BI v)<|r;tf (λc3=>pp4<|tg 11 c3<|tE) λc3=>have pp6:=λ{X Y Z} (r:PV _ X Y Z)=>pp4<|tg 11 c3<|r;tf (λc5=>tb λx7 bx7=>pp6<|tg 14 c5<|tw (fw v)<|tv (M5.ia (k:=.i64) bx7)<|tv (eC qlO (.int .i64 x7) [])<|tE) λc5=>pp6<|tg 14 c5<|tE) λc2=>have pp9:=λ{X Y Z} (r:PV _ X Y Z)=>tg 3 c1<|tg 6 c2<|r;tf (λc8=>tb λx10 bx10=>pp9<|tg 14 c8<|tw (fw v)<|tv (M5.ia (k:=.i64) bx10)<|tv (eC qlO (.int .i64 x10) [])<|tE) λc8=>pp9<|tg 14 c8<|tE
end
section
variable(v:ra)(n:Int)(i:Int)
def xU:Option Bool:=
 (cX v.Digits i).bind λx14=>
 if decide (x14<0)=true then
  some true
 else
  (cX v.Digits i).bind λx17=>
  some (decide (x17>=10000))
theorem PR:OJ 0 (cA qed 3962) (xU v i) .normal (λo=>aQ 50 [(1,.eptr (ez v)),(3,.int .i64 n),(4,.int .i64 i),(49,.bool o)] [.dead] []) (aQ 50 [(1,.eptr (ez v)),(3,.int .i64 n),(4,.int .i64 i)] [.dead] []):=qgq.j<|
 tb λx14 bx14=>have pp16:=λ{X Y Z} (r:PV _ X Y Z)=>tw (fw v)<|tv (M5.ia (k:=.i64) bx14)<|tv (eC qlO (.int .i64 x14) [])<|r;tf (λc15=>pp16<|tg 7 c15<|tE) λc15=>tb λx17 bx17=>pp16<|tg 7 c15<|tw (fw v)<|tv (M5.ia (k:=.i64) bx17)<|tv (eC qlO (.int .i64 x17) [])<|tE
end
section
variable(v:ra)(n:Int)(i:Int)
def y6:aK:=aQ 50 [(1,.eptr (ez v)),(3,.int .i64 n),(4,.int .i64 i)] [.dead] []
def GH(o:Unit⊕(Unit)):Exit:=match o with
 |(.inl _)=>.ret
 |(.inr _)=>.exit 0
def GI(o:Unit⊕(Unit)):aK:=match o with
 |(.inl o)=>aQ 50 [(2,.bool false)] [.dead] []
 |(.inr o)=>aQ 50 [] [.dead] []
def rf:Option (Int⊕(Unit⊕(Unit))):=
 if decide (i<n)=true then
  (xU v i).bind λo18=>
  if o18=true then
   some (.inr (.inl ()))
  else
   some (.inl (dt (i+1)))
 else
  some (.inr (.inr ()))
def xV:Option (Unit⊕(Unit)):=loop (λ(zz:Int)=>rf v n zz) i
theorem Ny:OL 0 (cA qed 247) (rf v n i) (λ(zz:Int)=>y6 v n zz) GH GI (y6 v n i):=qgq.l<|
 tF (tb λo18 bo18=>fc 1<|bT (PR v n i _ bo18)<|tF tE<|tE)<|tE
theorem Fk:OK 0 (.loop (cA qed 247)) (xV v n i) GH GI (y6 v n i):=AN λ_=>Ny _ _ _
end
def CU(a:ra):Option Bool:=
 (xT a (a.Digits.length:Int)).bind λo11=>
 if o11=true then
  some false
 else
  (xV a (a.Digits.length:Int) 0).bind λo20=>match o20 with
  |(.inl o20)=>
   some false
  |(.inr o20)=>
   some true
theorem Ly{a:ra}:OV 261 [.agg (ez a)] (CU a) (λr=>.bool r) []:=qgq.v<|
 tb λo11 bo11=>te (Rc a)<|tw (fw a)<|bL (M5.ln a.Digits)<|fc 1<|bT (PQ a (a.Digits.length:Int) _ bo11)<|tF tE<|t2 (λo20 bo20=>bT (Fk a (a.Digits.length:Int) 0 _ bo20)<|tE) λo20 bo20=>bT (Fk a (a.Digits.length:Int) 0 _ bo20)<|tE
noncomputable def qp9:Code:=f252.body.getD .skip
def qn5:List Nat:=[]
theorem qo7:ZF Pg qn5 252 f252 qp9:=zf call252 func252 rfl mixed
def Kf(a:ra):Option ((List Int)):=
 (CU a).bind λr1=>
 if(!r1)=true then
  some ([]:List Int)
 else
  some a.Digits
theorem T3{a:ra}:OV 252 [.agg (ez a)] (Kf a) (λr=>sl (cI .i64) r) []:=qo7.v<|
 tb λr1 br1=>te (Rc a)<|tv (Q8 a)<|bG (Ly _ br1)<|tF tE<|tw (fw a)<|tE
noncomputable def qqa:Code:=f253.body.getD .skip
def qn6:List Nat:=[]
theorem qo8:ZF Pg qn6 253 f253 qqa:=zf call253 func253 rfl mixed
def Lz(n:Int):Option ae:=
 (qu .i64 n 1000).bind λq1=>
 (qu .i64 n 1000).bind λq2=>
 (OY ([48,49,50,51,52,53,54,55,56,57]:ae) (some q1) (some (dt (q2+1)))).bind λs3=>
 (qu .i64 n 100).bind λq4=>
 (re q4 10).bind λq5=>
 (qu .i64 n 100).bind λq6=>
 (re q6 10).bind λq7=>
 (OY ([48,49,50,51,52,53,54,55,56,57]:ae) (some q5) (some (dt (q7+1)))).bind λs8=>
 (Mc s3 s8).bind λs9=>
 (qu .i64 n 10).bind λq10=>
 (re q10 10).bind λq11=>
 (qu .i64 n 10).bind λq12=>
 (re q12 10).bind λq13=>
 (OY ([48,49,50,51,52,53,54,55,56,57]:ae) (some q11) (some (dt (q13+1)))).bind λs14=>
 (Mc s9 s14).bind λs15=>
 (re n 10).bind λq16=>
 (re n 10).bind λq17=>
 (OY ([48,49,50,51,52,53,54,55,56,57]:ae) (some q16) (some (dt (q17+1)))).bind λs18=>
 (Mc s15 s18).bind λs19=>
 some s19
theorem XV{n:Int}:OV 253 [.int .i64 n] (Lz n) (λr=>.str r) []:=qo8.v<|
 tb λq1 bq1=>tb λq2 bq2=>tb λs3 bs3=>tb λq4 bq4=>tb λq5 bq5=>tb λq6 bq6=>tb λq7 bq7=>tb λs8 bs8=>tb λs9 bs9=>tb λq10 bq10=>tb λq11 bq11=>tb λq12 bq12=>tb λq13 bq13=>tb λs14 bs14=>tb λs15 bs15=>tb λq16 bq16=>tb λq17 bq17=>tb λs18 bs18=>tb λs19 bs19=>VE [0,1,0,4,12,31,0,64,192,0,512,1536,3584,8128,16383,0,32768,98304,0,262144,786432,1835008,4161536,8388607,0,16777216,0,67108864,201326592,520093696,1073741823,2147483647]<|tv (Pk (P:=Pg) (t:=3) bq1)<|tv (Pk (P:=Pg) (t:=3) bq2)<|tv (Nd underlying9 bs3)<|tv (Pk (P:=Pg) (t:=3) bq4)<|tv (Pl (P:=Pg) (t:=3) (k:=.i64) bq5)<|tv (Pk (P:=Pg) (t:=3) bq6)<|tv (Pl (P:=Pg) (t:=3) (k:=.i64) bq7)<|tv (Nd underlying9 bs8)<|tv (gC (P:=Pg) (t:=9) bs9)<|tv (Pk (P:=Pg) (t:=3) bq10)<|tv (Pl (P:=Pg) (t:=3) (k:=.i64) bq11)<|tv (Pk (P:=Pg) (t:=3) bq12)<|tv (Pl (P:=Pg) (t:=3) (k:=.i64) bq13)<|tv (Nd underlying9 bs14)<|tv (gC (P:=Pg) (t:=9) bs15)<|tv (Pl (P:=Pg) (t:=3) (k:=.i64) bq16)<|tv (Pl (P:=Pg) (t:=3) (k:=.i64) bq17)<|tv (Nd underlying9 bs18)<|tv (gC (P:=Pg) (t:=9) bs19)<|tE
noncomputable def qqb:Code:=f254.body.getD .skip
def qn7:List Nat:=[]
theorem qo9:ZF Pg qn7 254 f254 qqb:=zf call254 func254 rfl mixed
def D2(a:ra):Option Bool:=
 (CU a).bind λr1=>
 if r1=true then
  some a.Neg
 else
  some false
theorem PT{a:ra}:OV 254 [.agg (ez a)] (D2 a) (λr=>.bool r) []:=qo9.v<|
 tb λr1 br1=>te (Rc a)<|have pp3:=λ{X Y Z} (r:PV _ X Y Z)=>tv (Q8 a)<|bG (Ly _ br1)<|r;tf (λc2=>pp3<|tg 3 c2<|tw (BI a)<|tE) λc2=>pp3<|tg 3 c2<|tE
noncomputable def qca:Code:=f232.body.getD .skip
def qnS:List Nat:=[38]
theorem qgn:ZF Pg qnS 232 f232 qca:=zf call232 func232 rfl mixed
section
variable(v:ra)(v2:(List Int))(s:ae)(i:Int)
def Cg:aK:=aQ 39 [(1,.eptr (ez v)),(3,sl (cI .i64) v2),(4,.str s),(5,.int .i64 i)] [.dead] []
def JE(o:ae):aK:=aQ 39 [(1,.eptr (ez v)),(4,.str o)] [.dead] []
def pn:Option ((ae×Int)⊕(ae)):=
 if decide (i>=0)=true then
  (cX v2 i).bind λx3=>
  (Lz x3).bind λr4=>
  (Mc s r4).bind λs5=>
  some (.inl (s5,dt (i - 1)))
 else
  some (.inr s)
def AY:Option ae:=loop (λ(zz:ae×Int)=>pn v2 zz.1 zz.2) (s,i)
theorem PO:OL 0 (cA qca 247) (pn v2 s i) (λ(zz:ae×Int)=>Cg v v2 zz.1 zz.2) (λ_=>.exit 0) (JE v) (Cg v v2 s i):=qgn.l<|
 tF (tb λx3 bx3=>tb λr4 br4=>tb λs5 bs5=>tv (M5.ia (k:=.i64) bx3)<|tv (eC qlO (.int .i64 x3) [])<|bG (XV _ br4)<|tv (gC (P:=Pg) (t:=9) bs5)<|tE)<|tE
theorem Ro:OJ 0 (.loop (cA qca 247)) (AY v2 s i) (.exit 0) (JE v) (Cg v v2 s i):=y1 λ_=>PO _ _ _ _
end
section
variable(v:ra)(s:ae)
def AX:Option Bool:=
 if decide ((s.length:Int)>1)=true then
  (jC s 0).bind λc8=>
  some (c8==48)
 else
  some false
theorem Rn:OJ 0 (cA qca 1004) (AX s) .normal (λo=>aQ 39 [(1,.eptr (ez v)),(4,.str s),(29,.bool o)] [.dead] []) (aQ 39 [(1,.eptr (ez v)),(4,.str s)] [.dead] []):=qgn.j<|
 tf (λc7=>tb λc8 bc8=>bL (lR underlying9 s)<|tg 4 c7<|tv (fF (k:=.i64) underlying9 bc8)<|tE) λc7=>bL (lR underlying9 s)<|tg 4 c7<|tE
end
section
variable(v:ra)(s:ae)
def Ch:aK:=aQ 39 [(1,.eptr (ez v)),(4,.str s)] [.dead] []
def JF(o:ae):aK:=aQ 39 [(1,.eptr (ez v)),(4,.str o)] [.dead] []
def lT:Option (ae⊕(ae)):=
 (AX s).bind λo9=>
 if o9=true then
  (OY s (some 1) none).bind λs11=>
  some (.inl s11)
 else
  some (.inr s)
def mS:Option ae:=loop (λ(zz:ae)=>lT zz) s
theorem PP:OL 0 (cA qca 251) (lT s) (λ(zz:ae)=>Ch v zz) (λ_=>.exit 2) (JF v) (Ch v s):=qgn.l<|
 tb λo9 bo9=>fc 1<|bT (Rn v s _ bo9)<|tF (tb λs11 bs11=>tv (Nd underlying9 bs11)<|tE)<|tE
theorem Rp:OJ 0 (.loop (cA qca 251)) (mS s) (.exit 2) (JF v) (Ch v s):=y1 λ_=>PP _ _
end
def Rm(a:ra):Option ae:=
 (Kf a).bind λr1=>
 (AY r1 ([]:ae) (dt ((r1.length:Int) - 1))).bind λo6=>
 (mS o6).bind λo12=>
 if(o12==([]:ae))=true then
  some ([48]:ae)
 else
  (D2 a).bind λr14=>
  if r14=true then
   (Mc ([45]:ae) o12).bind λs16=>
   some s16
  else
   some o12
theorem XU{a:ra}:OV 232 [.agg (ez a)] (Rm a) (λr=>.str r) []:=qgn.v<|
 tb λr1 br1=>tb λo6 bo6=>tb λo12 bo12=>te (Rc a)<|tv (Q8 a)<|bG (T3 _ br1)<|bL (M5.ln r1)<|bT (Ro a r1 ([]:ae) (dt ((r1.length:Int) - 1)) _ bo6)<|bT (Rp a o6 _ bo12)<|tF tE<|tb λr14 br14=>tv (Q8 a)<|bG (PT _ br14)<|tF (tb λs16 bs16=>tv (gC (P:=Pg) (t:=9) bs16)<|tE)<|tE
noncomputable def qpL:Code:=f199.body.getD .skip
def qno:List Nat:=[]
theorem qoL:ZF Pg qno 199 f199 qpL:=zf call199 func199 rfl mixed
def zg(n:Int):Option ae:=
 (VW n).bind λr1=>
 (Rm r1).bind λr2=>
 some r2
theorem JP{n:Int}:OV 199 [.int .i64 n] (zg n) (λr=>.str r) []:=qoL.v<|
 tb λr1 br1=>tb λr2 br2=>bG (qb1 _ br1)<|bG (XU _ br2)<|tE
noncomputable def qgE:Code:=f200.body.getD .skip
def qnp:List Nat:=[]
theorem qiF:ZF Pg qnp 200 f200 qgE:=zf call200 func200 rfl mixed
section
variable(v:waC)(s:ae)(i:Int)
def Be:Option ae:=
 if decide (i>0)=true then
  (Mc s aU).bind λs3=>
  some s3
 else
  some s
theorem RJ:OJ 0 (cA qgE 1914) (Be s i) .normal (λo=>aQ 24 [(0,sl ac v),(3,.str o),(4,.int .i64 i)] [] []) (aQ 24 [(0,sl ac v),(3,.str s),(4,.int .i64 i)] [] []):=qiF.j<|
 tF (tb λs3 bs3=>tv (gC (P:=Pg) (t:=9) bs3)<|tE)<|tE
end
section
variable(R195:nk)(v:waC)(s:ae)(i:Int)
def Co:aK:=aQ 24 [(0,sl ac v),(3,.str s),(4,.int .i64 i)] [] []
def JO(o:ae):aK:=aQ 24 [(3,.str o)] [] []
def pq:Option ((ae×Int)⊕(ae)):=
 if decide (i<(v.length:Int))=true then
  (Be s i).bind λo4=>
  (cX v i).bind λx5=>
  (R195 x5).bind λr6=>
  (Mc o4 r6).bind λs7=>
  some (.inl (s7,dt (i+1)))
 else
  some (.inr s)
def Bf:Option ae:=loop (λ(zz:ae×Int)=>pq R195 v zz.1 zz.2) (s,i)
theorem Qh(hR195:y5 R195):OL 0 (cA qgE 119) (pq R195 v s i) (λ(zz:ae×Int)=>Co v zz.1 zz.2) (λ_=>.exit 0) JO (Co v s i):=qiF.l<|
 bL (dT.ln v)<|tF (tb λo4 bo4=>tb λx5 bx5=>tb λr6 br6=>tb λs7 bs7=>fc 1<|bT (RJ v s i _ bo4)<|tv (dT.ia (k:=.i64) bx5)<|tv (bu x5)<|bG (hR195 _ _ br6)<|tv (gC (P:=Pg) (t:=9) bs7)<|tE)<|tE
theorem RL(hR195:y5 R195):OJ 0 (.loop (cA qgE 119)) (Bf R195 v s i) (.exit 0) JO (Co v s i):=y1 λ_=>Qh _ _ _ _ hR195
end
def G0(R195:nk)(a:waC):Option ae:=
 (Bf R195 a cE 0).bind λo8=>
 (Mc o8 dI).bind λs9=>
 some s9
theorem Pf(R195:nk)(hR195:y5 R195){a:waC}:OV 200 [sl ac a] (G0 R195 a) (λr=>.str r) []:=qiF.v<|
 tb λo8 bo8=>tb λs9 bs9=>bT (RL R195 a cE 0 hR195 _ bo8)<|tv (gC (P:=Pg) (t:=9) bs9)<|tE
noncomputable def qpM:Code:=f201.body.getD .skip
def qnq:List Nat:=[]
theorem qoM:ZF Pg qnq 201 f201 qpM:=zf call201 func201 rfl mixed
def uN(R195:nk)(p:aa)(least:Int):Option ae:=
 (Ip p).bind λr1=>
 if decide (r1<least)=true then
  (R195 p).bind λr3=>
  (Mc cE r3).bind λs4=>
  (Mc s4 dI).bind λs5=>
  some s5
 else
  (R195 p).bind λr6=>
  some r6
theorem tT(R195:nk)(hR195:y5 R195){p:aa}{least:Int}:OV 201 [.agg (ac p),.int .i64 least] (uN R195 p least) (λr=>.str r) []:=qoM.v<|
 tb λr1 br1=>te (dQ p)<|tv (bu p)<|bG (LH _ br1)<|tF (tb λr3 br3=>tb λs4 bs4=>tb λs5 bs5=>tv (bu p)<|bG (hR195 _ _ br3)<|tv (gC (P:=Pg) (t:=9) bs4)<|tv (gC (P:=Pg) (t:=9) bs5)<|tE)<|tb λr6 br6=>tv (bu p)<|bG (hR195 _ _ br6)<|tE
noncomputable def qpN:Code:=f202.body.getD .skip
def qnr:List Nat:=[]
theorem qoN:ZF Pg qnr 202 f202 qpN:=zf call202 func202 rfl mixed
def RM(op:Int):Option ae:=
 if(op==18)=true then
  some qT
 else if(op==17)=true then
  some tj
 else if(op==16)=true then
  some wD
 else if(op==15)=true then
  some wB
 else if(op==10)=true then
  some VM
 else if(op==11)=true then
  some gV
 else if(op==12)=true then
  some PK
 else if(op==13)=true then
  some wC
 else if(op==6)=true then
  some PJ
 else if(op==7)=true then
  some pT
 else
  some PI
theorem X2{op:Int}:OV 202 [.int .i64 op] (RM op) (λr=>.str r) []:=qoN.v<|
 tF tE<|tF tE<|tF tE<|tF tE<|tF tE<|tF tE<|tF tE<|tF tE<|tF tE<|tF tE<|tE
noncomputable def qkQ:Code:=f150.body.getD .skip
def qmG:List Nat:=[83]
theorem qkk:ZF Pg qmG 150 f150 qkQ:=zf call150 func150 rfl mixed
section
variable(p:aa)(k:Int)
def Bg:Option Int:=
 if(k==6)=true then
  some 7
 else
  some k
theorem RO:OJ 0 (cA qkQ 62) (Bg k) .normal (λo=>aQ 106 [(1,.eptr (ac p)),(3,.int .i64 k),(4,.int .i64 o)] [.dead] []) (aQ 106 [(1,.eptr (ac p)),(3,.int .i64 k),(4,.int .i64 k)] [.dead] []):=qkk.j<|
 tF tE<|tE
end
def D9(R195:nk)(p:aa):Option ae:=
 (Ip p).bind λr1=>
 if(p.Op==1)=true then
  if decide (p.N<0)=true then
   (zg p.N).bind λr4=>
   (Mc cE r4).bind λs5=>
   (Mc s5 dI).bind λs6=>
   some s6
  else
   (zg p.N).bind λr7=>
   some r7
 else if(p.Op==2)=true then
  if(p.N==1)=true then
   some nR
  else
   some tn
 else if(p.Op==3)=true then
  some p.Name
 else if(p.Op==4)=true then
  (G0 R195 p.Kids).bind λr12=>
  (Mc p.Name r12).bind λs13=>
  some s13
 else if(p.Op==5)=true then
  (Mc TZ p.Name).bind λs15=>
  (G0 R195 p.Kids).bind λr16=>
  (Mc s15 r16).bind λs17=>
  some s17
 else if(p.Op==14)=true then
  (cX p.Kids 0).bind λx19=>
  (uN R195 x19 r1).bind λr20=>
  (Mc xS r20).bind λs21=>
  some s21
 else if(p.Op==9)=true then
  (cX p.Kids 0).bind λx23=>
  (uN R195 x23 r1).bind λr24=>
  (Mc pT r24).bind λs25=>
  some s25
 else if(p.Op==17)=true then
  (cX p.Kids 0).bind λx27=>
  (uN R195 x27 (dt (r1+1))).bind λr28=>
  (Mc r28 th).bind λs29=>
  (cX p.Kids 1).bind λx30=>
  (uN R195 x30 r1).bind λr31=>
  (Mc s29 r31).bind λs32=>
  some s32
 else
  (Bg r1).bind λo34=>
  (cX p.Kids 0).bind λx35=>
  (uN R195 x35 o34).bind λr36=>
  (Mc r36 dh).bind λs37=>
  (RM p.Op).bind λr38=>
  (Mc s37 r38).bind λs39=>
  (Mc s39 dh).bind λs40=>
  (cX p.Kids 1).bind λx41=>
  (uN R195 x41 (dt (r1+1))).bind λr42=>
  (Mc s40 r42).bind λs43=>
  some s43
theorem Wa(R195:nk)(hR195:y5 R195){p:aa}:OV 150 [.agg (ac p)] (D9 R195 p) (λr=>.str r) []:=qkk.v<|
 tb λr1 br1=>te (dQ p)<|tv (bu p)<|bG (LH _ br1)<|tw (aD p)<|tF (tw (bh p)<|tF (tb λr4 br4=>tb λs5 bs5=>tb λs6 bs6=>tw (bh p)<|bG (JP _ br4)<|tv (gC (P:=Pg) (t:=9) bs5)<|tv (gC (P:=Pg) (t:=9) bs6)<|tE)<|tb λr7 br7=>tw (bh p)<|bG (JP _ br7)<|tE)<|tF (tw (bh p)<|tF tE<|tE)<|tF (tw (bv p)<|tE)<|tF (tb λr12 br12=>tb λs13 bs13=>VE [0,1,0,4,12,31,63]<|tw (bv p)<|tw (aC p)<|bG (Pf R195 hR195 _ br12)<|tv (gC (P:=Pg) (t:=9) bs13)<|tE)<|tF (tb λs15 bs15=>tb λr16 br16=>tb λs17 bs17=>VE [0,1,3,0,8,24,63,127]<|tw (bv p)<|tv (gC (P:=Pg) (t:=9) bs15)<|tw (aC p)<|bG (Pf R195 hR195 _ br16)<|tv (gC (P:=Pg) (t:=9) bs17)<|tE)<|tF (tb λx19 bx19=>tb λr20 br20=>tb λs21 bs21=>tw (aC p)<|tv (dT.ia (k:=.i64) bx19)<|tv (bu x19)<|bG (tT R195 hR195 _ br20)<|tv (gC (P:=Pg) (t:=9) bs21)<|tE)<|tF (tb λx23 bx23=>tb λr24 br24=>tb λs25 bs25=>tw (aC p)<|tv (dT.ia (k:=.i64) bx23)<|tv (bu x23)<|bG (tT R195 hR195 _ br24)<|tv (gC (P:=Pg) (t:=9) bs25)<|tE)<|tF (tb λx27 bx27=>tb λr28 br28=>tb λs29 bs29=>tb λx30 bx30=>tb λr31 br31=>tb λs32 bs32=>VE [0,1,3,7,0,16,63,127,0,256,768,1792,0,8063,16383,32767]<|tw (aC p)<|tv (dT.ia (k:=.i64) bx27)<|tv (bu x27)<|bG (tT R195 hR195 _ br28)<|tv (gC (P:=Pg) (t:=9) bs29)<|tw (aC p)<|tv (dT.ia (k:=.i64) bx30)<|tv (bu x30)<|bG (tT R195 hR195 _ br31)<|tv (gC (P:=Pg) (t:=9) bs32)<|tE)<|tb λo34 bo34=>tb λx35 bx35=>tb λr36 br36=>tb λs37 bs37=>tb λr38 br38=>tb λs39 bs39=>tb λs40 bs40=>tb λx41 bx41=>tb λr42 br42=>tb λs43 bs43=>fc 1<|bT (RO p r1 _ bo34)<|VE [0,1,3,7,0,31,63,0,128,447,1023,2047,0,4096,12288,28672,0,65536,259007,524287,1048575]<|tw (aC p)<|tv (dT.ia (k:=.i64) bx35)<|tv (bu x35)<|bG (tT R195 hR195 _ br36)<|tv (gC (P:=Pg) (t:=9) bs37)<|tw (aD p)<|bG (X2 _ br38)<|tv (gC (P:=Pg) (t:=9) bs39)<|tv (gC (P:=Pg) (t:=9) bs40)<|tw (aC p)<|tv (dT.ia (k:=.i64) bx41)<|tv (bu x41)<|bG (tT R195 hR195 _ br42)<|tv (gC (P:=Pg) (t:=9) bs43)<|tE
def Kh:(aa->Option ae)->(aa)->Option ae:=λ(rec:aa->Option ae) (x:aa)=>D9 (λp=>rec p) x
def RN(p:aa):Option ae:=pA Kh p
theorem X3{p:aa}:OV 150 [.agg (ac p)] (RN p) (λr=>.str r) []:=Do λ_ h=>
 dN (F:=Kh) (M:=λ(x:aa) (r:ae)=>CC Pg GE 150 [.agg (ac x)] (.str r) []) (λrec hrec x r h=>Wa _ (λp=>Do λr h=>hrec p r h) _ h) h
noncomputable def qtz:Code:=f99.body.getD .skip
def qsA:List Nat:=[9]
theorem qs6:ZF Pg qsA 99 f99 qtz:=zf call99 func99 rfl mixed
def LD(p:aa):Option (ae×Int):=
 (nW p).bind λr1=>
 if(r1 !=0)=true then
  some (([]:ae),r1)
 else
  (RN p).bind λr3=>
  some (r3,0)
theorem X1{p:aa}:OV 99 [.agg (ac p)] (LD p) (λr=>.tuple [.str r.1,.int .i64 r.2]) []:=qs6.v<|
 tb λr1 br1=>te (dQ p)<|tv (bu p)<|bG (V5 _ br1)<|tF tE<|tb λr3 br3=>tv (bu p)<|bG (X3 _ br3)<|tE
noncomputable def qtn:Code:=f59.body.getD .skip
def qr9:List Nat:=[]
theorem qsU:ZF Pg qr9 59 f59 qtn:=zf call59 func59 rfl mixed
def lJ(p:aa)(k0:ae)(k02:Bool):Option (ae×Bool):=
 (LD p).bind λr1=>
 (dl (r1.2==0) k0 k02).bind λr2=>
 (ay ([r1.1]:List ae) k0 r2).bind λr3=>
 some (r3,r2)
theorem zD{p:aa}{k0:ae}{k02:Bool}:OG 59 [.bptr 0 0,.agg (ac p)] [] [.cells [.str k0,.bool k02] []] (lJ p k0 k02) (λr=>.tuple []) [] (λr=>[.cells [.str r.1,.bool r.2] []]):=qsU.g 1<|
 tb λr1 br1=>tb λr2 br2=>tb λr3 br3=>te (dQ p)<|tv (bu p)<|bG (X1 _ br1)<|tc [0] (dy _ br2)<|tv (bJ [r1.1] 1 rfl)<|tc [0] (ax _ br3)<|tE
noncomputable def qrk:Code:=f86.body.getD .skip
def qsr:List Nat:=[]
theorem qra:ZF Pg qsr 86 f86 qrk:=zf call86 func86 rfl mixed
section
variable(t:af)(m:ae)(m2:Bool)
def j7:Option Bool:=
 (zE t.Pred).bind λr1=>
 if r1=true then
  if(t.Op==6)=true then
   some true
  else if decide ((t.Args.length:Int)>0)=true then
   some true
  else
   some (decide ((t.Preds.length:Int)>0))
 else
  some false
theorem Em:OJ 1 (cA qrk 6) (j7 t) .normal (λo=>aQ 36 [(0,.bptr 0 0),(3,.eptr (ai t)),(23,.bool o)] [.cells [.str m,.bool m2] [],.dead] []) (aQ 36 [(0,.bptr 0 0),(3,.eptr (ai t))] [.cells [.str m,.bool m2] [],.dead] []):=qra.j<|
 tb λr1 br1=>have pp3:=λ{X Y Z} (r:PV _ X Y Z)=>tw (cj t)<|bG (Bv _ br1)<|r;tf (λc2=>have pp5:=λ{X Y Z} (r:PV _ X Y Z)=>pp3<|tg 4 c2<|tw (az t)<|r;tf (λc4=>pp5<|tg 8 c4<|tE) λc4=>have pp7:=λ{X Y Z} (r:PV _ X Y Z)=>pp5<|tg 8 c4<|tw (aM t)<|bL (cu.ln t.Args)<|r;tf (λc6=>pp7<|tg 14 c6<|tE) λc6=>pp7<|tg 14 c6<|tw (bm t)<|bL (dT.ln t.Preds)<|tE) λc2=>pp3<|tg 4 c2<|tE
end
def nZ(R182:dK)(t:af)(k0:ae)(k02:Bool):Option (ae×Bool):=
 (j7 t).bind λo8=>
 if o8=true then
  (ay ([cE]:List ae) k0 k02).bind λr10=>
  (R182 t r10 k02).bind λr11=>
  (ay ([dI]:List ae) r11.2 r11.1).bind λr12=>
  some (r12,r11.1)
 else
  (R182 t k0 k02).bind λr13=>
  some (r13.2,r13.1)
theorem Ja(R182:dK)(hR182:eT R182){t:af}{k0:ae}{k02:Bool}:OG 86 [.bptr 0 0,.agg (ai t)] [] [.cells [.str k0,.bool k02] []] (nZ R182 t k0 k02) (λr=>.tuple []) [] (λr=>[.cells [.str r.1,.bool r.2] []]):=qra.g 1<|
 tb λo8 bo8=>te (dR t)<|fc 0<|bT (Em t k0 k02 _ bo8)<|tF (tb λr10 br10=>tb λr11 br11=>tb λr12 br12=>tv (bJ [cE] 1 rfl)<|tc [0] (ax _ br10)<|tv (bo t)<|tc [0] (hR182 _ _ _ _ br11)<|tv (bJ [dI] 1 rfl)<|tc [0] (ax _ br12)<|tE)<|tb λr13 br13=>tv (bo t)<|tc [0] (hR182 _ _ _ _ br13)<|tE
noncomputable def qps:Code:=f145.body.getD .skip
def qmB:List Nat:=[]
theorem qos:ZF Pg qmB 145 f145 qps:=zf call145 func145 rfl mixed
def RB:Option aa:=
 some (⟨2,([]:ae),1,([]:List aa)⟩:aa)
theorem XY:OV 145 [] RB (λr=>.agg (ac r)) [(3,28)]:=qos.va<|
 tx M0<|QT (WC 2 1) (Ww 2 1)<|ty (cf (⟨2,([]:ae),1,([]:List aa)⟩:aa))<|CR λq=>aI (qdk (⟨2,([]:ae),1,([]:List aa)⟩:aa)) q.2
noncomputable def qkM:Code:=f101.body.getD .skip
def ql8:List Nat:=[]
theorem qkb:ZF Pg ql8 101 f101 qkM:=zf call101 func101 rfl mixed
section
variable(m:ae)(m2:Bool)(m3:Int)(m4:ae)(m5:Int)(m6:waC)
def oP:Option ((Int×ae×Int×waC)):=
 (zE (⟨m3,m4,m5,m6⟩:aa)).bind λr1=>
 if r1=true then
  RB.bind λr3=>
  some (r3.Op,r3.Name,r3.N,r3.Kids)
 else
  some (m3,m4,m5,m6)
theorem Ek:OJ 1 (cA qkM 6) (oP m3 m4 m5 m6) .normal (λo=>aQ 10 [(0,.bptr 0 0),(3,.bptr 1 0)] [.cells [.str m,.bool m2] [],.cells [.int .i64 o.1,.str o.2.1,.int .i64 o.2.2.1,sl ac o.2.2.2] []] []) (aQ 10 [(0,.bptr 0 0),(3,.bptr 1 0)] [.cells [.str m,.bool m2] [],.cells [.int .i64 m3,.str m4,.int .i64 m5,sl ac m6] []] []):=qkb.j<|
 tb λr1 br1=>tv (fS (⟨m3,m4,m5,m6⟩:aa) [])<|bG (Bv _ br1)<|tF (tb λr3 br3=>bG (XY _ br3)<|ty (cf r3)<|tE)<|tE
end
def nX(p:aa)(k0:ae)(k02:Bool):Option (ae×Bool):=
 (oP p.Op p.Name p.N p.Kids).bind λo4=>
 (lJ (⟨o4.1,o4.2.1,o4.2.2.1,o4.2.2.2⟩:aa) k0 k02).bind λr5=>
 some (r5.1,r5.2)
theorem I8{p:aa}{k0:ae}{k02:Bool}:OG 101 [.bptr 0 0,.agg (ac p)] [] [.cells [.str k0,.bool k02] []] (nX p k0 k02) (λr=>.tuple []) [] (λr=>[.cells [.str r.1,.bool r.2] []]):=qkb.g 1<|
 tb λo4 bo4=>tb λr5 br5=>qhT (fT p) rfl<|fc 0<|bT (Ek k0 k02 p.Op p.Name p.N p.Kids _ bo4)<|tv (fS (⟨o4.1,o4.2.1,o4.2.2.1,o4.2.2.2⟩:aa) [])<|tc [0] (zD _ br5)<|tE
noncomputable def qkT:Code:=f61.body.getD .skip
def qsb:List Nat:=[38]
theorem qpc:ZF Pg qsb 61 f61 qkT:=zf call61 func61 rfl mixed
section
variable(R182:dK)(t:af)(t13:waB)(t14:Int)(t15:Int)(m:ae)(m2:Bool)
def jr:aK:=aQ 54 [(0,.bptr 0 0),(3,.eptr (ai t)),(13,sl ai t13),(14,.int .i64 t14),(15,.int .i64 t15)] [.cells [.str m,.bool m2] [],.dead] []
def nf(o:ae×Bool):aK:=aQ 54 [(0,.bptr 0 0),(3,.eptr (ai t))] [.cells [.str o.1,.bool o.2] [],.dead] []
instance iS_R22_Writer_data_L1:KS 1 (jr t t13 t14 t15 m m2):=⟨rfl,(bD (aI (cZ rfl) (aI (eA (cJ t)) (aI (up (aZ cJ t13)) (aI vzz (aI vzz vzz)))))),(aI (aI vzz (aI vzz vzz)) (aI vzz vzz))⟩
instance iO_R22_Writer_data_L1{o:(ae×Bool)}:KS 1 (nf t o):=⟨rfl,(bD (aI (cZ rfl) (aI (eA (cJ t)) trivial))),(aI (aI vzz (aI vzz vzz)) (aI vzz vzz))⟩
def eV:Option ((Int×ae×Bool)⊕((ae×Bool))):=
 if decide (t15<t14)=true then
  (cX t13 t15).bind λx3=>
  (ay ([dh]:List ae) m m2).bind λr4=>
  (nZ R182 x3 r4 m2).bind λr5=>
  some (.inl (dt (t15+1),r5.1,r5.2))
 else
  some (.inr (m,m2))
def lh:Option ((ae×Bool)):=loop (λ(zz:Int×ae×Bool)=>eV R182 t13 t14 zz.1 zz.2.1 zz.2.2) (t15,m,m2)
theorem Ee(hR182:eT R182):OL 1 (cA qkT 119) (eV R182 t13 t14 t15 m m2) (λ(zz:Int×ae×Bool)=>jr t t13 t14 zz.1 zz.2.1 zz.2.2) (λ_=>.exit 0) (nf t) (jr t t13 t14 t15 m m2):=qpc.lx<|
 tF (tb λx3 bx3=>tb λr4 br4=>tb λr5 br5=>tv (cu.ia (k:=.i64) bx3)<|tv (bo x3)<|tx K8<|tx (gJ x3)<|tv (bJ [dh] 1 rfl)<|tc [0] (ax _ br4)<|tv (ed x3 [])<|tc [0] (Ja R182 hR182 _ br5)<|tE)<|tE
theorem F8(hR182:eT R182):OJ 1 (.loop (cA qkT 119)) (lh R182 t13 t14 t15 m m2) (.exit 0) (nf t) (jr t t13 t14 t15 m m2):=y1 λ_=>Ee _ _ _ _ _ _ _ hR182
end
section
variable(t34:waC)(t35:Int)(t36:Int)(m:ae)(m2:Bool)
def jt:aK:=aQ 54 [(0,.bptr 0 0),(34,sl ac t34),(35,.int .i64 t35),(36,.int .i64 t36)] [.cells [.str m,.bool m2] [],.dead] []
def ng(o:ae×Bool):aK:=aQ 54 [(0,.bptr 0 0)] [.cells [.str o.1,.bool o.2] [],.dead] []
instance iS_R22_Writer_data_L2:KS 1 (jt t34 t35 t36 m m2):=⟨rfl,(bD (aI (cZ rfl) (aI (up (aZ bK t34)) (aI vzz (aI vzz vzz))))),(aI (aI vzz (aI vzz vzz)) (aI vzz vzz))⟩
instance iO_R22_Writer_data_L2{o:(ae×Bool)}:KS 1 (ng o):=⟨rfl,(bD (aI (cZ rfl) trivial)),(aI (aI vzz (aI vzz vzz)) (aI vzz vzz))⟩
def eW:Option ((Int×ae×Bool)⊕((ae×Bool))):=
 if decide (t36<t35)=true then
  (cX t34 t36).bind λx10=>
  (eU t36 m m2).bind λr11=>
  (ay ([jn]:List ae) r11 m2).bind λr12=>
  (nX x10 r12 m2).bind λr13=>
  some (.inl (dt (t36+1),r13.1,r13.2))
 else
  some (.inr (m,m2))
def li:Option ((ae×Bool)):=loop (λ(zz:Int×ae×Bool)=>eW t34 t35 zz.1 zz.2.1 zz.2.2) (t36,m,m2)
theorem Ef:OL 1 (cA qkT 1015) (eW t34 t35 t36 m m2) (λ(zz:Int×ae×Bool)=>jt t34 t35 zz.1 zz.2.1 zz.2.2) (λ_=>.exit 2) ng (jt t34 t35 t36 m m2):=qpc.lx<|
 tF (tb λx10 bx10=>tb λr11 br11=>tb λr12 br12=>tb λr13 br13=>tv (dT.ia (k:=.i64) bx10)<|tv (bu x10)<|tx M0<|tx (fT x10)<|tc [0] (fq _ br11)<|tv (bJ [jn] 1 rfl)<|tc [0] (ax _ br12)<|tv (fS x10 [])<|tc [0] (I8 _ br13)<|tE)<|tE
theorem F9:OJ 1 (.loop (cA qkT 1015)) (li t34 t35 t36 m m2) (.exit 2) ng (jt t34 t35 t36 m m2):=y1 λ_=>Ef _ _ _ _ _
end
def lH(R182:dK)(t:af)(k0:ae)(k02:Bool):Option (ae×Bool):=
 (cT t.Name true k0 k02).bind λr1=>
 (lh R182 t.Args (t.Args.length:Int) 0 r1.1 r1.2).bind λo6=>
 if((t.Preds.length:Int)==0)=true then
  some (o6.1,o6.2)
 else
  (ay ([DV]:List ae) o6.1 o6.2).bind λr8=>
  (li t.Preds (t.Preds.length:Int) 0 r8 o6.2).bind λo14=>
  (ay ([VN]:List ae) o14.1 o14.2).bind λr15=>
  some (r15,o14.2)
theorem Km(R182:dK)(hR182:eT R182){t:af}{k0:ae}{k02:Bool}:OG 61 [.bptr 0 0,.agg (ai t)] [] [.cells [.str k0,.bool k02] []] (lH R182 t k0 k02) (λr=>.tuple []) [] (λr=>[.cells [.str r.1,.bool r.2] []]):=qpc.g 1<|
 tb λr1 br1=>tb λo6 bo6=>te (dR t)<|tw (bP t)<|tc [0] (dw _ br1)<|tw (aM t)<|bL (cu.ln t.Args)<|bT (F8 R182 t t.Args (t.Args.length:Int) 0 r1.1 r1.2 hR182 _ bo6)<|tw (bm t)<|bL (dT.ln t.Preds)<|tF tE<|tb λr8 br8=>tb λo14 bo14=>tb λr15 br15=>tv (bJ [DV] 1 rfl)<|tc [0] (ax _ br8)<|tw (bm t)<|bL (dT.ln t.Preds)<|bT (F9 t.Preds (t.Preds.length:Int) 0 r8 o6.2 _ bo14)<|tv (bJ [VN] 1 rfl)<|tc [0] (ax _ br15)<|tE
noncomputable def qp4:Code:=f24.body.getD .skip
def qrQ:List Nat:=[]
theorem qo3:ZF Pg qrQ 24 f24 qp4:=zf call24 func24 rfl mixed
section
variable(t:af)(m:ae)(m2:Bool)
def my:Option Bool:=
 (zE t.Pred).bind λr5=>
 if r5=true then
  (dl ((t.Preds.length:Int)==0) m m2).bind λr8=>
  some r8
 else
  (dl false m m2).bind λr9=>
  some r9
theorem Hr:OJ 1 (cA qp4 244) (my t m m2) .normal (λo=>aQ 93 [(0,.bptr 0 0),(3,.eptr (ai t))] [.cells [.str m,.bool o] [],.dead] []) (aQ 93 [(0,.bptr 0 0),(3,.eptr (ai t))] [.cells [.str m,.bool m2] [],.dead] []):=qo3.j<|
 tb λr5 br5=>have pp7:=λ{X Y Z} (r:PV _ X Y Z)=>tw (cj t)<|bG (Bv _ br5)<|r;tf (λc6=>tb λr8 br8=>pp7<|tg 5 c6<|tw (bm t)<|bL (dT.ln t.Preds)<|tc [0] (dy _ br8)<|tE) λc6=>tb λr9 br9=>pp7<|tg 5 c6<|tc [0] (dy _ br9)<|tE
end
section
variable(t:af)(m:ae)(m2:Bool)
def mz:Option Bool:=
 if((t.Preds.length:Int)==0)=true then
  (dl true m m2).bind λr21=>
  some r21
 else
  (dl (t.Op==4) m m2).bind λr22=>
  some r22
theorem Hs:OJ 1 (cA qp4 126) (mz t m m2) .normal (λo=>aQ 93 [(0,.bptr 0 0),(3,.eptr (ai t))] [.cells [.str m,.bool o] [],.dead] []) (aQ 93 [(0,.bptr 0 0),(3,.eptr (ai t))] [.cells [.str m,.bool m2] [],.dead] []):=qo3.j<|
 have pp20:=λ{X Y Z} (r:PV _ X Y Z)=>tw (bm t)<|bL (dT.ln t.Preds)<|r;tf (λc19=>tb λr21 br21=>pp20<|tg 6 c19<|tc [0] (dy _ br21)<|tE) λc19=>tb λr22 br22=>pp20<|tg 6 c19<|tw (az t)<|tc [0] (dy _ br22)<|tE
end
def ij(R182:dK)(t:af)(k0:ae)(k02:Bool):Option (Bool×ae):=
 (jk t).bind λr1=>
 (dl (r1==0) k0 k02).bind λr2=>
 if r2=true then
  some (r2,k0)
 else if(t.Op==6)=true then
  (my t k0 r2).bind λo10=>
  (nh R182 t k0 o10).bind λr11=>
  some (r11.2,r11.1)
 else
  (zE t.Pred).bind λr12=>
  if(!r12)=true then
   (ay ([fG]:List ae) k0 r2).bind λr14=>
   (R182 (⟨t.Op,t.Name,t.Args,t.Names,(⟨0,([]:ae),0,([]:List aa)⟩:aa),t.Preds⟩:af) r14 r2).bind λr15=>
   (ay ([kY]:List ae) r15.2 r15.1).bind λr16=>
   (lJ t.Pred r16 r15.1).bind λr17=>
   (ay ([PL]:List ae) r17.1 r17.2).bind λr18=>
   some (r17.2,r18)
  else
   (mz t k0 r2).bind λo23=>
   if(t.Op==1)=true then
    (ay ([VL]:List ae) k0 o23).bind λr25=>
    some (o23,r25)
   else if(t.Op==2)=true then
    (ay ([Pa]:List ae) k0 o23).bind λr27=>
    some (o23,r27)
   else if(t.Op==3)=true then
    (ay ([Pb]:List ae) k0 o23).bind λr29=>
    some (o23,r29)
   else if(t.Op==5)=true then
    (cT t.Name false k0 o23).bind λr31=>
    some (r31.2,r31.1)
   else if(t.Op==4)=true then
    (lH R182 t k0 o23).bind λr33=>
    some (r33.2,r33.1)
   else
    some (o23,k0)
theorem Ko(R182:dK)(hR182:eT R182){t:af}{k0:ae}{k02:Bool}:OG 24 [.bptr 0 0,.agg (ai t)] [] [.cells [.str k0,.bool k02] []] (ij R182 t k0 k02) (λr=>.tuple []) [] (λr=>[.cells [.str r.2,.bool r.1] []]):=qo3.g 1<|
 tb λr1 br1=>tb λr2 br2=>te (dR t)<|tv (bo t)<|bG (Ea _ br1)<|tc [0] (dy _ br2)<|ts<|tF tE<|tw (az t)<|tF (tb λo10 bo10=>tb λr11 br11=>fc 0<|bT (Hr t k0 r2 _ bo10)<|tv (bo t)<|tc [0] (LN R182 hR182 _ br11)<|tE)<|tb λr12 br12=>tw (cj t)<|bG (Bv _ br12)<|tF (tb λr14 br14=>tb λr15 br15=>tb λr16 br16=>tb λr17 br17=>tb λr18 br18=>tv (bo t)<|tx K8<|tx (gJ t)<|QT (Kx) (Ku)<|ty (cf (⟨0,([]:ae),0,([]:List aa)⟩:aa))<|tv (bJ [fG] 1 rfl)<|tc [0] (ax _ br14)<|tv (ed (⟨t.Op,t.Name,t.Args,t.Names,(⟨0,([]:ae),0,([]:List aa)⟩:aa),t.Preds⟩:af) [])<|tc [0] (hR182 _ _ _ _ br15)<|tv (bJ [kY] 1 rfl)<|tc [0] (ax _ br16)<|tw (cj t)<|tc [0] (zD _ br17)<|tv (bJ [PL] 1 rfl)<|tc [0] (ax _ br18)<|tE)<|tb λo23 bo23=>fc 0<|bT (Hs t k0 r2 _ bo23)<|tw (az t)<|tF (tb λr25 br25=>tv (bJ [VL] 1 rfl)<|tc [0] (ax _ br25)<|tE)<|tF (tb λr27 br27=>tv (bJ [Pa] 1 rfl)<|tc [0] (ax _ br27)<|tE)<|tF (tb λr29 br29=>tv (bJ [Pb] 1 rfl)<|tc [0] (ax _ br29)<|tE)<|tF (tb λr31 br31=>tw (bP t)<|tc [0] (dw _ br31)<|tE)<|tF (tb λr33 br33=>tv (bo t)<|tc [0] (Km R182 hR182 _ br33)<|tE)<|tE
def kp:((af×ae×Bool)->Option (Bool×ae))->(af×ae×Bool)->Option (Bool×ae):=λ(rec:(af×ae×Bool)->Option (Bool×ae)) (x:af×ae×Bool)=>ij (λt k0 k02=>rec (t,k0,k02)) x.1 x.2.1 x.2.2
def gu(t:af)(k0:ae)(k02:Bool):Option (Bool×ae):=pA kp (t,k0,k02)
theorem jy{t:af}{k0:ae}{k02:Bool}:OG 24 [.bptr 0 0,.agg (ai t)] [] [.cells [.str k0,.bool k02] []] (gu t k0 k02) (λr=>.tuple []) [] (λr=>[.cells [.str r.2,.bool r.1] []]):=Vo λ_ h=>
 dN (F:=kp) (M:=λ(x:af×ae×Bool) (r:Bool×ae)=>C Pg GE 24 [.bptr 0 0,.agg (ai x.1)] [] [.cells [.str x.2.1,.bool x.2.2] []] (.tuple []) [] [.cells [.str r.2,.bool r.1] []]) (λrec hrec x r h=>Ko _ (λt k0 k02=>Vo λr h=>hrec (t,k0,k02) r h) _ h) h
end Go.Proofs.YtibglelmlnfojaaGreatDoor
