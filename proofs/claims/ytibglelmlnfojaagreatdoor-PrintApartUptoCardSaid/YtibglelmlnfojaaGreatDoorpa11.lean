/- PROVED: a part of the proof. Conditions: none. -/
import Derived.Test.YtibglelmlnfojaaGreatDoorpa10
set_option linter.unusedSimpArgs false
set_option linter.unusedVariables false
noncomputable section
namespace Go.Proofs.YtibglelmlnfojaaGreatDoor
open Go Go.Proofs.Tryz
set_option linter.unusedVariables false
set_option maxRecDepth 100000
abbrev fQ:=(ae->ae->Option Bool)
abbrev kV(R:fQ):Prop:=∀(a:ae) (a2:ae),OV 131 [.agg (aj a),.agg (aj a2)] (R a a2) (λr=>.bool r) []
noncomputable def qdF:Code:=f136.body.getD .skip
def qgJ:List Nat:=[15]
theorem qe0:ZF Pg qgJ 136 f136 qdF:=zf call136 func136 rfl mixed
section
variable(s1:waA)(s2:waA)(t12:Int)(t13:Int)
def qw:aF:=aZ 26 [(0,sl cS s1),(1,sl cS s2),(12,.int .i64 t12),(13,.int .i64 t13)] [] []
def ze(o:Unit⊕(Unit)):Exit:=match o with
 |(.inl _)=>.ret
 |(.inr _)=>.exit 0
def zg(o:Unit⊕(Unit)):aF:=match o with
 |(.inl o)=>aZ 26 [(4,.bool false)] [] []
 |(.inr o)=>aZ 26 [] [] []
def fT:Option (Int⊕(Unit⊕(Unit))):=
 if decide (t13<t12)=true then
  (dh s1 t13).bind λx3=>
  (dh s2 t13).bind λx4=>
  if(!(x3==x4))=true then
   some (.inr (.inl ()))
  else
   some (.inl (dU (t13+1)))
 else
  some (.inr (.inr ()))
def uy:Option (Unit⊕(Unit)):=loop (λ(zz:Int)=>fT s1 s2 t12 zz) t13
theorem FO:OL 0 (cA qdF 119) (fT s1 s2 t12 t13) (λ(zz:Int)=>qw s1 s2 t12 zz) ze zg (qw s1 s2 t12 t13):=qe0.l<|
 tF (tb λx3 bx3=>tb λx4 bx4=>Sq [0,0,3,7,0,0,48,112,255]<|tv (kQ.ia (k:=.i64) bx3)<|tv (kb qct (.str x3) [])<|tv (kQ.ia (k:=.i64) bx4)<|tv (kb qct (.str x4) [])<|tF tE<|tE)<|tE
theorem xw:OK 0 (.loop (cA qdF 119)) (uy s1 s2 t12 t13) ze zg (qw s1 s2 t12 t13):=FA λ_=>FO _ _ _ _
end
def v6(s1:waA)(s2:waA):Option Bool:=
 if((s1.length:Int)!=(s2.length:Int))=true then
  some false
 else
  (uy s1 s2 (s1.length:Int) 0).bind λo6=>match o6 with
  |(.inl o6)=>
   some false
  |(.inr o6)=>
   some true
theorem L3{s1:waA}{s2:waA}:OV 136 [sl cS s1,sl cS s2] (v6 s1 s2) (λr=>.bool r) []:=qe0.v<|
 cq (kQ.ln s1)<|cq (kQ.ln s2)<|tF tE<|cq (kQ.ln s1)<|t2 (λo6 bo6=>dm (xw s1 s2 (s1.length:Int) 0 _ bo6)<|tE) λo6 bo6=>dm (xw s1 s2 (s1.length:Int) 0 _ bo6)<|tE
abbrev oT:=(aa->aa->Option Bool)
abbrev ym(R:oT):Prop:=∀(a:aa) (a2:aa),OV 128 [.agg (ac a),.agg (ac a2)] (R a a2) (λr=>.bool r) []
noncomputable def qdJ:Code:=f191.body.getD .skip
def qg9:List Nat:=[17]
theorem qe6:ZF Pg qg9 191 f191 qdJ:=zf call191 func191 rfl mixed
section
variable(R3:oT)(v:waD)(v2:waD)(t14:Int)(t15:Int)
def ul:aF:=aZ 30 [(0,sl ac v),(1,sl ac v2),(2,.func (.func 128) [] []),(14,.int .i64 t14),(15,.int .i64 t15)] [] []
def CN(o:Unit⊕(Unit)):Exit:=match o with
 |(.inl _)=>.ret
 |(.inr _)=>.exit 0
def CO(o:Unit⊕(Unit)):aF:=match o with
 |(.inl o)=>aZ 30 [(6,.bool false)] [] []
 |(.inr o)=>aZ 30 [] [] []
def kp:Option (Int⊕(Unit⊕(Unit))):=
 if decide (t15<t14)=true then
  (dh v t15).bind λx3=>
  (dh v2 t15).bind λx4=>
  (R3 x3 x4).bind λr5=>
  if(!r5)=true then
   some (.inr (.inl ()))
  else
   some (.inl (dU (t15+1)))
 else
  some (.inr (.inr ()))
def zH:Option (Unit⊕(Unit)):=loop (λ(zz:Int)=>kp R3 v v2 t14 zz) t15
theorem IU(hR3:ym R3):OL 0 (cA qdJ 119) (kp R3 v v2 t14 t15) (λ(zz:Int)=>ul v v2 t14 zz) CN CO (ul v v2 t14 t15):=qe6.l<|
 tF (tb λx3 bx3=>tb λx4 bx4=>tb λr5 br5=>Sq [0,0,0,6,14,0,0,96,224,511,1023]<|tv (eL.ia (k:=.i64) bx3)<|tv (bC x3)<|tv (eL.ia (k:=.i64) bx4)<|tv (bC x4)<|cJ (hR3 _ _ _ br5)<|tF tE<|tE)<|tE
theorem AC(hR3:ym R3):OK 0 (.loop (cA qdJ 119)) (zH R3 v v2 t14 t15) CN CO (ul v v2 t14 t15):=FA λ_=>IU _ _ _ _ _ hR3
end
def BO(R3:oT)(a:waD)(a2:waD):Option Bool:=
 if((a.length:Int)!=(a2.length:Int))=true then
  some false
 else
  (zH R3 a a2 (a.length:Int) 0).bind λo7=>match o7 with
  |(.inl o7)=>
   some false
  |(.inr o7)=>
   some true
theorem Po(R3:oT)(hR3:ym R3){a:waD}{a2:waD}:OV 191 [sl ac a,sl ac a2,.func (.func 128) [] []] (BO R3 a a2) (λr=>.bool r) []:=qe6.v<|
 cq (eL.ln a)<|cq (eL.ln a2)<|tF tE<|cq (eL.ln a)<|t2 (λo7 bo7=>dm (AC R3 a a2 (a.length:Int) 0 hR3 _ bo7)<|tE) λo7 bo7=>dm (AC R3 a a2 (a.length:Int) 0 hR3 _ bo7)<|tE
noncomputable def qim:Code:=f128.body.getD .skip
def qgG:List Nat:=[]
theorem qhK:ZF Pg qgG 128 f128 qim:=zf call128 func128 rfl mixed
def y3(R3:oT)(a:aa)(a2:aa):Option Bool:=
 if (a.Op == a2.Op) = true then
  if(a.Name==a2.Name)=true then
   if(a.N==a2.N)=true then
    (BO R3 a.Kids a2.Kids).bind λr7=>
    some r7
   else
    some false
  else
   some false
 else
  some false
theorem Pn(R3:oT)(hR3:ym R3){a:aa}{a2:aa}:OV 128 [.agg (ac a),.agg (ac a2)] (y3 R3 a a2) (λr=>.bool r) []:=qhK.v<|
 te (eI a)<|te (eI a2)<|have pp2:=λ{X Y Z} (r:PV _ X Y Z)=>tw (aQ a)<|tw (aQ a2)<|r;tf (λc1=>have pp4:=λ{X Y Z} (r:PV _ X Y Z)=>pp2<|tg 6 c1<|tw (cy a)<|tw (cy a2)<|r;tf (λc3=>have pp6:=λ{X Y Z} (r:PV _ X Y Z)=>pp4<|tg 13 c3<|tw (bM a)<|tw (bM a2)<|r;tf (λc5=>tb λr7 br7=>pp6<|tg 20 c5<|tw (aK a)<|tw (aK a2)<|cJ (Po R3 hR3 _ br7)<|tE) λc5=>pp6<|tg 20 c5<|tE) λc3=>pp4<|tg 13 c3<|tE) λc1=>pp2<|tg 6 c1<|tE
def Ek:((aa×aa)->Option Bool)->(aa×aa)->Option Bool:=λ(rec:(aa×aa)->Option Bool) (x:aa×aa)=>y3 (λa a2=>rec (a,a2)) x.1 x.2
def AB(a:aa)(a2:aa):Option Bool:=oE Ek (a,a2)
theorem BN{a:aa}{a2:aa}:OV 128 [.agg (ac a),.agg (ac a2)] (AB a a2) (λr=>.bool r) []:=IJ λ_ h=>
 eE (F:=Ek) (M:=λ(x:aa×aa) (r:Bool)=>CC Pg GE 128 [.agg (ac x.1),.agg (ac x.2)] (.bool r) []) (λrec hrec x r h=>Pn _ (λa a2=>IJ λr h=>hrec (a,a2) r h) _ h) h
noncomputable def qdK:Code:=f192.body.getD .skip
def qha:List Nat:=[19]
theorem qe7:ZF Pg qha 192 f192 qdK:=zf call192 func192 rfl mixed
section
variable(s2:waD)(t15:waD)(t16:Int)(t17:Int)
def hX:aF:=aZ 32 [(1,sl ac s2),(2,.func (.func 128) [] []),(15,sl ac t15),(16,.int .i64 t16),(17,.int .i64 t17)] [] []
def rb(o:Unit⊕(Unit)):Exit:=match o with
 |(.inl _)=>.ret
 |(.inr _)=>.exit 0
def kR(o:Unit⊕(Unit)):aF:=match o with
 |(.inl o)=>aZ 32 [(6,.bool false)] [] []
 |(.inr o)=>aZ 32 [] [] []
instance iS_slices_EqualFunc_L1:KS 0 (hX s2 t15 t16 t17):=⟨rfl,(bE (aI (up (aU bv s2)) (aI (aI vzz vzz) (aI (up (aU bv t15)) (aI vzz (aI vzz vzz)))))),vzz⟩
instance iO_slices_EqualFunc_L1{o:Unit⊕(Unit)}:KS 0 (kR o):=match o with
 |(.inl o)=>⟨rfl,(bE (aI vzz vzz)),vzz⟩
 |(.inr o)=>⟨rfl,(bE vzz),vzz⟩
def eb:Option (Int⊕(Unit⊕(Unit))):=
 if decide (t17<t16)=true then
  (dh t15 t17).bind λx3=>
  (dh s2 t17).bind λx4=>
  (AB x3 x4).bind λr5=>
  if(!r5)=true then
   some (.inr (.inl ()))
  else
   some (.inl (dU (t17+1)))
 else
  some (.inr (.inr ()))
def nf:Option (Unit⊕(Unit)):=loop (λ(zz:Int)=>eb s2 t15 t16 zz) t17
theorem AS:OL 0 (cA qdK 119) (eb s2 t15 t16 t17) (λ(zz:Int)=>hX s2 t15 t16 zz) rb kR (hX s2 t15 t16 t17):=qe7.lx<|
 tF (tb λx3 bx3=>tb λx4 bx4=>tb λr5 br5=>tv (eL.ia (k:=.i64) bx3)<|tv (bC x3)<|tx N7<|tx (jK x3)<|tv (eL.ia (k:=.i64) bx4)<|tv (bC x4)<|tx N7<|tx (jK x4)<|tv (kz x3 [])<|tv (kz x4 [])<|cJ (BN _ br5)<|tF tE<|tE)<|tE
theorem qu:OK 0 (.loop (cA qdK 119)) (nf s2 t15 t16 t17) rb kR (hX s2 t15 t16 t17):=FA λ_=>AS _ _ _ _
end
def mA(s1:waD)(s2:waD):Option Bool:=
 if((s1.length:Int)!=(s2.length:Int))=true then
  some false
 else
  (nf s2 s1 (s1.length:Int) 0).bind λo7=>match o7 with
  |(.inl o7)=>
   some false
  |(.inr o7)=>
   some true
theorem FM{s1:waD}{s2:waD}:OV 192 [sl ac s1,sl ac s2,.func (.func 128) [] []] (mA s1 s2) (λr=>.bool r) []:=qe7.v<|
 cq (eL.ln s1)<|cq (eL.ln s2)<|tF tE<|cq (eL.ln s1)<|t2 (λo7 bo7=>dm (qu s2 s1 (s1.length:Int) 0 _ bo7)<|tE) λo7 bo7=>dm (qu s2 s1 (s1.length:Int) 0 _ bo7)<|tE
noncomputable def qdE:Code:=f130.body.getD .skip
def qgH:List Nat:=[19]
theorem qeZ:ZF Pg qgH 130 f130 qdE:=zf call130 func130 rfl mixed
section
variable(R1:fQ)(s2:waB)(t15:waB)(t16:Int)(t17:Int)
def d4:aF:=aZ 32 [(1,sl aj s2),(2,.func (.func 131) [] []),(15,sl aj t15),(16,.int .i64 t16),(17,.int .i64 t17)] [] []
def jO(o:Unit⊕(Unit)):Exit:=match o with
 |(.inl _)=>.ret
 |(.inr _)=>.exit 0
def fo(o:Unit⊕(Unit)):aF:=match o with
 |(.inl o)=>aZ 32 [(6,.bool false)] [] []
 |(.inr o)=>aZ 32 [] [] []
instance iS_slices_EqualFunc_sameType_L1:KS 0 (d4 s2 t15 t16 t17):=⟨rfl,(bE (aI (up (aU dO s2)) (aI (aI vzz vzz) (aI (up (aU dO t15)) (aI vzz (aI vzz vzz)))))),vzz⟩
instance iO_slices_EqualFunc_sameType_L1{o:Unit⊕(Unit)}:KS 0 (fo o):=match o with
 |(.inl o)=>⟨rfl,(bE (aI vzz vzz)),vzz⟩
 |(.inr o)=>⟨rfl,(bE vzz),vzz⟩
def cu:Option (Int⊕(Unit⊕(Unit))):=
 if decide (t17<t16)=true then
  (dh t15 t17).bind λx3=>
  (dh s2 t17).bind λx4=>
  (R1 x3 x4).bind λr5=>
  if(!r5)=true then
   some (.inr (.inl ()))
  else
   some (.inl (dU (t17+1)))
 else
  some (.inr (.inr ()))
def fZ:Option (Unit⊕(Unit)):=loop (λ(zz:Int)=>cu R1 s2 t15 t16 zz) t17
theorem qv(hR1:kV R1):OL 0 (cA qdE 119) (cu R1 s2 t15 t16 t17) (λ(zz:Int)=>d4 s2 t15 t16 zz) jO fo (d4 s2 t15 t16 t17):=qeZ.lx<|
 tF (tb λx3 bx3=>tb λx4 bx4=>tb λr5 br5=>tv (dy.ia (k:=.i64) bx3)<|tv (cC x3)<|tx RN<|tx (pf x3)<|tv (dy.ia (k:=.i64) bx4)<|tv (cC x4)<|tx RN<|tx (pf x4)<|tv (ij x3 [])<|tv (ij x4 [])<|cJ (hR1 _ _ _ br5)<|tF tE<|tE)<|tE
theorem i6(hR1:kV R1):OK 0 (.loop (cA qdE 119)) (fZ R1 s2 t15 t16 t17) jO fo (d4 s2 t15 t16 t17):=FA λ_=>qv _ _ _ _ _ hR1
end
def eY(R1:fQ)(s1:waB)(s2:waB):Option Bool:=
 if((s1.length:Int)!=(s2.length:Int))=true then
  some false
 else
  (fZ R1 s2 s1 (s1.length:Int) 0).bind λo7=>match o7 with
  |(.inl o7)=>
   some false
  |(.inr o7)=>
   some true
theorem uw(R1:fQ)(hR1:kV R1){s1:waB}{s2:waB}:OV 130 [sl aj s1,sl aj s2,.func (.func 131) [] []] (eY R1 s1 s2) (λr=>.bool r) []:=qeZ.v<|
 cq (dy.ln s1)<|cq (dy.ln s2)<|tF tE<|cq (dy.ln s1)<|t2 (λo7 bo7=>dm (i6 R1 s2 s1 (s1.length:Int) 0 hR1 _ bo7)<|tE) λo7 bo7=>dm (i6 R1 s2 s1 (s1.length:Int) 0 hR1 _ bo7)<|tE
noncomputable def qin:Code:=f131.body.getD .skip
def qgI:List Nat:=[]
theorem qhL:ZF Pg qgI 131 f131 qin:=zf call131 func131 rfl mixed
def lA(R1:fQ)(a:ae)(a2:ae):Option Bool:=
 if (a.Op == a2.Op) = true then
  if (a.Name == a2.Name) = true then
   (v6 a.Names a2.Names).bind λr5=>
   if r5=true then
    (AB a.Pred a2.Pred).bind λr8=>
    if r8=true then
     (mA a.Preds a2.Preds).bind λr11=>
     if r11=true then
      (eY R1 a.Args a2.Args).bind λr14=>
      some r14
     else
      some false
    else
     some false
   else
    some false
  else
   some false
 else
  some false
theorem FY(R1:fQ)(hR1:kV R1){a:ae}{a2:ae}:OV 131 [.agg (aj a),.agg (aj a2)] (lA R1 a a2) (λr=>.bool r) []:=qhL.v<|
 te (fe a)<|te (fe a2)<|have pp2:=λ{X Y Z} (r:PV _ X Y Z)=>tw (aW a)<|tw (aW a2)<|r;tf (λc1=>have pp4:=λ{X Y Z} (r:PV _ X Y Z)=>pp2<|tg 6 c1<|tw (cT a)<|tw (cT a2)<|r;tf (λc3=>tb λr5 br5=>have pp7:=λ{X Y Z} (r:PV _ X Y Z)=>pp4<|tg 13 c3<|tw (bN a)<|tw (bN a2)<|cJ (L3 _ br5)<|r;tf (λc6=>tb λr8 br8=>have pp10:=λ{X Y Z} (r:PV _ X Y Z)=>pp7<|tg 20 c6<|tw (cZ a)<|tw (cZ a2)<|cJ (BN _ br8)<|r;tf (λc9=>tb λr11 br11=>have pp13:=λ{X Y Z} (r:PV _ X Y Z)=>pp10<|tg 27 c9<|tw (bu a)<|tw (bu a2)<|cJ (FM _ br11)<|r;tf (λc12=>tb λr14 br14=>pp13<|tg 34 c12<|tw (aX a)<|tw (aX a2)<|cJ (uw R1 hR1 _ br14)<|tE) λc12=>pp13<|tg 34 c12<|tE) λc9=>pp10<|tg 27 c9<|tE) λc6=>pp7<|tg 20 c6<|tE) λc3=>pp4<|tg 13 c3<|tE) λc1=>pp2<|tg 6 c1<|tE
def qL:((ae×ae)->Option Bool)->(ae×ae)->Option Bool:=λ(rec:(ae×ae)->Option Bool) (x:ae×ae)=>lA (λa a2=>rec (a,a2)) x.1 x.2
def uD(a:ae)(a2:ae):Option Bool:=oE qL (a,a2)
theorem Hw{a:ae}{a2:ae}:OV 131 [.agg (aj a),.agg (aj a2)] (uD a a2) (λr=>.bool r) []:=IJ λ_ h=>
 eE (F:=qL) (M:=λ(x:ae×ae) (r:Bool)=>CC Pg GE 131 [.agg (aj x.1),.agg (aj x.2)] (.bool r) []) (λrec hrec x r h=>FY _ (λa a2=>IJ λr h=>hrec (a,a2) r h) _ h) h
abbrev nR:=(ae->Int->Option Bool)
abbrev tU(R:nR):Prop:=∀(t:ae) (levels:Int),OV 6 [.agg (aj t),.int .i64 levels] (R t levels) (λr=>.bool r) []
abbrev yB:=(aa->Option Int)
abbrev Dj(R:yB):Prop:=∀(p:aa),OV 21 [.agg (ac p)] (R p) (λr=>.int .i64 r) []
noncomputable def qiE:Code:=f21.body.getD .skip
def qkd:List Nat:=[18]
theorem qjy:ZF Pg qkd 21 f21 qiE:=zf call21 func21 rfl mixed
section
variable(R9:yB)(t7:waD)(t8:Int)(n:Int)(t9:Int)
def pr:aF:=aZ 19 [(3,.int .i64 n),(7,sl ac t7),(8,.int .i64 t8),(9,.int .i64 t9)] [.dead] []
def wu(o:Int):aF:=aZ 19 [(3,.int .i64 o)] [.dead] []
instance iS_R07_Nodes_L1:KS 0 (pr t7 t8 n t9):=⟨rfl,(bE (aI vzz (aI (up (aU bv t7)) (aI vzz (aI vzz vzz))))),(aI vzz vzz)⟩
instance iO_R07_Nodes_L1{o:Int}:KS 0 (wu o):=⟨rfl,(bE (aI vzz vzz)),(aI vzz vzz)⟩
def pu:Option ((Int×Int)⊕(Int)):=
 if decide (t9<t8)=true then
  (dh t7 t9).bind λx2=>
  (R9 x2).bind λr3=>
  some (.inl (dU (n+r3),dU (t9+1)))
 else
  some (.inr n)
def Bm:Option Int:=loop (λ(zz:Int×Int)=>pu R9 t7 t8 zz.1 zz.2) (n,t9)
theorem Jv(hR9:Dj R9):OL 0 (cA qiE 119) (pu R9 t7 t8 n t9) (λ(zz:Int×Int)=>pr t7 t8 zz.1 zz.2) (λ_=>.exit 0) wu (pr t7 t8 n t9):=qjy.lx<|
 tF (tb λx2 bx2=>tb λr3 br3=>tv (eL.ia (k:=.i64) bx2)<|tv (bC x2)<|tx N7<|tx (jK x2)<|tv (kz x2 [])<|cJ (hR9 _ _ br3)<|tE)<|tE
theorem Lv(hR9:Dj R9):OJ 0 (.loop (cA qiE 119)) (Bm R9 t7 t8 n t9) (.exit 0) wu (pr t7 t8 n t9):=Ke λ_=>Jv _ _ _ _ _ hR9
end
def yo(R9:yB)(p:aa):Option Int:=
 (Bm R9 p.Kids (p.Kids.length:Int) 1 0).bind λo4=>
 some o4
theorem OE(R9:yB)(hR9:Dj R9){p:aa}:OV 21 [.agg (ac p)] (yo R9 p) (λr=>.int .i64 r) []:=qjy.v<|
 tb λo4 bo4=>te (eI p)<|tw (aK p)<|cq (eL.ln p.Kids)<|dm (Lv R9 p.Kids (p.Kids.length:Int) 1 0 hR9 _ bo4)<|tE
def yp:(aa->Option Int)->(aa)->Option Int:=λ(rec:aa->Option Int) (x:aa)=>yo (λp=>rec p) x
def oP(p:aa):Option Int:=oE yp p
theorem HJ{p:aa}:OV 21 [.agg (ac p)] (oP p) (λr=>.int .i64 r) []:=IJ λ_ h=>
 eE (F:=yp) (M:=λ(x:aa) (r:Int)=>CC Pg GE 21 [.agg (ac x)] (.int .i64 r) []) (λrec hrec x r h=>OE _ (λp=>IJ λr h=>hrec p r h) _ h) h
noncomputable def b6:Code:=Tryz.f6.body.getD .skip
def A6:List Nat:=[]
theorem Z6:ZF Pg A6 6 Tryz.f6 b6:=zf call6 func6 rfl mixed
section
variable(levels:Int)(t:ae)
def mr:Option Bool:=
 if(levels==0)=true then
  some true
 else if decide ((t.Args.length:Int)>8)=true then
  some true
 else if decide ((t.Names.length:Int)>8)=true then
  some true
 else if decide ((t.Preds.length:Int)>8)=true then
  some true
 else
  (oP t.Pred).bind λr8=>
  some (decide (r8>100))
theorem Fx:OJ 0 (cA b6 12) (mr levels t) .normal (λo=>aZ 59 [(1,.int .i64 levels),(2,.eptr (aj t)),(34,.bool o)] [.dead] []) (aZ 59 [(1,.int .i64 levels),(2,.eptr (aj t))] [.dead] []):=Z6.j<|
 tf (λc1=>tg 3 c1<|tE) λc1=>have pp3:=λ{X Y Z} (r:PV _ X Y Z)=>tg 3 c1<|tw (aX t)<|cq (dy.ln t.Args)<|r;tf (λc2=>pp3<|tg 9 c2<|tE) λc2=>have pp5:=λ{X Y Z} (r:PV _ X Y Z)=>pp3<|tg 9 c2<|tw (bN t)<|cq (kQ.ln t.Names)<|r;tf (λc4=>pp5<|tg 15 c4<|tE) λc4=>have pp7:=λ{X Y Z} (r:PV _ X Y Z)=>pp5<|tg 15 c4<|tw (bu t)<|cq (eL.ln t.Preds)<|r;tf (λc6=>pp7<|tg 21 c6<|tE) λc6=>tb λr8 br8=>pp7<|tg 21 c6<|tw (cZ t)<|cJ (HJ _ br8)<|tE
end
section
variable(levels:Int)(t:ae)(t36:waD)(t37:Int)(t38:Int)
def j6:aF:=aZ 59 [(1,.int .i64 levels),(2,.eptr (aj t)),(36,sl ac t36),(37,.int .i64 t37),(38,.int .i64 t38)] [.dead] []
def wM(o:Unit⊕(Unit)):Exit:=match o with
 |(.inl _)=>.ret
 |(.inr _)=>.exit 0
def oC(o:Unit⊕(Unit)):aF:=match o with
 |(.inl o)=>aZ 59 [(4,.bool false)] [.dead] []
 |(.inr o)=>aZ 59 [(1,.int .i64 levels),(2,.eptr (aj t))] [.dead] []
instance iS_W22_smallType_L2:KS 0 (j6 levels t t36 t37 t38):=⟨rfl,(bE (aI vzz (aI (eX (dO t)) (aI (up (aU bv t36)) (aI vzz (aI vzz vzz)))))),(aI vzz vzz)⟩
instance iO_W22_smallType_L2{o:Unit⊕(Unit)}:KS 0 (oC levels t o):=match o with
 |(.inl o)=>⟨rfl,(bE (aI vzz vzz)),(aI vzz vzz)⟩
 |(.inr o)=>⟨rfl,(bE (aI vzz (aI (eX (dO t)) trivial))),(aI vzz vzz)⟩
def wL:Option (Int⊕(Unit⊕(Unit))):=
 if decide (t38<t37)=true then
  (dh t36 t38).bind λx12=>
  (oP x12).bind λr13=>
  if decide (r13>100)=true then
   some (.inr (.inl ()))
  else
   some (.inl (dU (t38+1)))
 else
  some (.inr (.inr ()))
def rl:Option (Unit⊕(Unit)):=loop (λ(zz:Int)=>wL t36 t37 zz) t38
theorem DL:OL 0 (cA b6 119) (wL t36 t37 t38) (λ(zz:Int)=>j6 levels t t36 t37 zz) wM (oC levels t) (j6 levels t t36 t37 t38):=Z6.lx<|
 tF (tb λx12 bx12=>tb λr13 br13=>tv (eL.ia (k:=.i64) bx12)<|tv (bC x12)<|tx N7<|tx (jK x12)<|tv (kz x12 [])<|cJ (HJ _ br13)<|tF tE<|tE)<|tE
theorem uI:OK 0 (.loop (cA b6 119)) (rl t36 t37 t38) wM (oC levels t) (j6 levels t t36 t37 t38):=FA λ_=>DL _ _ _ _ _
end
section
variable(R8:nR)(levels:Int)(t47:waB)(t48:Int)(t49:Int)
def j7:aF:=aZ 59 [(1,.int .i64 levels),(47,sl aj t47),(48,.int .i64 t48),(49,.int .i64 t49)] [.dead] []
def wO(o:Unit⊕(Unit)):Exit:=match o with
 |(.inl _)=>.ret
 |(.inr _)=>.exit 2
def oD(o:Unit⊕(Unit)):aF:=match o with
 |(.inl o)=>aZ 59 [(4,.bool false)] [.dead] []
 |(.inr o)=>aZ 59 [] [.dead] []
instance iS_W22_smallType_L3:KS 0 (j7 levels t47 t48 t49):=⟨rfl,(bE (aI vzz (aI (up (aU dO t47)) (aI vzz (aI vzz vzz))))),(aI vzz vzz)⟩
instance iO_W22_smallType_L3{o:Unit⊕(Unit)}:KS 0 (oD o):=match o with
 |(.inl o)=>⟨rfl,(bE (aI vzz vzz)),(aI vzz vzz)⟩
 |(.inr o)=>⟨rfl,(bE vzz),(aI vzz vzz)⟩
def wN:Option (Int⊕(Unit⊕(Unit))):=
 if decide (t49<t48)=true then
  (dh t47 t49).bind λx17=>
  (R8 x17 (dU (levels - 1))).bind λr18=>
  if(!r18)=true then
   some (.inr (.inl ()))
  else
   some (.inl (dU (t49+1)))
 else
  some (.inr (.inr ()))
def rm:Option (Unit⊕(Unit)):=loop (λ(zz:Int)=>wN R8 levels t47 t48 zz) t49
theorem DM(hR8:tU R8):OL 0 (cA b6 247) (wN R8 levels t47 t48 t49) (λ(zz:Int)=>j7 levels t47 t48 zz) wO oD (j7 levels t47 t48 t49):=Z6.lx<|
 tF (tb λx17 bx17=>tb λr18 br18=>tv (dy.ia (k:=.i64) bx17)<|tv (cC x17)<|tx RN<|tx (pf x17)<|tv (ij x17 [])<|cJ (hR8 _ _ _ br18)<|tF tE<|tE)<|tE
theorem uJ(hR8:tU R8):OK 0 (.loop (cA b6 247)) (rm R8 levels t47 t48 t49) wO oD (j7 levels t47 t48 t49):=FA λ_=>DM _ _ _ _ _ hR8
end
def n5(R8:nR)(t:ae)(levels:Int):Option Bool:=
 (mr levels t).bind λo9=>
 if o9=true then
  some false
 else
  (rl t.Preds (t.Preds.length:Int) 0).bind λo15=>match o15 with
  |(.inl o15)=>
   some false
  | (.inr o15) =>
   (rm R8 levels t.Args (t.Args.length:Int) 0).bind λo20=>match o20 with
   |(.inl o20)=>
    some false
   |(.inr o20)=>
    some true
theorem HQ(R8:nR)(hR8:tU R8){t:ae}{levels:Int}:OV 6 [.agg (aj t),.int .i64 levels] (n5 R8 t levels) (λr=>.bool r) []:=Z6.v<|
 tb λo9 bo9=>te (fe t)<|lB 1<|dm (Fx levels t _ bo9)<|tF tE<|tw (bu t)<|cq (eL.ln t.Preds)<|t2 (λo15 bo15=>dm (uI levels t t.Preds (t.Preds.length:Int) 0 _ bo15)<|tE) λo15 bo15=>dm (uI levels t t.Preds (t.Preds.length:Int) 0 _ bo15)<|tw (aX t)<|cq (dy.ln t.Args)<|t2 (λo20 bo20=>dm (uJ R8 levels t.Args (t.Args.length:Int) 0 hR8 _ bo20)<|tE) λo20 bo20=>dm (uJ R8 levels t.Args (t.Args.length:Int) 0 hR8 _ bo20)<|tE
def tZ:((ae×Int)->Option Bool)->(ae×Int)->Option Bool:=λ(rec:(ae×Int)->Option Bool) (x:ae×Int)=>n5 (λt levels=>rec (t,levels)) x.1 x.2
def kv(t:ae)(levels:Int):Option Bool:=oE tZ (t,levels)
theorem ms{t:ae}{levels:Int}:OV 6 [.agg (aj t),.int .i64 levels] (kv t levels) (λr=>.bool r) []:=IJ λ_ h=>
 eE (F:=tZ) (M:=λ(x:ae×Int) (r:Bool)=>CC Pg GE 6 [.agg (aj x.1),.int .i64 x.2] (.bool r) []) (λrec hrec x r h=>HQ _ (λt levels=>IJ λr h=>hrec (t,levels) r h) _ h) h
abbrev yC:=(af->Option Int)
abbrev Dk(R:yC):Prop:=∀(e:af),OV 25 [.agg (ag e)] (R e) (λr=>.int .i64 r) []
noncomputable def qiQ:Code:=f62.body.getD .skip
def qkv:List Nat:=[16,25]
theorem qjD:ZF Pg qkv 62 f62 qiQ:=zf call62 func62 rfl mixed
section
variable(e:af)(out:waC)(i:Int)
def tV:aF:=aZ 26 [(1,.eptr (ag e)),(3,sl ag out),(4,.int .i64 i)] [.dead] [((3,0),36)]
def Cx(o:waC):aF:=aZ 26 [(3,sl ag o)] [.dead] [((3,0),36)]
def fU:Option ((waC×Int)⊕(waC)):=
 if decide (i<(e.Alts.length:Int))=true then
  (dh e.Alts i).bind λx3=>
  (app out ([x3.Body]:List af)).bind λl4=>
  some (.inl (l4,dU (i+1)))
 else
  some (.inr out)
def nk:Option waC:=loop (λ(zz:waC×Int)=>fU e zz.1 zz.2) (out,i)
theorem HM:OL 0 (cA qiQ 119) (fU e out i) (λ(zz:waC×Int)=>tV e zz.1 zz.2) (λ_=>.exit 0) Cx (tV e out i):=qjD.l<|
 tw (av e)<|cq (fJ.ln e.Alts)<|tF (tb λx3 bx3=>tb λl4 bl4=>tw (av e)<|tv (fJ.ia (k:=.i64) bx3)<|tw (oF x3)<|tv (fj.mk' (v:=qQ) kD ([x3.Body]:List af) 1 (by kernel_rfl))<|tv (fj.ap bl4)<|tE)<|tE
theorem Jx:OJ 0 (.loop (cA qiQ 119)) (nk e out i) (.exit 0) Cx (tV e out i):=Ke λ_=>HM _ _ _
end
def rj(e:af):Option waC:=
 (app ([]:List af) e.Kids).bind λl1=>
 (nk e l1 0).bind λo5=>
 some o5
theorem OH{e:af}:OV 62 [.agg (ag e)] (rj e) (λr=>sl ag r) [(0,36)]:=qjD.v<|
 tb λl1 bl1=>tb λo5 bo5=>te (dq e)<|tv (fj.mk' (v:=qQ) kD ([]:List af) 0 (by kernel_rfl))<|tw (az e)<|tv (fj.ap bl1)<|dm (Jx e l1 0 _ bo5)<|tE
noncomputable def qiM:Code:=f25.body.getD .skip
def qkg:List Nat:=[21]
theorem qjz:ZF Pg qkg 25 f25 qiM:=zf call25 func25 rfl mixed
section
variable(R11:yC)(v:waC)(n:Int)(i:Int)
def wx:aF:=aZ 22 [(3,.int .i64 n),(4,sl ag v),(5,.int .i64 i)] [.dead] [((4,0),36)]
def DD(o:Int):aF:=aZ 22 [(3,.int .i64 o)] [.dead] []
def gv:Option ((Int×Int)⊕(Int)):=
 if decide (i<(v.length:Int))=true then
  (dh v i).bind λx3=>
  (R11 x3).bind λr4=>
  some (.inl (dU (n+r4),dU (i+1)))
 else
  some (.inr n)
def vq:Option Int:=loop (λ(zz:Int×Int)=>gv R11 v zz.1 zz.2) (n,i)
theorem Jw(hR11:Dk R11):OL 0 (cA qiM 247) (gv R11 v n i) (λ(zz:Int×Int)=>wx v zz.1 zz.2) (λ_=>.exit 0) DD (wx v n i):=qjz.l<|
 cq (fj.ln v)<|tF (tb λx3 bx3=>tb λr4 br4=>tv (fj.ia (k:=.i64) bx3)<|tv (bh x3)<|cJ (hR11 _ _ br4)<|tE)<|tE
theorem Lx(hR11:Dk R11):OJ 0 (.loop (cA qiM 247)) (vq R11 v n i) (.exit 0) DD (wx v n i):=Ke λ_=>Jw _ _ _ _ hR11
end
def yz(R11:yC)(e:af):Option Int:=
 (rj e).bind λr1=>
 (vq R11 r1 1 0).bind λo5=>
 some o5
theorem OF(R11:yC)(hR11:Dk R11){e:af}:OV 25 [.agg (ag e)] (yz R11 e) (λr=>.int .i64 r) []:=qjz.v<|
 tb λr1 br1=>tb λo5 bo5=>te (dq e)<|tv (bh e)<|cJ (OH _ br1)<|dm (Lx R11 r1 1 0 hR11 _ bo5)<|tE
def DC:(af->Option Int)->(af)->Option Int:=λ(rec:af->Option Int) (x:af)=>yz (λe=>rec e) x
def EM(e:af):Option Int:=oE DC e
theorem QB{e:af}:OV 25 [.agg (ag e)] (EM e) (λr=>.int .i64 r) []:=IJ λ_ h=>
 eE (F:=DC) (M:=λ(x:af) (r:Int)=>CC Pg GE 25 [.agg (ag x)] (.int .i64 r) []) (λrec hrec x r h=>OF _ (λe=>IJ λr h=>hrec e r h) _ h) h
abbrev jB:=(af->Option Bool)
abbrev jv(R:jB):Prop:=∀(e:af),OV 26 [.agg (ag e)] (R e) (λr=>.bool r) []
noncomputable def qa0:Code:=f26.body.getD .skip
def qkh:List Nat:=[]
theorem qeJ:ZF Pg qkh 26 f26 qa0:=zf call26 func26 rfl mixed
section
variable(e:af)
def lc:Option Bool:=
 if decide ((e.Types.length:Int)>8)=true then
  some true
 else
  some (decide ((e.Params.length:Int)>8))
theorem DN:OJ 0 (cA qa0 12) (lc e) .normal (λo=>aZ 67 [(1,.eptr (ag e)),(20,.bool o)] [.dead] []) (aZ 67 [(1,.eptr (ag e))] [.dead] []):=qeJ.j<|
 have pp2:=λ{X Y Z} (r:PV _ X Y Z)=>tw (aw e)<|cq (dy.ln e.Types)<|r;tf (λc1=>pp2<|tg 5 c1<|tE) λc1=>pp2<|tg 5 c1<|tw (aL e)<|cq (pl.ln e.Params)<|tE
end
section
variable(e:af)(t22:waB)(t23:Int)(t24:Int)
def ja:aF:=aZ 67 [(1,.eptr (ag e)),(22,sl aj t22),(23,.int .i64 t23),(24,.int .i64 t24)] [.dead] []
def uL(o:Unit⊕(Unit)):Exit:=match o with
 |(.inl _)=>.ret
 |(.inr _)=>.exit 0
def mP(o:Unit⊕(Unit)):aF:=match o with
 |(.inl o)=>aZ 67 [(2,.bool false)] [.dead] []
 |(.inr o)=>aZ 67 [(1,.eptr (ag e))] [.dead] []
instance iS_W22_smallTypes_L2:KS 0 (ja e t22 t23 t24):=⟨rfl,(bE (aI (eX (dN e)) (aI (up (aU dO t22)) (aI vzz (aI vzz vzz))))),(aI vzz vzz)⟩
instance iO_W22_smallTypes_L2{o:Unit⊕(Unit)}:KS 0 (mP e o):=match o with
 |(.inl o)=>⟨rfl,(bE (aI vzz vzz)),(aI vzz vzz)⟩
 |(.inr o)=>⟨rfl,(bE (aI (eX (dN e)) trivial)),(aI vzz vzz)⟩
def uK:Option (Int⊕(Unit⊕(Unit))):=
 if decide (t24<t23)=true then
  (dh t22 t24).bind λx6=>
  (kv x6 4).bind λr7=>
  if(!r7)=true then
   some (.inr (.inl ()))
  else
   some (.inl (dU (t24+1)))
 else
  some (.inr (.inr ()))
def pG:Option (Unit⊕(Unit)):=loop (λ(zz:Int)=>uK t22 t23 zz) t24
theorem C1:OL 0 (cA qa0 119) (uK t22 t23 t24) (λ(zz:Int)=>ja e t22 t23 zz) uL (mP e) (ja e t22 t23 t24):=qeJ.lx<|
 tF (tb λx6 bx6=>tb λr7 br7=>tv (dy.ia (k:=.i64) bx6)<|tv (cC x6)<|tx RN<|tx (pf x6)<|tv (ij x6 [])<|cJ (ms _ br7)<|tF tE<|tE)<|tE
theorem sV:OK 0 (.loop (cA qa0 119)) (pG t22 t23 t24) uL (mP e) (ja e t22 t23 t24):=FA λ_=>C1 _ _ _ _
end
section
variable(e:af)(t33:(List cc))(t34:Int)(t35:Int)
def jb:aF:=aZ 67 [(1,.eptr (ag e)),(33,sl bj t33),(34,.int .i64 t34),(35,.int .i64 t35)] [.dead] []
def uN(o:Unit⊕(Unit)):Exit:=match o with
 |(.inl _)=>.ret
 |(.inr _)=>.exit 2
def mQ(o:Unit⊕(Unit)):aF:=match o with
 |(.inl o)=>aZ 67 [(2,.bool false)] [.dead] []
 |(.inr o)=>aZ 67 [(1,.eptr (ag e))] [.dead] []
instance iS_W22_smallTypes_L3:KS 0 (jb e t33 t34 t35):=⟨rfl,(bE (aI (eX (dN e)) (aI (up (aU rt t33)) (aI vzz (aI vzz vzz))))),(aI vzz vzz)⟩
instance iO_W22_smallTypes_L3{o:Unit⊕(Unit)}:KS 0 (mQ e o):=match o with
 |(.inl o)=>⟨rfl,(bE (aI vzz vzz)),(aI vzz vzz)⟩
 |(.inr o)=>⟨rfl,(bE (aI (eX (dN e)) trivial)),(aI vzz vzz)⟩
def uM:Option (Int⊕(Unit⊕(Unit))):=
 if decide (t35<t34)=true then
  (dh t33 t35).bind λx11=>
  (kv x11.Type_ 4).bind λr12=>
  if(!r12)=true then
   some (.inr (.inl ()))
  else
   some (.inl (dU (t35+1)))
 else
  some (.inr (.inr ()))
def pH:Option (Unit⊕(Unit)):=loop (λ(zz:Int)=>uM t33 t34 zz) t35
theorem C2:OL 0 (cA qa0 247) (uM t33 t34 t35) (λ(zz:Int)=>jb e t33 t34 zz) uN (mQ e) (jb e t33 t34 t35):=qeJ.lx<|
 tF (tb λx11 bx11=>tb λr12 br12=>tv (pl.ia (k:=.i64) bx11)<|tv (JS x11)<|tx qar<|tx (G3 x11)<|tv (ij x11.Type_ [])<|cJ (ms _ br12)<|tF tE<|tE)<|tE
theorem sW:OK 0 (.loop (cA qa0 247)) (pH t33 t34 t35) uN (mQ e) (jb e t33 t34 t35):=FA λ_=>C2 _ _ _ _
end
section
variable(R13:jB)(e:af)(t45:waC)(t46:Int)(t47:Int)
def jc:aF:=aZ 67 [(1,.eptr (ag e)),(45,sl ag t45),(46,.int .i64 t46),(47,.int .i64 t47)] [.dead] []
def uP(o:Unit⊕(Unit)):Exit:=match o with
 |(.inl _)=>.ret
 |(.inr _)=>.exit 4
def mR(o:Unit⊕(Unit)):aF:=match o with
 |(.inl o)=>aZ 67 [(2,.bool false)] [.dead] []
 |(.inr o)=>aZ 67 [(1,.eptr (ag e))] [.dead] []
instance iS_W22_smallTypes_L4:KS 0 (jc e t45 t46 t47):=⟨rfl,(bE (aI (eX (dN e)) (aI (up (aU dN t45)) (aI vzz (aI vzz vzz))))),(aI vzz vzz)⟩
instance iO_W22_smallTypes_L4{o:Unit⊕(Unit)}:KS 0 (mR e o):=match o with
 |(.inl o)=>⟨rfl,(bE (aI vzz vzz)),(aI vzz vzz)⟩
 |(.inr o)=>⟨rfl,(bE (aI (eX (dN e)) trivial)),(aI vzz vzz)⟩
def uO:Option (Int⊕(Unit⊕(Unit))):=
 if decide (t47<t46)=true then
  (dh t45 t47).bind λx16=>
  (R13 x16).bind λr17=>
  if(!r17)=true then
   some (.inr (.inl ()))
  else
   some (.inl (dU (t47+1)))
 else
  some (.inr (.inr ()))
def pI:Option (Unit⊕(Unit)):=loop (λ(zz:Int)=>uO R13 t45 t46 zz) t47
theorem C3(hR13:jv R13):OL 0 (cA qa0 503) (uO R13 t45 t46 t47) (λ(zz:Int)=>jc e t45 t46 zz) uP (mR e) (jc e t45 t46 t47):=qeJ.lx<|
 tF (tb λx16 bx16=>tb λr17 br17=>tv (fj.ia (k:=.i64) bx16)<|tv (bh x16)<|tx RO<|tx (Ay x16)<|tv (jG x16 [])<|cJ (hR13 _ _ br17)<|tF tE<|tE)<|tE
theorem sX(hR13:jv R13):OK 0 (.loop (cA qa0 503)) (pI R13 t45 t46 t47) uP (mR e) (jc e t45 t46 t47):=FA λ_=>C3 _ _ _ _ _ hR13
end
section
variable(R13:jB)(t56:waE)(t57:Int)(t58:Int)
def jd:aF:=aZ 67 [(56,sl bw t56),(57,.int .i64 t57),(58,.int .i64 t58)] [.dead] []
def uR(o:Unit⊕(Unit)):Exit:=match o with
 |(.inl _)=>.ret
 |(.inr _)=>.exit 6
def mS(o:Unit⊕(Unit)):aF:=match o with
 |(.inl o)=>aZ 67 [(2,.bool false)] [.dead] []
 |(.inr o)=>aZ 67 [] [.dead] []
instance iS_W22_smallTypes_L5:KS 0 (jd t56 t57 t58):=⟨rfl,(bE (aI (up (aU n7 t56)) (aI vzz (aI vzz vzz)))),(aI vzz vzz)⟩
instance iO_W22_smallTypes_L5{o:Unit⊕(Unit)}:KS 0 (mS o):=match o with
 |(.inl o)=>⟨rfl,(bE (aI vzz vzz)),(aI vzz vzz)⟩
 |(.inr o)=>⟨rfl,(bE vzz),(aI vzz vzz)⟩
def uQ:Option (Int⊕(Unit⊕(Unit))):=
 if decide (t58<t57)=true then
  (dh t56 t58).bind λx21=>
  (R13 x21.Body).bind λr22=>
  if(!r22)=true then
   some (.inr (.inl ()))
  else
   some (.inl (dU (t58+1)))
 else
  some (.inr (.inr ()))
def pJ:Option (Unit⊕(Unit)):=loop (λ(zz:Int)=>uQ R13 t56 t57 zz) t58
theorem C4(hR13:jv R13):OL 0 (cA qa0 1015) (uQ R13 t56 t57 t58) (λ(zz:Int)=>jd t56 t57 zz) uR mS (jd t56 t57 t58):=qeJ.lx<|
 tF (tb λx21 bx21=>tb λr22 br22=>tv (fJ.ia (k:=.i64) bx21)<|tv (y0 x21)<|tx N6<|tx (xg x21)<|tv (jG x21.Body [])<|cJ (hR13 _ _ br22)<|tF tE<|tE)<|tE
theorem sY(hR13:jv R13):OK 0 (.loop (cA qa0 1015)) (pJ R13 t56 t57 t58) uR mS (jd t56 t57 t58):=FA λ_=>C4 _ _ _ _ hR13
end
def mt(R13:jB)(e:af):Option Bool:=
 (lc e).bind λo3=>
 if o3=true then
  some false
 else
  (pG e.Types (e.Types.length:Int) 0).bind λo9=>match o9 with
  |(.inl o9)=>
   some false
  | (.inr o9) =>
   (pH e.Params (e.Params.length:Int) 0).bind λo14=>match o14 with
   |(.inl o14)=>
    some false
   | (.inr o14) =>
    (pI R13 e.Kids (e.Kids.length:Int) 0).bind λo19=>match o19 with
    |(.inl o19)=>
     some false
    | (.inr o19) =>
     (pJ R13 e.Alts (e.Alts.length:Int) 0).bind λo24=>match o24 with
     |(.inl o24)=>
      some false
     |(.inr o24)=>
      some true
theorem GD(R13:jB)(hR13:jv R13){e:af}:OV 26 [.agg (ag e)] (mt R13 e) (λr=>.bool r) []:=qeJ.v<|
 tb λo3 bo3=>te (dq e)<|lB 1<|dm (DN e _ bo3)<|tF tE<|tw (aw e)<|cq (dy.ln e.Types)<|t2 (λo9 bo9=>dm (sV e e.Types (e.Types.length:Int) 0 _ bo9)<|tE) λo9 bo9=>dm (sV e e.Types (e.Types.length:Int) 0 _ bo9)<|tw (aL e)<|cq (pl.ln e.Params)<|t2 (λo14 bo14=>dm (sW e e.Params (e.Params.length:Int) 0 _ bo14)<|tE) λo14 bo14=>dm (sW e e.Params (e.Params.length:Int) 0 _ bo14)<|tw (az e)<|cq (fj.ln e.Kids)<|t2 (λo19 bo19=>dm (sX R13 e e.Kids (e.Kids.length:Int) 0 hR13 _ bo19)<|tE) λo19 bo19=>dm (sX R13 e e.Kids (e.Kids.length:Int) 0 hR13 _ bo19)<|tw (av e)<|cq (fJ.ln e.Alts)<|t2 (λo24 bo24=>dm (sY R13 e.Alts (e.Alts.length:Int) 0 hR13 _ bo24)<|tE) λo24 bo24=>dm (sY R13 e.Alts (e.Alts.length:Int) 0 hR13 _ bo24)<|tE
def rn:(af->Option Bool)->(af)->Option Bool:=λ(rec:af->Option Bool) (x:af)=>mt (λe=>rec e) x
def wP(e:af):Option Bool:=oE rn e
theorem HR{e:af}:OV 26 [.agg (ag e)] (wP e) (λr=>.bool r) []:=IJ λ_ h=>
 eE (F:=rn) (M:=λ(x:af) (r:Bool)=>CC Pg GE 26 [.agg (ag x)] (.bool r) []) (λrec hrec x r h=>GD _ (λe=>IJ λr h=>hrec e r h) _ h) h
noncomputable def b9:Code:=Tryz.f9.body.getD .skip
def A9:List Nat:=[]
theorem Z9:ZF Pg A9 9 Tryz.f9 b9:=zf call9 func9 rfl mixed
def Ae(e:af):Option Bool:=
 (EM e).bind λr1=>
 if decide (r1<=200)=true then
  (wP e).bind λr4=>
  some r4
 else
  some false
theorem HS{e:af}:OV 9 [.agg (ag e)] (Ae e) (λr=>.bool r) []:=Z9.v<|
 tb λr1 br1=>te (dq e)<|have pp3:=λ{X Y Z} (r:PV _ X Y Z)=>tv (bh e)<|cJ (QB _ br1)<|r;tf (λc2=>tb λr4 br4=>pp3<|tg 4 c2<|tv (bh e)<|cJ (HR _ br4)<|tE) λc2=>pp3<|tg 4 c2<|tE
noncomputable def qli:Code:=f30.body.getD .skip
def qkk:List Nat:=[]
theorem qkX:ZF Pg qkk 30 f30 qli:=zf call30 func30 rfl mixed
def DO(s:ah):Option af:=
 some (⟨3,s,0,([]:List af),([]:List cc),([]:List cf),([]:List ae)⟩:af)
theorem np{s:ah}:OV 30 [.str s] (DO s) (λr=>.agg (ag r)) [(3,36),(4,114),(5,116),(6,30)]:=qkX.va<|
 tx RO<|Oq (QP 3 s) (QJ 3 s)<|ty (bR (⟨3,s,0,([]:List af),([]:List cc),([]:List cf),([]:List ae)⟩:af))<|Jn λq=>aI (Kt (⟨3,s,0,([]:List af),([]:List cc),([]:List cf),([]:List ae)⟩:af)) q.2
noncomputable def qlj:Code:=f31.body.getD .skip
def qkl:List Nat:=[]
theorem qkY:ZF Pg qkl 31 f31 qlj:=zf call31 func31 rfl mixed
def Vo(k:Int):Option af:=
 some (⟨1,([]:ah),k,([]:List af),([]:List cc),([]:List cf),([]:List ae)⟩:af)
theorem MK{k:Int}:OV 31 [.int .i64 k] (Vo k) (λr=>.agg (ag r)) [(3,36),(4,114),(5,116),(6,30)]:=qkY.va<|
 tx RO<|Oq (QQ 1 k) (QK 1 k)<|ty (bR (⟨1,([]:ah),k,([]:List af),([]:List cc),([]:List cf),([]:List ae)⟩:af))<|Jn λq=>aI (Kt (⟨1,([]:ah),k,([]:List af),([]:List cc),([]:List cf),([]:List ae)⟩:af)) q.2
noncomputable def qlh:Code:=f29.body.getD .skip
def qkj:List Nat:=[]
theorem qkW:ZF Pg qkj 29 f29 qlh:=zf call29 func29 rfl mixed
def Bx(a:Int)(a2:waC):Option af:=
 some (⟨a,([]:ah),0,a2,([]:List cc),([]:List cf),([]:List ae)⟩:af)
theorem oU{a:Int}{a2:waC}:OV 29 [.int .i64 a,sl ag a2] (Bx a a2) (λr=>.agg (ag r)) [(4,114),(5,116),(6,30)]:=qkW.va<|
 tx RO<|Oq (QR a a2) (QL a a2)<|ty (bR (⟨a,([]:ah),0,a2,([]:List cc),([]:List cf),([]:List ae)⟩:af))<|Jn λq=>aI (Kt (⟨a,([]:ah),0,a2,([]:List cc),([]:List cf),([]:List ae)⟩:af)) q.2
noncomputable def qlo:Code:=f72.body.getD .skip
def qkB:List Nat:=[12]
theorem qk3:ZF Pg qkB 72 f72 qlo:=zf call72 func72 rfl mixed
def eB(s:ah)(k0:(List Int))(k02:Bool):Option (Int×Unit×(List Int)):=
 (GH k0 k02).bind λr1=>
 (YG k0 s).bind λl2=>
 some ((s.length:Int),(),l2)
theorem rK{s:ah}{k0:(List Int)}{k02:Bool}:OG 72 [.bptr 0 0,.str s] [] [.cells [.nptr 0 76,sl (cI .u8) k0,.bool k02] [(1,5)]] (eB s k0 k02) (λr=>.tuple [.int .i64 r.1,.val .nilIface]) [] (λr=>[.cells [.nptr 0 76,sl (cI .u8) r.2.2,.bool k02] [(1,5)]]):=qk3.g 1<|
 tb λr1 br1=>tb λl2 bl2=>tc [0] (OQ br1)<|ti (.z [sl (cI .u8) l2]) (qbg qf5 underlying9 (by kernel_rfl) (by kernel_rfl) (by kernel_rfl) bl2)<|cq (Jd underlying9 s)<|tE
noncomputable def qiN:Code:=f33.body.getD .skip
def qkm:List Nat:=[]
theorem qjA:ZF Pg qkm 33 f33 qiN:=zf call33 func33 rfl mixed
section
variable(t6:waA)(t7:Int)(m2:Bool)(t8:Int)(m:(List Int))
def kN:aF:=aZ 18 [(0,.bptr 0 0),(6,sl cS t6),(7,.int .i64 t7),(8,.int .i64 t8)] [.cells [.nptr 0 76,sl (cI .u8) m,.bool m2] [(1,5)]] []
def q8(o:(List Int)):aF:=aZ 18 [] [.cells [.nptr 0 76,sl (cI .u8) o,.bool m2] [(1,5)]] []
def fh:Option ((Int×(List Int))⊕(((List Int)))):=
 if decide (t8<t7)=true then
  (dh t6 t8).bind λx2=>
  (eB x2 m m2).bind λr3=>
  some (.inl (dU (t8+1),r3.2.2))
 else
  some (.inr m)
def nd:Option (((List Int))):=loop (λ(zz:Int×(List Int))=>fh t6 t7 m2 zz.1 zz.2) (t8,m)
theorem AM:OL 1 (cA qiN 15) (fh t6 t7 m2 t8 m) (λ(zz:Int×(List Int))=>kN t6 t7 m2 zz.1 zz.2) (λ_=>.exit 0) (q8 m2) (kN t6 t7 m2 t8 m):=qjA.l<|
 tF (tb λx2 bx2=>tb λr3 br3=>tv (kQ.ia (k:=.i64) bx2)<|tv (kb qct (.str x2) [])<|tc [0] (rK _ br3)<|tE)<|tE
theorem B9:OJ 1 (.loop (cA qiN 15)) (nd t6 t7 m2 t8 m) (.exit 0) (q8 m2) (kN t6 t7 m2 t8 m):=Ke λ_=>AM _ _ _ _ _
end
def ak(a:waA)(k0:(List Int))(k02:Bool):Option ((List Int)):=
 (nd a (a.length:Int) k02 0 k0).bind λo4=>
 some o4
theorem ai{a:waA}{k0:(List Int)}{k02:Bool}:OG 33 [.bptr 0 0,sl cS a] [] [.cells [.nptr 0 76,sl (cI .u8) k0,.bool k02] [(1,5)]] (ak a k0 k02) (λr=>.tuple []) [] (λr=>[.cells [.nptr 0 76,sl (cI .u8) r,.bool k02] [(1,5)]]):=qjA.g 1<|
 tb λo4 bo4=>cq (kQ.ln a)<|dm (B9 a (a.length:Int) k02 0 k0 _ bo4)<|tE
def EB(a:af)(a2:af):Option Bool:=none
theorem EC{a:af}{a2:af}:OV 80 [.agg (ag a),.agg (ag a2)] (EB a a2) (λr=>.bool r) []:=IJ λr h=>by cases(show(none:Option _)=some r from h)
noncomputable def qdH:Code:=f177.body.getD .skip
def qgY:List Nat:=[23]
theorem qe3:ZF Pg qgY 177 f177 qdH:=zf call177 func177 rfl mixed
section
variable(s:ah)(i:Int)
def xb:aF:=aZ 24 [(0,.str s),(5,.int .i64 i)] [] []
def Ea(o:(ah×ah)⊕(Unit)):Exit:=match o with
 |(.inl _)=>.ret
 |(.inr _)=>.exit 0
def Eb(o:(ah×ah)⊕(Unit)):aF:=match o with
 |(.inl o)=>aZ 24 [(2,.str o.1),(3,.str o.2),(4,.bool true)] [] []
 |(.inr o)=>aZ 24 [(0,.str s)] [] []
def lR:Option (Int⊕((ah×ah)⊕(Unit))):=
 if decide (i<(s.length:Int))=true then
  (jF s i).bind λc2=>
  if(c2==46)=true then
   (Sa s none (some i)).bind λs4=>
   (Sa s (some (dU (i+1))) none).bind λs5=>
   some (.inr (.inl (s4,s5)))
  else
   some (.inl (dU (i+1)))
 else
  some (.inr (.inr ()))
def BF:Option ((ah×ah)⊕(Unit)):=loop (λ(zz:Int)=>lR s zz) i
theorem J2:OL 0 (cA qdH 55) (lR s i) (λ(zz:Int)=>xb s zz) Ea (Eb s) (xb s i):=qe3.l<|
 cq (Jd underlying9 s)<|tF (tb λc2 bc2=>tv (tL (k:=.i64) underlying9 bc2)<|tF (tb λs4 bs4=>tb λs5 bs5=>Sq [0,0,3,0,0,16,56,7,255,511]<|tv (qdo underlying9 bs4)<|tv (qdo underlying9 bs5)<|tE)<|tE)<|tE
theorem CD:OK 0 (.loop (cA qdH 55)) (BF s i) Ea (Eb s) (xb s i):=FA λ_=>J2 _ _
end
def Au(s:ah):Option (ah×ah×Bool):=
 (BF s 0).bind λo6=>match o6 with
 |(.inl o6)=>
  some (o6.1,o6.2,true)
 |(.inr o6)=>
  some (s,([]:ah),false)
theorem Ix{s:ah}:OV 177 [.str s] (Au s) (λr=>.tuple [.str r.1,.str r.2.1,.bool r.2.2]) []:=qe3.v<|
 t2 (λo6 bo6=>dm (CD s 0 _ bo6)<|tE) λo6 bo6=>dm (CD s 0 _ bo6)<|tE
noncomputable def qix:Code:=f180.body.getD .skip
def qg1:List Nat:=[]
theorem qhV:ZF Pg qg1 180 f180 qix:=zf call180 func180 rfl mixed
def pb(s:ah):Option Bool:=
 if decide ((s.length:Int)>=1)=true then
  some (decide ((s.length:Int)<=24))
 else
  some false
theorem jI{s:ah}:OV 180 [.str s] (pb s) (λr=>.bool r) []:=qhV.v<|
 tf (λc1=>cq (Jd underlying9 s)<|tg 4 c1<|cq (Jd underlying9 s)<|tE) λc1=>cq (Jd underlying9 s)<|tg 4 c1<|tE
noncomputable def qiI:Code:=f222.body.getD .skip
def qhi:List Nat:=[]
theorem qh6:ZF Pg qhi 222 f222 qiI:=zf call222 func222 rfl mixed
def lS(c:Int):Option Bool:=
 if decide (97<=c)=true then
  some (decide (c<=122))
 else
  some false
theorem p8{c:Int}:OV 222 [.int .u8 c] (lS c) (λr=>.bool r) []:=qh6.v<|
 tf (λc1=>tg 3 c1<|tE) λc1=>tg 3 c1<|tE
noncomputable def qdN:Code:=f223.body.getD .skip
def qhj:List Nat:=[]
theorem qfa:ZF Pg qhj 223 f223 qdN:=zf call223 func223 rfl mixed
section
variable(s:ah)(t6:Int)
def oH:aF:=aZ 13 [(0,.str s),(5,.agg (dj.map PVal.str)),(6,.int .i64 t6)] [] []
def w9(o:Unit⊕(Unit)):Exit:=match o with
 |(.inl _)=>.ret
 |(.inr _)=>.exit 0
def xa(o:Unit⊕(Unit)):aF:=match o with
 |(.inl o)=>aZ 13 [(2,.bool true)] [] []
 |(.inr o)=>aZ 13 [] [] []
def gE:Option (Int⊕(Unit⊕(Unit))):=
 if decide (t6<42)=true then
  (dh dj t6).bind λx2=>
  if(x2==s)=true then
   some (.inr (.inl ()))
  else
   some (.inl (dU (t6+1)))
 else
  some (.inr (.inr ()))
def ry:Option (Unit⊕(Unit)):=loop (λ(zz:Int)=>gE s zz) t6
theorem D9:OL 0 (cA qdN 55) (gE s t6) (λ(zz:Int)=>oH s zz) w9 xa (oH s t6):=qfa.l<|
 tF (tb λx2 bx2=>tv (Iy (k:=.i64) bx2)<|tF tE<|tE)<|tE
theorem uW:OK 0 (.loop (cA qdN 55)) (ry s t6) w9 xa (oH s t6):=FA λ_=>D9 _ _
end
def sn(s:ah):Option Bool:=
 (ry s 0).bind λo4=>match o4 with
 |(.inl o4)=>
  some true
 |(.inr o4)=>
  some false
theorem J1{s:ah}:OV 223 [.str s] (sn s) (λr=>.bool r) []:=qfa.v<|
 tv Iz<|t2 (λo4 bo4=>dm (uW s 0 _ bo4)<|tE) λo4 bo4=>dm (uW s 0 _ bo4)<|tE
noncomputable def qiJ:Code:=f224.body.getD .skip
def qhk:List Nat:=[]
theorem qh7:ZF Pg qhk 224 f224 qiJ:=zf call224 func224 rfl mixed
def o0(c:Int):Option Bool:=
 if decide (48<=c)=true then
  some (decide (c<=57))
 else
  some false
theorem xd{c:Int}:OV 224 [.int .u8 c] (o0 c) (λr=>.bool r) []:=qh7.v<|
 tf (λc1=>tg 3 c1<|tE) λc1=>tg 3 c1<|tE
end Go.Proofs.YtibglelmlnfojaaGreatDoor
