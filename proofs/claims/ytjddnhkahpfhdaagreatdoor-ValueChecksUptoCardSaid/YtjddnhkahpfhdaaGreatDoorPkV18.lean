/- PROVED: a part of the proof. Conditions: none. -/
import Derived.Test.YtjddnhkahpfhdaaGreatDoorPkV17
import Derived.Test.YtjddnhkahpfhdaaGreatDoorPkV13
import Derived.Test.YtjddnhkahpfhdaaGreatDoorPkV9
set_option linter.unusedSimpArgs false
set_option linter.unusedVariables false
noncomputable section
namespace Go.Proofs.YtjddnhkahpfhdaaGreatDoor
open Go Go.Proofs.Tryz
set_option linter.unusedVariables false
set_option linter.defProp false
set_option maxRecDepth 100000
noncomputable def Um:Code:=f43.body.getD .skip
theorem UL:ZF Pg [32] 43 f43 Um:=zf call43 func43 rfl mixed
section
variable(v:ae)(v2:ae)
def tZ:Option Bool:=
 if(v.Op !=v2.Op)=true then
  some true
 else if(!(v.Name==v2.Name))=true then
  some true
 else
  some ((v.Args.length:Int)!=(v2.Args.length:Int))
theorem DL:OU 0 (cA Um 12) (tZ v v2) .normal (λo=>[(26,.bool o)]) (bO 46 [(2,.eptr (af v)),(3,.eptr (af v2))] [.dead,.dead] []):=UL.j<|
 have pp2:=λ{X Y Z} (r:PV _ X Y Z)=>tw (bW v)<|tw (bW v2)<|r;tf (λc1=>pp2<|tg 6 c1<|tE) λc1=>have pp4:=λ{X Y Z} (r:PV _ X Y Z)=>pp2<|tg 6 c1<|tw (bM v)<|tw (bM v2)<|r;tf (λc3=>pp4<|tg 13 c3<|tE) λc3=>pp4<|tg 13 c3<|tw (aL v)<|ck (dl.ln v.Args)<|tw (aL v2)<|ck (dl.ln v2.Args)<|tE
end
section
variable(R64:rK)(v:ae)(v2:ae)(t29:Int)(t30:Int)
def qc:az:=bO 46 [(2,.eptr (af v)),(3,.eptr (af v2)),(29,.int .i64 t29),(30,.int .i64 t30)] [.dead,.dead] []
def wM(o:Unit⊕(Unit)):Exit:=match o with
 |(.inl _)=>.ret
 |(.inr _)=>.exit 0
def wN(o:Unit⊕(Unit)):az:=match o with
 |(.inl o)=>bO 46 [(4,.bool false)] [.dead,.dead] []
 |(.inr o)=>bO 46 [] [.dead,.dead] []
def lp:Option (Int⊕(Unit⊕(Unit))):=
 if decide (t30<t29)=true then
  (cH v.Args t30).bind λx8=>
  (cH v2.Args t30).bind λx9=>
  (R64 x8 x9).bind λr10=>
  if(!r10)=true then
   some (.inr (.inl ()))
  else
   some (.inl (bw (t30+1)))
 else
  some (.inr (.inr ()))
def ua:Option (Unit⊕(Unit)):=loop (λ(zz:Int)=>lp R64 v v2 t29 zz) t30
theorem CE(hR64:xK R64):OL 0 (cA Um 119) (lp R64 v v2 t29 t30) (λ(zz:Int)=>qc v v2 t29 zz) wM wN (qc v v2 t29 t30):=UL.l<|
 tF (tb λx8 bx8=>tb λx9 bx9=>tb λr10 br10=>oY [0,1,0,7,15,0,32,0,224,480,1023,2047]<|tw (aL v)<|tv (dl.ia (k:=.i64) bx8)<|tv (cw x8)<|tw (aL v2)<|tv (dl.ia (k:=.i64) bx9)<|tv (cw x9)<|bP (hR64 _ _ _ br10)<|tF tE<|tE)<|tE
theorem ub(hR64:xK R64):OK 0 (.loop (cA Um 119)) (ua R64 v v2 t29 t30) wM wN (qc v v2 t29 t30):=DF λ_=>CE _ _ _ _ _ hR64
end
def ry(R64:rK)(a:ae)(a2:ae):Option Bool:=
 (tZ a a2).bind λo5=>
 if o5=true then
  some false
 else
  (ua R64 a a2 (a.Args.length:Int) 0).bind λo12=>match o12 with
  |(.inl o12)=>
   some false
  |(.inr o12)=>
   some true
theorem HV(R64:rK)(hR64:xK R64){a:ae}{a2:ae}:OV 43 [.agg (af a),.agg (af a2)] (ry R64 a a2) (λr=>.bool r) []:=UL.v<|
 tb λo5 bo5=>te (eZ a)<|te (eZ a2)<|qT 1<|dn (DL a a2 _ bo5)<|tF tE<|tw (aL a)<|ck (dl.ln a.Args)<|t2 (λo12 bo12=>dn (ub R64 a a2 (a.Args.length:Int) 0 hR64 _ bo12)<|tE) λo12 bo12=>dn (ub R64 a a2 (a.Args.length:Int) 0 hR64 _ bo12)<|tE
def xN:((ae×ae)->Option Bool)->(ae×ae)->Option Bool:=λ(rec:(ae×ae)->Option Bool) (x:ae×ae)=>ry (λa a2=>rec (a,a2)) x.1 x.2
def y0(a:ae)(a2:ae):Option Bool:=kT xN (a,a2)
theorem BU{a:ae}{a2:ae}:OV 43 [.agg (af a),.agg (af a2)] (y0 a a2) (λr=>.bool r) []:=mP λ_ h=>
 ct (F:=xN) (M:=λ(x:ae×ae) (r:Bool)=>CC Pg GE 43 [.agg (af x.1),.agg (af x.2)] (.bool r) []) (λrec hrec x r h=>HV _ (λa a2=>mP λr h=>hrec (a,a2) r h) _ h) h
noncomputable def S8:Code:=f14.body.getD .skip
theorem Ug:ZF Pg [98] 14 f14 S8:=zf call14 func14 rfl mixed
section
variable(m:al)(v:aa)
def rG:Option Bool:=
 if decide (v.Op<1)=true then
  some true
 else
  some (decide (v.Op>5))
theorem Dc:OU 0 (cA S8 26) (rG v) .normal (λo=>[(11,.bool o)]) (bO 112 [(2,.eptr (am m)),(3,.eptr (ac v))] [.dead,.dead] []):=Ug.j<|
 have pp2:=λ{X Y Z} (r:PV _ X Y Z)=>tw (aJ v)<|r;tf (λc1=>pp2<|tg 4 c1<|tE) λc1=>pp2<|tg 4 c1<|tw (aJ v)<|tE
end
section
variable(m:al)(v:aa)
def kg:Option Bool:=
 if (v.Op == 1) = true then
  (DJ v.N).bind λr10=>
  if(!r10)=true then
   some true
  else if(v.Op==2)=true then
   if(v.N !=0)=true then
    some (v.N !=1)
   else
    some false
  else
   some false
 else if(v.Op==4)=true then
  (DJ v.N).bind λr19=>
  if(!r19)=true then
   some true
  else if(v.Op==2)=true then
   if(v.N !=0)=true then
    some (v.N !=1)
   else
    some false
  else
   some false
 else if(v.Op==2)=true then
  if(v.N !=0)=true then
   some (v.N !=1)
  else
   some false
 else
  some false
theorem Dd:OU 0 (cA S8 1790) (kg v) .normal (λo=>[(27,.bool o)]) (bO 112 [(2,.eptr (am m)),(3,.eptr (ac v))] [.dead,.dead] []):=Ug.j<|
 have pp9:=λ{X Y Z} (r:PV _ X Y Z)=>tw (aJ v)<|r;tf (λc8=>tb λr10 br10=>have pp12:=λ{X Y Z} (r:PV _ X Y Z)=>pp9<|tg 4 c8<|tw (aC v)<|bP (G5 _ br10)<|r;tf (λc11=>pp12<|tg 15 c11<|tE) λc11=>have pp14:=λ{X Y Z} (r:PV _ X Y Z)=>pp12<|tg 15 c11<|tw (aJ v)<|r;tf (λc13=>have pp16:=λ{X Y Z} (r:PV _ X Y Z)=>pp14<|tg 19 c13<|tw (aC v)<|r;tf (λc15=>pp16<|tg 24 c15<|tw (aC v)<|tE) λc15=>pp16<|tg 24 c15<|tE) λc13=>pp14<|tg 19 c13<|tE) λc8=>have pp18:=λ{X Y Z} (r:PV _ X Y Z)=>pp9<|tg 4 c8<|tw (aJ v)<|r;tf (λc17=>tb λr19 br19=>have pp21:=λ{X Y Z} (r:PV _ X Y Z)=>pp18<|tg 9 c17<|tw (aC v)<|bP (G5 _ br19)<|r;tf (λc20=>pp21<|tg 15 c20<|tE) λc20=>have pp23:=λ{X Y Z} (r:PV _ X Y Z)=>pp21<|tg 15 c20<|tw (aJ v)<|r;tf (λc22=>have pp25:=λ{X Y Z} (r:PV _ X Y Z)=>pp23<|tg 19 c22<|tw (aC v)<|r;tf (λc24=>pp25<|tg 24 c24<|tw (aC v)<|tE) λc24=>pp25<|tg 24 c24<|tE) λc22=>pp23<|tg 19 c22<|tE) λc17=>have pp27:=λ{X Y Z} (r:PV _ X Y Z)=>pp18<|tg 9 c17<|tw (aJ v)<|r;tf (λc26=>have pp29:=λ{X Y Z} (r:PV _ X Y Z)=>pp27<|tg 19 c26<|tw (aC v)<|r;tf (λc28=>pp29<|tg 24 c28<|tw (aC v)<|tE) λc28=>pp29<|tg 24 c28<|tE) λc26=>pp27<|tg 19 c26<|tE
end
section
variable(R59:pB)(m:al)(v:aa)(fields:waB)(m2:ai)(m3:waA)(m4:waD)(m5:waE)(i:Int)
def nW:az:=bO 112 [(2,.eptr (am m)),(3,.eptr (ac v)),(8,sl af fields),(9,.int .i64 i)] [.dead,.dead,.cells [.str m2,sl cS m3,sl bG m4,sl aF m5] []] []
def uE(o:Int⊕(Unit)):Exit:=match o with
 |(.inl _)=>.ret
 |(.inr _)=>.exit 1
def uF(o:Int⊕(Unit)):az:=match o with
 |(.inl o)=>bO 112 [(4,.int .i64 o)] [.dead,.dead,.cells [.str m2,sl cS m3,sl bG m4,sl aF m5] []] []
 |(.inr o)=>bO 112 [] [.dead,.dead,.cells [.str m2,sl cS m3,sl bG m4,sl aF m5] []] []
def eU:Option (Int⊕(Int⊕(Unit))):=
 if decide (i<(fields.length:Int))=true then
  (cH v.Kids i).bind λx38=>
  (R59 m x38).bind λr39=>
  if(r39 !=0)=true then
   some (.inr (.inl r39))
  else
   (cH v.Kids i).bind λx41=>
   (nY m x41).bind λr42=>
   (cH fields i).bind λx43=>
   (y0 r42 x43).bind λr44=>
   if(!r44)=true then
    some (.inr (.inl 12))
   else
    some (.inl (bw (i+1)))
 else
  some (.inr (.inr ()))
def rH:Option (Int⊕(Unit)):=loop (λ(zz:Int)=>eU R59 m v fields zz) i
theorem A1(hR59:tT R59):OL 0 (cA S8 2039) (eU R59 m v fields i) (λ(zz:Int)=>nW m v fields m2 m3 m4 m5 zz) uE (uF m2 m3 m4 m5) (nW m v fields m2 m3 m4 m5 i):=Ug.l<|
 ck (dl.ln fields)<|tF (tb λx38 bx38=>tb λr39 br39=>oY [0,0,2,0,14,30,63,127]<|tv (bh m)<|tw (aU v)<|tv (bE.ia (k:=.i64) bx38)<|tv (aB x38)<|bP (hR59 _ _ _ br39)<|tF tE<|tb λx41 bx41=>tb λr42 br42=>tb λx43 bx43=>tb λr44 br44=>oY [0,0,2,0,14,30,63,0,0,384,896,2047,4095]<|tv (bh m)<|tw (aU v)<|tv (bE.ia (k:=.i64) bx41)<|tv (aB x41)<|bP (xe _ br42)<|tv (dl.ia (k:=.i64) bx43)<|tv (cw x43)<|bP (BU _ br44)<|tF tE<|tE)<|tE
theorem sL(hR59:tT R59):OK 0 (.loop (cA S8 2039)) (rH R59 m v fields i) uE (uF m2 m3 m4 m5) (nW m v fields m2 m3 m4 m5 i):=DF λ_=>A1 _ _ _ _ _ _ _ _ _ hR59
end
def py (R59:pB) (m:al) (v:aa):Option Int :=
 (rG v).bind λo3=>
 if o3=true then
  some 1
 else if(v.Op==5)=true then
  some 12
 else
  (A2 v).bind λr6=>
  if r6=true then
   some 1
  else
   (kg v).bind λo30=>
   if o30=true then
    some 2
   else if(v.Op !=3)=true then
    some 0
   else
    (vS m v.Name).bind λr33=>
    if(!r33.2.2)=true then
     some 5
    else
     (cH r33.1.Cons r33.2.1).bind λx35=>
     if((x35.Fields.length:Int)!=(v.Kids.length:Int))=true then
      some 13
     else
      (rH R59 m v x35.Fields 0).bind λo46=>match o46 with
      |(.inl o46)=>
       some o46
      |(.inr o46)=>
       some 0
theorem Gb(R59:pB)(hR59:tT R59){m:al}{v:aa}:OV 14 [.agg (am m),.agg (ac v)] (py R59 m v) (λr=>.int .i64 r) []:=Ug.v<|
 tb λo3 bo3=>te (de m)<|te (cD v)<|qT 1<|dn (Dc m v _ bo3)<|tF tE<|tw (aJ v)<|tF tE<|tb λr6 br6=>tv (aB v)<|bP (H4 _ br6)<|tF tE<|tb λo30 bo30=>qT 0<|dn (Dd m v _ bo30)<|tF tE<|tw (aJ v)<|tF tE<|tb λr33 br33=>tv (bh m)<|tw (bH v)<|bP (DU _ br33)<|tx By<|tx (eS r33.1)<|tF tE<|tb λx35 bx35=>ts<|tv (Dj.ia (k:=.i64) bx35)<|tw (km x35)<|ck (dl.ln x35.Fields)<|tw (aU v)<|ck (bE.ln v.Kids)<|tF tE<|t2 (λo46 bo46=>dn (sL R59 m v x35.Fields r33.1.Name r33.1.Vars r33.1.Preds r33.1.Cons 0 hR59 _ bo46)<|tE) λo46 bo46=>dn (sL R59 m v x35.Fields r33.1.Name r33.1.Vars r33.1.Preds r33.1.Cons 0 hR59 _ bo46)<|tE
def uD:((al×aa)->Option Int)->(al×aa)->Option Int:=λ(rec:(al×aa)->Option Int) (x:al×aa)=>py (λm v=>rec (m,v)) x.1 x.2
def vW(m:al)(v:aa):Option Int:=kT uD (m,v)
theorem iR{m:al}{v:aa}:OV 14 [.agg (am m),.agg (ac v)] (vW m v) (λr=>.int .i64 r) []:=mP λ_ h=>
 ct (F:=uD) (M:=λ(x:al×aa) (r:Int)=>CC Pg GE 14 [.agg (am x.1),.agg (ac x.2)] (.int .i64 r) []) (λrec hrec x r h=>Gb _ (λm v=>mP λr h=>hrec (m,v) r h) _ h) h
noncomputable def Xg:Code:=f12.body.getD .skip
theorem WT:ZF Pg [] 12 f12 Xg:=zf call12 func12 rfl mixed
def uG(m:al)(v:aa):Option (ae×Bool):=
 (vW m v).bind λr1=>
 if(r1 !=0)=true then
  some ((⟨0,([]:ai),([]:List ae),([]:List ai),(⟨0,([]:ai),0,([]:List ag)⟩:ag),([]:List ag)⟩:ae),false)
 else
  (nY m v).bind λr3=>
  some (r3,true)
theorem B6{m:al}{v:aa}:OV 12 [.agg (am m),.agg (ac v)] (uG m v) (λr=>.tuple [.agg (af r.1),.bool r.2]) []:=WT.v<|
 tb λr1 br1=>te (de m)<|te (cD v)<|tx tK<|tv (bh m)<|tv (aB v)<|bP (iR _ br1)<|tF (AD (Ef) (Ee)<|ty (aR (⟨0,([]:ai),([]:List ae),([]:List ai),(⟨0,([]:ai),0,([]:List ag)⟩:ag),([]:List ag)⟩:ae))<|GT λq=>aI (vbj PVal.tuple (eL (eT (⟨0,([]:ai),([]:List ae),([]:List ai),(⟨0,([]:ai),0,([]:List ag)⟩:ag),([]:List ag)⟩:ae)) (eL (rP (.bool false)) (rfl:([]:List PVal)=[])))) q.2)<|tb λr3 br3=>tv (bh m)<|tv (aB v)<|bP (xe _ br3)<|ty (aR r3)<|GT λq=>aI (vbj PVal.tuple (eL (eT r3) (eL (rP (.bool true)) (rfl:([]:List PVal)=[])))) q.2
abbrev fV:=(ae->ae->Option Bool)
abbrev ka(R:fV):Prop:=∀(a:ae) (a2:ae),OV 15 [.agg (af a),.agg (af a2)] (R a a2) (λr=>.bool r) []
noncomputable def UY:Code:=f44.body.getD .skip
theorem V5:ZF Pg [] 44 f44 UY:=zf call44 func44 rfl mixed
section
variable(v:waA)(v2:waA)(i:Int)
def jG:az:=bO 26 [(0,sl cS v),(1,sl cS v2),(5,.int .i64 i)] [] []
def nK(o:Unit⊕(Unit)):Exit:=match o with
 |(.inl _)=>.ret
 |(.inr _)=>.exit 0
def nN(o:Unit⊕(Unit)):az:=match o with
 |(.inl o)=>bO 26 [(4,.bool false)] [] []
 |(.inr o)=>bO 26 [] [] []
def dR:Option (Int⊕(Unit⊕(Unit))):=
 if decide (i<(v.length:Int))=true then
  (cH v i).bind λx3=>
  (cH v2 i).bind λx4=>
  if(!(x3==x4))=true then
   some (.inr (.inl ()))
  else
   some (.inl (bw (i+1)))
 else
  some (.inr (.inr ()))
def kN:Option (Unit⊕(Unit)):=loop (λ(zz:Int)=>dR v v2 zz) i
theorem uc:OL 0 (cA UY 119) (dR v v2 i) (λ(zz:Int)=>jG v v2 zz) nK nN (jG v v2 i):=V5.l<|
 ck (lY.ln v)<|tF (tb λx3 bx3=>tb λx4 bx4=>oY [0,0,3,7,0,0,48,112,255]<|tv (lY.ia (k:=.i64) bx3)<|tv (yB T8 (.str x3) [])<|tv (lY.ia (k:=.i64) bx4)<|tv (yB T8 (.str x4) [])<|tF tE<|tE)<|tE
theorem mJ:OK 0 (.loop (cA UY 119)) (kN v v2 i) nK nN (jG v v2 i):=DF λ_=>uc _ _ _
end
def lq(a:waA)(a2:waA):Option Bool:=
 if((a.length:Int)!=(a2.length:Int))=true then
  some false
 else
  (kN a a2 0).bind λo6=>match o6 with
  |(.inl o6)=>
   some false
  |(.inr o6)=>
   some true
theorem AE{a:waA}{a2:waA}:OV 44 [sl cS a,sl cS a2] (lq a a2) (λr=>.bool r) []:=V5.v<|
 ck (lY.ln a)<|ck (lY.ln a2)<|tF tE<|t2 (λo6 bo6=>dn (mJ a a2 0 _ bo6)<|tE) λo6 bo6=>dn (mJ a a2 0 _ bo6)<|tE
abbrev rJ:=(ag->ag->Option Bool)
abbrev xJ(R:rJ):Prop:=∀(a:ag) (a2:ag),OV 45 [.agg (aj a),.agg (aj a2)] (R a a2) (λr=>.bool r) []
noncomputable def Un:Code:=f45.body.getD .skip
theorem UM:ZF Pg [39] 45 f45 Un:=zf call45 func45 rfl mixed
section
variable(v:ag)(v2:ag)
def tW:Option Bool:=
 if(v.Op !=v2.Op)=true then
  some true
 else if(!(v.Name==v2.Name))=true then
  some true
 else if(v.N !=v2.N)=true then
  some true
 else
  some ((v.Kids.length:Int)!=(v2.Kids.length:Int))
theorem DK:OU 0 (cA Un 12) (tW v v2) .normal (λo=>[(33,.bool o)]) (bO 53 [(2,.eptr (aj v)),(3,.eptr (aj v2))] [.dead,.dead] []):=UM.j<|
 have pp2:=λ{X Y Z} (r:PV _ X Y Z)=>tw (gD v)<|tw (gD v2)<|r;tf (λc1=>pp2<|tg 6 c1<|tE) λc1=>have pp4:=λ{X Y Z} (r:PV _ X Y Z)=>pp2<|tg 6 c1<|tw (eu v)<|tw (eu v2)<|r;tf (λc3=>pp4<|tg 13 c3<|tE) λc3=>have pp6:=λ{X Y Z} (r:PV _ X Y Z)=>pp4<|tg 13 c3<|tw (il v)<|tw (il v2)<|r;tf (λc5=>pp6<|tg 20 c5<|tE) λc5=>pp6<|tg 20 c5<|tw (co v)<|ck (iC.ln v.Kids)<|tw (co v2)<|ck (iC.ln v2.Kids)<|tE
end
section
variable(R67:rJ)(v:ag)(v2:ag)(t36:Int)(t37:Int)
def qb:az:=bO 53 [(2,.eptr (aj v)),(3,.eptr (aj v2)),(36,.int .i64 t36),(37,.int .i64 t37)] [.dead,.dead] []
def wK(o:Unit⊕(Unit)):Exit:=match o with
 |(.inl _)=>.ret
 |(.inr _)=>.exit 0
def wL(o:Unit⊕(Unit)):az:=match o with
 |(.inl o)=>bO 53 [(4,.bool false)] [.dead,.dead] []
 |(.inr o)=>bO 53 [] [.dead,.dead] []
def lm:Option (Int⊕(Unit⊕(Unit))):=
 if decide (t37<t36)=true then
  (cH v.Kids t37).bind λx10=>
  (cH v2.Kids t37).bind λx11=>
  (R67 x10 x11).bind λr12=>
  if(!r12)=true then
   some (.inr (.inl ()))
  else
   some (.inl (bw (t37+1)))
 else
  some (.inr (.inr ()))
def tX:Option (Unit⊕(Unit)):=loop (λ(zz:Int)=>lm R67 v v2 t36 zz) t37
theorem CD(hR67:xJ R67):OL 0 (cA Un 119) (lm R67 v v2 t36 t37) (λ(zz:Int)=>qb v v2 t36 zz) wK wL (qb v v2 t36 t37):=UM.l<|
 tF (tb λx10 bx10=>tb λx11 bx11=>tb λr12 br12=>oY [0,1,0,7,15,0,32,0,224,480,1023,2047]<|tw (co v)<|tv (iC.ia (k:=.i64) bx10)<|tv (lW x10)<|tw (co v2)<|tv (iC.ia (k:=.i64) bx11)<|tv (lW x11)<|bP (hR67 _ _ _ br12)<|tF tE<|tE)<|tE
theorem tY(hR67:xJ R67):OK 0 (.loop (cA Un 119)) (tX R67 v v2 t36 t37) wK wL (qb v v2 t36 t37):=DF λ_=>CD _ _ _ _ _ hR67
end
def rx(R67:rJ)(a:ag)(a2:ag):Option Bool:=
 (tW a a2).bind λo7=>
 if o7=true then
  some false
 else
  (tX R67 a a2 (a.Kids.length:Int) 0).bind λo14=>match o14 with
  |(.inl o14)=>
   some false
  |(.inr o14)=>
   some true
theorem HU(R67:rJ)(hR67:xJ R67){a:ag}{a2:ag}:OV 45 [.agg (aj a),.agg (aj a2)] (rx R67 a a2) (λr=>.bool r) []:=UM.v<|
 tb λo7 bo7=>te (zP a)<|te (zP a2)<|qT 1<|dn (DK a a2 _ bo7)<|tF tE<|tw (co a)<|ck (iC.ln a.Kids)<|t2 (λo14 bo14=>dn (tY R67 a a2 (a.Kids.length:Int) 0 hR67 _ bo14)<|tE) λo14 bo14=>dn (tY R67 a a2 (a.Kids.length:Int) 0 hR67 _ bo14)<|tE
def xL:((ag×ag)->Option Bool)->(ag×ag)->Option Bool:=λ(rec:(ag×ag)->Option Bool) (x:ag×ag)=>rx (λa a2=>rec (a,a2)) x.1 x.2
def yZ(a:ag)(a2:ag):Option Bool:=kT xL (a,a2)
theorem BT{a:ag}{a2:ag}:OV 45 [.agg (aj a),.agg (aj a2)] (yZ a a2) (λr=>.bool r) []:=mP λ_ h=>
 ct (F:=xL) (M:=λ(x:ag×ag) (r:Bool)=>CC Pg GE 45 [.agg (aj x.1),.agg (aj x.2)] (.bool r) []) (λrec hrec x r h=>HU _ (λa a2=>mP λr h=>hrec (a,a2) r h) _ h) h
noncomputable def UZ:Code:=f46.body.getD .skip
theorem V6:ZF Pg [] 46 f46 UZ:=zf call46 func46 rfl mixed
section
variable(R65:fV)(v:waB)(v2:waB)(i:Int)
def jH:az:=bO 27 [(0,sl af v),(1,sl af v2),(5,.int .i64 i)] [] []
def nR(o:Unit⊕(Unit)):Exit:=match o with
 |(.inl _)=>.ret
 |(.inr _)=>.exit 0
def nT(o:Unit⊕(Unit)):az:=match o with
 |(.inl o)=>bO 27 [(4,.bool false)] [] []
 |(.inr o)=>bO 27 [] [] []
def dS:Option (Int⊕(Unit⊕(Unit))):=
 if decide (i<(v.length:Int))=true then
  (cH v i).bind λx3=>
  (cH v2 i).bind λx4=>
  (R65 x3 x4).bind λr5=>
  if(!r5)=true then
   some (.inr (.inl ()))
  else
   some (.inl (bw (i+1)))
 else
  some (.inr (.inr ()))
def kO:Option (Unit⊕(Unit)):=loop (λ(zz:Int)=>dS R65 v v2 zz) i
theorem ue(hR65:ka R65):OL 0 (cA UZ 119) (dS R65 v v2 i) (λ(zz:Int)=>jH v v2 zz) nR nT (jH v v2 i):=V6.l<|
 ck (dl.ln v)<|tF (tb λx3 bx3=>tb λx4 bx4=>tb λr5 br5=>oY [0,0,3,7,0,0,48,112,255,511]<|tv (dl.ia (k:=.i64) bx3)<|tv (cw x3)<|tv (dl.ia (k:=.i64) bx4)<|tv (cw x4)<|bP (hR65 _ _ _ br5)<|tF tE<|tE)<|tE
theorem mK(hR65:ka R65):OK 0 (.loop (cA UZ 119)) (kO R65 v v2 i) nR nT (jH v v2 i):=DF λ_=>ue _ _ _ _ hR65
end
def lr(R65:fV)(a:waB)(a2:waB):Option Bool:=
 if((a.length:Int)!=(a2.length:Int))=true then
  some false
 else
  (kO R65 a a2 0).bind λo7=>match o7 with
  |(.inl o7)=>
   some false
  |(.inr o7)=>
   some true
theorem AG(R65:fV)(hR65:ka R65){a:waB}{a2:waB}:OV 46 [sl af a,sl af a2] (lr R65 a a2) (λr=>.bool r) []:=V6.v<|
 ck (dl.ln a)<|ck (dl.ln a2)<|tF tE<|t2 (λo7 bo7=>dn (mK R65 a a2 0 hR65 _ bo7)<|tE) λo7 bo7=>dn (mK R65 a a2 0 hR65 _ bo7)<|tE
noncomputable def Uk:Code:=f15.body.getD .skip
theorem UF:ZF Pg [] 15 f15 Uk:=zf call15 func15 rfl mixed
section
variable(v:ae)(v2:ae)
def mf:Option Bool:=
 if(v.Op !=v2.Op)=true then
  some true
 else if(!(v.Name==v2.Name))=true then
  some true
 else
  (lq v.Names v2.Names).bind λr5=>
  if(!r5)=true then
   some true
  else
   (yZ v.Pred v2.Pred).bind λr8=>
   if(!r8)=true then
    some true
   else
    some ((v.Preds.length:Int)!=(v2.Preds.length:Int))
theorem xS:OU 0 (cA Uk 12) (mf v v2) .normal (λo=>[(42,.bool o)]) (bO 67 [(2,.eptr (af v)),(3,.eptr (af v2))] [.dead,.dead] []):=UF.j<|
 have pp2:=λ{X Y Z} (r:PV _ X Y Z)=>tw (bW v)<|tw (bW v2)<|r;tf (λc1=>pp2<|tg 6 c1<|tE) λc1=>have pp4:=λ{X Y Z} (r:PV _ X Y Z)=>pp2<|tg 6 c1<|tw (bM v)<|tw (bM v2)<|r;tf (λc3=>pp4<|tg 13 c3<|tE) λc3=>tb λr5 br5=>have pp7:=λ{X Y Z} (r:PV _ X Y Z)=>pp4<|tg 13 c3<|tw (dW v)<|tw (dW v2)<|bP (AE _ br5)<|r;tf (λc6=>pp7<|tg 21 c6<|tE) λc6=>tb λr8 br8=>have pp10:=λ{X Y Z} (r:PV _ X Y Z)=>pp7<|tg 21 c6<|tw (dY v)<|tw (dY v2)<|bP (BT _ br8)<|r;tf (λc9=>pp10<|tg 29 c9<|tE) λc9=>pp10<|tg 29 c9<|tw (cp v)<|ck (iC.ln v.Preds)<|tw (cp v2)<|ck (iC.ln v2.Preds)<|tE
end
section
variable(v:ae)(v2:ae)(i:Int)
def ke:az:=bO 67 [(2,.eptr (af v)),(3,.eptr (af v2)),(5,.int .i64 i)] [.dead,.dead] []
def pl(o:Unit⊕(Unit)):Exit:=match o with
 |(.inl _)=>.ret
 |(.inr _)=>.exit 0
def pn(o:Unit⊕(Unit)):az:=match o with
 |(.inl o)=>bO 67 [(4,.bool false)] [.dead,.dead] []
 |(.inr o)=>bO 67 [(2,.eptr (af v)),(3,.eptr (af v2))] [.dead,.dead] []
def dt:Option (Int⊕(Unit⊕(Unit))):=
 if decide (i<(v.Preds.length:Int))=true then
  (cH v.Preds i).bind λx14=>
  (cH v2.Preds i).bind λx15=>
  (yZ x14 x15).bind λr16=>
  if(!r16)=true then
   some (.inr (.inl ()))
  else
   some (.inl (bw (i+1)))
 else
  some (.inr (.inr ()))
def mg:Option (Unit⊕(Unit)):=loop (λ(zz:Int)=>dt v v2 zz) i
theorem wy:OL 0 (cA Uk 119) (dt v v2 i) (λ(zz:Int)=>ke v v2 zz) pl (pn v v2) (ke v v2 i):=UF.l<|
 tw (cp v)<|ck (iC.ln v.Preds)<|tF (tb λx14 bx14=>tb λx15 bx15=>tb λr16 br16=>oY [0,1,0,7,15,0,32,0,224,480,1023,2047]<|tw (cp v)<|tv (iC.ia (k:=.i64) bx14)<|tv (lW x14)<|tw (cp v2)<|tv (iC.ia (k:=.i64) bx15)<|tv (lW x15)<|bP (BT _ br16)<|tF tE<|tE)<|tE
theorem nQ:OK 0 (.loop (cA Uk 119)) (mg v v2 i) pl (pn v v2) (ke v v2 i):=DF λ_=>wy _ _ _
end
def kc(R65:fV)(a:ae)(a2:ae):Option Bool:=
 (mf a a2).bind λo11=>
 if o11=true then
  some false
 else
  (mg a a2 0).bind λo18=>match o18 with
  |(.inl o18)=>
   some false
  |(.inr o18)=>
   (lr R65 a.Args a2.Args).bind λr19=>
   some r19
theorem AF(R65:fV)(hR65:ka R65){a:ae}{a2:ae}:OV 15 [.agg (af a),.agg (af a2)] (kc R65 a a2) (λr=>.bool r) []:=UF.v<|
 tb λo11 bo11=>te (eZ a)<|te (eZ a2)<|qT 1<|dn (xS a a2 _ bo11)<|tF tE<|t2 (λo18 bo18=>dn (nQ a a2 0 _ bo18)<|tE) λo18 bo18=>tb λr19 br19=>dn (nQ a a2 0 _ bo18)<|tw (aL a)<|tw (aL a2)<|bP (AG R65 hR65 _ br19)<|tE
def nO:((ae×ae)->Option Bool)->(ae×ae)->Option Bool:=λ(rec:(ae×ae)->Option Bool) (x:ae×ae)=>kc (λa a2=>rec (a,a2)) x.1 x.2
def rC(a:ae)(a2:ae):Option Bool:=kT nO (a,a2)
theorem jx{a:ae}{a2:ae}:OV 15 [.agg (af a),.agg (af a2)] (rC a a2) (λr=>.bool r) []:=mP λ_ h=>
 ct (F:=nO) (M:=λ(x:ae×ae) (r:Bool)=>CC Pg GE 15 [.agg (af x.1),.agg (af x.2)] (.bool r) []) (λrec hrec x r h=>AF _ (λa a2=>mP λr h=>hrec (a,a2) r h) _ h) h
noncomputable def Xi:Code:=f17.body.getD .skip
theorem WV:ZF Pg [] 17 f17 Xi:=zf call17 func17 rfl mixed
def zn(m:al)(v:aa)(t:ae):Option Bool:=
 (uG m v).bind λr1=>
 if r1.2=true then
  (y0 r1.1 t).bind λr3=>
  some r3
 else
  some false
theorem B5{m:al}{v:aa}{t:ae}:OV 17 [.agg (am m),.agg (ac v),.agg (af t)] (zn m v t) (λr=>.bool r) []:=WV.v<|
 tb λr1 br1=>te (de m)<|te (cD v)<|te (eZ t)<|tv (bh m)<|tv (aB v)<|bP (B6 _ br1)<|tx tK<|tx (fu r1.1)<|tf (λc2=>tb λr3 br3=>tg 2 c2<|tv (cx r1.1 [])<|tv (cw t)<|bP (BU _ br3)<|tE) λc2=>tg 2 c2<|tE
noncomputable def b3:Code:=Tryz.f3.body.getD .skip
theorem Z3:ZF Pg [] 3 Tryz.f3 b3:=zf call3 func3 rfl mixed
section
variable(m:al)(v:aa)(t:ae)
def gy:Option Bool:=
 (vV m).bind λr1=>
 if(!r1)=true then
  some true
 else
  (vY v).bind λr4=>
  if(!r4)=true then
   some true
  else
   (y1 (⟨0,([]:ai),0,([]:List aq),([]:List cV),([]:List fk),([t]:List ae)⟩:aq) 100).bind λr7=>
   some (decide (r7>100))
theorem tI:OU 0 (cA b3 12) (gy m v t) .normal (λo=>[(25,.bool o)]) (bO 70 [(3,.eptr (am m)),(4,.eptr (ac v)),(5,.eptr (af t))] [.dead,.dead,.dead] []):=Z3.j<|
 tb λr1 br1=>have pp3:=λ{X Y Z} (r:PV _ X Y Z)=>tv (bh m)<|bP (H1 _ br1)<|r;tf (λc2=>pp3<|tg 4 c2<|tE) λc2=>tb λr4 br4=>have pp6:=λ{X Y Z} (r:PV _ X Y Z)=>pp3<|tg 4 c2<|tv (aB v)<|bP (H6 _ br4)<|r;tf (λc5=>pp6<|tg 9 c5<|tE) λc5=>tb λr7 br7=>pp6<|tg 9 c5<|tv (cw t)<|tv (dl.mk' (v:=nz) jR ([t]:List ae) 1 (by kernel_rfl))<|AD (KO ([t]:List ae)) (KL ([t]:List ae))<|bP (BY _ br7)<|tE
end
def mh(m:al)(v:aa)(t:ae):Option Bool:=
 (gy m v t).bind λo8=>
 if o8=true then
  vX.bind λr10=>
  some r10
 else
  (lj m v).bind λr11=>
  (uG m v).bind λr12=>
  (ma m v).bind λr13=>
  (vW m v).bind λr14=>
  if (r13 == r14) = true then
   (rC r11.1 r12.1).bind λr16=>
   if r16=true then
    if(r11.2==r12.2)=true then
     (oU m v t).bind λr19=>
     (zn m v t).bind λr20=>
     if(r19==r20)=true then
      vX.bind λr22=>
      some r22
     else
      some false
    else
     some false
   else
    some false
  else
   some false
theorem xY{m:al}{v:aa}{t:ae}:OV 3 [.agg (am m),.agg (ac v),.agg (af t)] (mh m v t) (λr=>.bool r) []:=Z3.v<|
 tb λo8 bo8=>te (de m)<|te (cD v)<|te (eZ t)<|qT 1<|dn (tI m v t _ bo8)<|tF (tb λr10 br10=>bP (zo _ br10)<|tE)<|tb λr11 br11=>tb λr12 br12=>tb λr13 br13=>tb λr14 br14=>tv (bh m)<|tv (aB v)<|bP (qt _ br11)<|tx tK<|tx (fu r11.1)<|tv (bh m)<|tv (aB v)<|bP (B6 _ br12)<|tx tK<|tx (fu r12.1)<|tf (λc15=>tb λr16 br16=>tf (λc17=>tf (λc18=>tb λr19 br19=>tb λr20 br20=>tf (λc21=>tb λr22 br22=>oY [0,0,3,0,0,31,63,127,255,255,1023,2047,4095,8191,8191,32767,65535,131071,262143,262143,262143,2097151,262143,262143,262143,33554431,67108863,134217727,268435455,536870911,1073741823,2147483647]<|tv (bh m)<|tv (aB v)<|bP (cX _ br13)<|tv (bh m)<|tv (aB v)<|bP (iR _ br14)<|tg 8 c15<|tv (cx r11.1 [])<|tv (cx r12.1 [])<|bP (jx _ br16)<|tg 13 c17<|tg 18 c18<|tv (bh m)<|tv (aB v)<|tv (cw t)<|bP (qr _ br19)<|tv (bh m)<|tv (aB v)<|tv (cw t)<|bP (B5 _ br20)<|tg 29 c21<|bP (zo _ br22)<|tE) λc21=>oY [0,0,3,0,0,31,63,127,255,255,1023,2047,4095,8191,8191,32767,65535,131071,262143,262143,262143,2097151,262143,262143,262143,33554431,67108863,134217727,268435455,536870911,1073741823,2147483647]<|tv (bh m)<|tv (aB v)<|bP (cX _ br13)<|tv (bh m)<|tv (aB v)<|bP (iR _ br14)<|tg 8 c15<|tv (cx r11.1 [])<|tv (cx r12.1 [])<|bP (jx _ br16)<|tg 13 c17<|tg 18 c18<|tv (bh m)<|tv (aB v)<|tv (cw t)<|bP (qr _ br19)<|tv (bh m)<|tv (aB v)<|tv (cw t)<|bP (B5 _ br20)<|tg 29 c21<|tE) λc18=>oY [0,0,3,0,0,31,63,127,255,255,1023,2047,4095,8191,8191,32767,65535,131071,262143,262143,262143,2097151,262143,262143,262143,33554431,67108863,134217727,268435455,536870911,1073741823,2147483647]<|tv (bh m)<|tv (aB v)<|bP (cX _ br13)<|tv (bh m)<|tv (aB v)<|bP (iR _ br14)<|tg 8 c15<|tv (cx r11.1 [])<|tv (cx r12.1 [])<|bP (jx _ br16)<|tg 13 c17<|tg 18 c18<|tE) λc17=>oY [0,0,3,0,0,31,63,127,255,255,1023,2047,4095,8191,8191,32767,65535,131071,262143,262143,262143,2097151,262143,262143,262143,33554431,67108863,134217727,268435455,536870911,1073741823,2147483647]<|tv (bh m)<|tv (aB v)<|bP (cX _ br13)<|tv (bh m)<|tv (aB v)<|bP (iR _ br14)<|tg 8 c15<|tv (cx r11.1 [])<|tv (cx r12.1 [])<|bP (jx _ br16)<|tg 13 c17<|tE) λc15=>oY [0,0,3,0,0,31,63,127,255,255,1023,2047,4095,8191,8191,32767,65535,131071,262143,262143,262143,2097151,262143,262143,262143,33554431,67108863,134217727,268435455,536870911,1073741823,2147483647]<|tv (bh m)<|tv (aB v)<|bP (cX _ br13)<|tv (bh m)<|tv (aB v)<|bP (iR _ br14)<|tg 8 c15<|tE
open Go
mutual
def nP:ag->Nat
 |⟨_,_,_,ks⟩=>nL ks+1
def nL:List ag->Nat
 |[]=>0
 |p::ps=>nP p+nL ps
end
theorem Mp(p:ag):nP p=nL p.Kids+1:=by obtain⟨o,n,k,ks⟩:=p;rw[nP];rfl
theorem O8(p:ag):1<=nP p:=by rw[Mp];omega
theorem O6:∀{l:List ag} {x:ag},x∈l->nP x<=nL l
 | y :: l,x,h => by
  rw[nL]
  rcases vau.1 h with rfl|h
  ·omega
  ·have:=O6 h;omega
theorem IQ:∀(l:List ag),l.length<=nL l
 |[]=>by simp[nL]
 |p::l=>by rw[nL];have:=IQ l;have:=O8 p;simp only[va2];omega
theorem OR{p x:ag}(h:x∈p.Kids):nP x<nP p:=by rw[Mp p];have:=O6 h;omega
theorem OS(p:ag):p.Kids.length<nP p:=by rw[Mp];have:=IQ p.Kids;omega
theorem HB:∀(a b:List ag),nL (a++b)=nL a+nL b
 |[],b=>by simp[nL]
 |p::a,b=>by rw[vaV,nL,HB a b,nL];omega
mutual
theorem TI:∀(p:ag),nP p<=ce (aj p)
 |⟨o,n,k,ks⟩=>by
  have:=O7 ks
  rw[nP,bK]
  simp only[ce,pm,sl]
  show nL ks+1<=1+(n.length+1+(1+(aX (ks.map aj)+1+0)))
  omega
theorem O7:∀(l:List ag),nL l<=aX (l.map aj)
 |[]=>by simp[nL]
 |p::l=>by
  have:=TI p
  have:=O7 l
  rw[nL]
  simp only[vaQ,aX]
  omega
end
mutual
def Vp:ag->ag->Bool
 |⟨o,n,k,ks⟩,⟨o',n',k',ks'⟩=>(o==o')&&((n==n')&&((k==k')&&Sb ks ks'))
def Sb:List ag->List ag->Bool
 |[],[]=>true
 |x::xs,y::ys=>Vp x y&&Sb xs ys
 |_,_=>false
end
mutual
theorem Ma:∀(a b:ag),Vp a b=true↔a=b
 |⟨o,n,k,ks⟩,⟨o',n',k',ks'⟩=>by
  rw[Vp]
  have:=L9 ks ks'
  simp only[vae,vaY,this,ag.mk.injEq]
theorem L9:∀(a b:List ag),Sb a b=true↔a=b
 |[],[]=>by simp[Sb]
 |x::xs,y::ys=>by
  rw[Sb]
  have h1:=Ma x y
  have h2:=L9 xs ys
  simp only[vae,h1,h2,vbL]
 |[],y::ys=>by simp[Sb]
 |x::xs,[]=>by simp[Sb]
end
instance:DecidableEq ag:=λa b=>decidable_of_iff _ (Ma a b)
theorem NT{a b:ag}:a=b↔a.Op=b.Op/\a.Name=b.Name/\a.N=b.N/\a.Kids=b.Kids:=by
 cases a;cases b
 simp only[ag.mk.injEq]
 rfl
theorem MK{α:Type}[DecidableEq α]:∀{a b:List α},a.length=b.length->(a.zip b).any (λx=>decide (x.1≠x.2))= !decide (a=b)
 |[],[],_=>by simp
 |x::a,y::b,h=>by
  have ih:=MK (a:=a) (b:=b) (by simpa using h)
  rw[List.zip_cons_cons,List.any_cons,ih]
  by_cases h1:x=y<;>by_cases h2:a=b<;>simp[h1,h2]
theorem EP{α X:Type}[DecidableEq α]{a b:List α}(hl:a.length=b.length)(ha:a.length<9223372036854775808)(body:Int->Option (Int⊕X))(y e:X)
  (hin:∀(i:Nat) (h:i<a.length) (h':i<b.length),body i=some (if decide (a[i]=b[i])=true then .inl (bw ((i:Int)+1))else .inr y)) (hend:body a.length=some (.inr e)):loop body 0=some (if decide (a=b)=true then e else y):=by
 have hz:(a.zip b).length=a.length:=by simp[hl]
 have:=O4 (a.zip b) (by omega) body (λx=>decide (x.1≠x.2)) y e (λi h=>?_) (by rw[hz];exact hend) 0 (vaP _)
 ·rw[vcF,MK hl]at this
  rw[show((0:Nat):Int)=0 from rfl]at this
  rw[this]
  by_cases h:a=b<;>simp[h]
 ·have h1:i<a.length:=by omega
  have h2:i<b.length:=by omega
  rw[hin i h1 h2]
  have hzi:(a.zip b)[i]=(a[i],b[i]):=by simp
  rw[hzi]
  by_cases h:a[i]=b[i]<;>simp[h]
abbrev mi:Nat:=1073741824
theorem kV{n:Nat}(h:n<=mi):n<Rj:=by have:=RT;unfold mi at h;omega
theorem Kl(a b:ag)(hb:nP b<=mi):yZ a b=some (decide (a=b)):=by
 refine wb (F:=xL) (λx=>nP x.2) (λx=>nP x.2<=mi) (λx=>decide (x.1=x.2)) (λR x hx ih=>?_) (a,b) hb (kV hb)
 obtain⟨u,v⟩:=x
 have hx:nP v<=mi:=hx
 show rx (λa a2=>R (a,a2)) u v=some (decide (u=v))
 unfold rx tW
 have hk:=OS v
 by_cases h1:u.Op=v.Op
 ·by_cases h2:u.Name=v.Name
  ·by_cases h3:u.N=v.N
   ·by_cases h4:u.Kids.length=v.Kids.length
    ·rw[vay (by simpa using h1),vay (by simpa using h2),vay (by simpa using h3)]
     simp only[h4,bne_self_eq_false,vab,if_false,vaL]
     unfold tX
     rw[<-h4,EP h4 (by unfold mi at hx;omega) _ (.inl ()) (.inr ()) (λi g1 g2=>?_) ?_]
     ·by_cases he:u.Kids=v.Kids<;>simp[he,NT (a:=u) (b:=v),h1,h2,h3]
     ·unfold lm
      rw[vay (by simp)]
     ·unfold lm
      rw[vaD (by simp;omega),bu u.Kids i g1]
      simp only[vab]
      rw[bu v.Kids i g2]
      simp only[vab]
      have hm:=vaJ g2
      rw[ih (u.Kids[i],v.Kids[i]) (OR hm) (Nat.le_of_lt (vaE (OR hm) hx))]
      by_cases he:u.Kids[i]=v.Kids[i]<;>simp[he]
    ·have hne:u≠v:=λe=>h4 (by rw[e])
     rw[vay (by simpa using h1),vay (by simpa using h2),vay (by simpa using h3)]
     have hb:((u.Kids.length:Int)!=(v.Kids.length:Int))=true:=by simp;omega
     simp[hb,hne]
   ·have hne:u≠v:=λe=>h3 (by rw[e])
    rw[vay (by simpa using h1),vay (by simpa using h2),vaD (by simpa using h3)]
    simp[hne]
  ·have hne:u≠v:=λe=>h2 (by rw[e])
   rw[vay (by simpa using h1),vaD (by simpa using h2)]
   simp[hne]
 ·have hne:u≠v:=λe=>h1 (by rw[e])
  rw[vaD (by simpa using h1)]
  simp[hne]
theorem QN(l:List ag)(i:Nat)(h:i<l.length):nL (l.take (i+1))=nL (l.take i)+nP l[i]:=by
 rw[vbp h,HB]
 simp[nL]
def tot{α:Type}(o:Option α)(Q:α->Prop):Prop:=∃a,o=some a/\Q a
section
variable{α β σ τ X Y:Type}
theorem bg{a:α}{Q:α->Prop}(h:Q a):tot (some a) Q:=⟨a,rfl,h⟩
theorem aK{o:Option α}{f:α->Option β}{R:α->Prop}{Q:β->Prop}(h:tot o R)(h':∀a,R a->tot (f a) Q):tot (o.bind f) Q:=by
 obtain⟨a,rfl,h⟩:=h
 exact h' a h
theorem tot.mono{o:Option α}{Q R:α->Prop}(h:tot o Q)(h':∀a,Q a->R a):tot o R:=by
 obtain⟨a,e,h⟩:=h
 exact⟨a,e,h' a h⟩
theorem wv{c:Prop}[Decidable c]{a b:Option α}{Q:α->Prop}(h1:c->tot a Q)(h2:¬c->tot b Q):tot (if c then a else b) Q:=by
 by_cases h:c
 ·rw[vaD h];exact h1 h
 ·rw[vay h];exact h2 h
theorem oM{F:(X->Option Y)->X->Option Y}(μ:X->Nat)(P:X->Prop)(Q:X->Y->Prop)(h:∀(R:X->Option Y) x,P x->(∀y,μ y<μ x->P y->tot (R y) (Q y))->tot (F R x) (Q x))(x:X)(hx:P x)(hm:μ x<Rj):tot (kT F x) (Q x):=by
 have key:∀n x,μ x<n->P x->tot (TC F n x) (Q x):=by
  intro n
  induction n with
  |zero=>intro x hx;omega
  |succ n ih=>intro x hx hq;exact h _ x hq λy hy hqy=>ih y (by omega) hqy
 exact key _ x hm hx
end
set_option linter.unusedSimpArgs false
mutual
def yr:ae->Nat
 |⟨_,_,xs,ns,_,ps⟩=>jc xs+ns.length+ps.length+1
def jc:List ae->Nat
 |[]=>0
 |a::xs=>yr a+jc xs
end
theorem wd(t:ae):yr t=jc t.Args+t.Names.length+t.Preds.length+1:=by obtain⟨o,n,xs,ns,p,ps⟩:=t;rw[yr];rfl
theorem OW(t:ae):1<=yr t:=by rw[wd];omega
theorem Hu:∀{l:List ae} {x:ae},x∈l->yr x<=jc l
 | y :: l,x,h => by
  rw[jc]
  rcases vau.1 h with rfl|h
  ·omega
  ·have:=Hu h;omega
theorem Ht:∀(l:List ae),l.length<=jc l
 |[]=>by simp[jc]
 |p::l=>by rw[jc];have:=Ht l;have:=OW p;simp only[va2];omega
theorem Oj{t a:ae}(h:a∈t.Args):yr a<yr t:=by rw[wd t];have:=Hu h;omega
theorem Ok(t:ae):t.Args.length<yr t:=by rw[wd];have:=Ht t.Args;omega
theorem Nj(t:ae):t.Names.length<yr t:=by rw[wd];omega
theorem NE(t:ae):t.Preds.length<yr t:=by rw[wd];omega
mutual
def KH(Q:ag->Prop):ae->Prop
 |⟨_,_,xs,_,p,ps⟩=>Q p/\(∀q∈ps,Q q)/\G7 Q xs
def G7(Q:ag->Prop):List ae->Prop
 |[]=>True
 |a::xs=>KH Q a/\G7 Q xs
end
theorem Eb(Q:ag->Prop)(t:ae):KH Q t↔Q t.Pred/\(∀q∈t.Preds,Q q)/\G7 Q t.Args:=by obtain⟨o,n,xs,ns,p,ps⟩:=t;rw[KH];rfl
theorem G8(Q:ag->Prop):∀(l:List ae),G7 Q l↔∀t∈l,KH Q t
 |[]=>by simp[G7]
 |a::l=>by rw[G7,G8 Q l];simp
theorem Og{Q:ag->Prop}{t a:ae}(h:KH Q t)(ha:a∈t.Args):KH Q a:=(G8 Q _).1 ((Eb Q t).1 h).2.2 a ha
theorem TG(l:List ag):l.length<=aX (l.map aj):=by
 have:=IQ l
 have:=O7 l
 omega
theorem Mi(l:List ai):l.length<=aX (l.map cS):=by
 have h:=J5 (l.map cS) (λx hx=>by
  obtain⟨s,_,rfl⟩:=vah.1 hx
  simp only[cS,ce,pm];omega)
 rwa[vbD]at h
theorem Kc(t:ae):ce (af t)=1+(pm (.str t.Name)+(pm (sl af t.Args)+(pm (sl cS t.Names)+(1+(pm (.str t.Pred.Name)+(1+(pm (sl aj t.Pred.Kids)+(pm (sl aj t.Preds)+0)))))))):=by
 rw[aR];rfl
section
variable{α β σ τ X Y:Type}
theorem EO(l:List α)(hl:l.length<9223372036854775808)(mk:Int->τ)(body:τ->Option (τ⊕X))(f:α->Option X)(e:X)
  (hin:∀(i:Nat) (h:i<l.length),body (mk (i:Int))=some ((f l[i]).elim (.inl (mk (bw ((i:Int)+1)))) .inr)) (hend:body (mk l.length)=some (.inr e)):loop body (mk 0)=some ((l.findSome? f).elim e id):=by
 have key:∀k i,k+i=l.length->loop body (mk (i:Int))=some (((l.drop i).findSome? f).elim e id):=by
  intro k
  induction k with
  |zero=>
   intro i hi
   have:i=l.length:=by omega
   subst this
   rw[iW,hend,vb2]
   rfl
  | succ k ih =>
   intro i hi
   rw[iW,hin i (by omega),va6 (by omega),List.findSome?_cons]
   cases h:f l[i]with
   |none=>
    simp only[Option.elim]
    rw[bX (by omega) (by omega),show((i:Int)+1)=((i+1:Nat):Int) by omega]
    exact ih (i+1) (by omega)
   |some y=>rfl
 have:=key l.length 0 (by omega)
 rw[vcF]at this
 exact this
theorem EN(l:List α)(hl:l.length<9223372036854775808)(mk:Int->τ)(body:τ->Option (τ⊕X))(p:α->Bool)(y:Nat->X)(e:X)
  (hin:∀(i:Nat) (h:i<l.length),body (mk (i:Int))=some (if p l[i]=true then .inr (y i)else .inl (mk (bw ((i:Int)+1))))) (hend:body (mk l.length)=some (.inr e)):loop body (mk 0)=some ((l.findIdx? p).elim e y):=by
 have key:∀k i,k+i=l.length->loop body (mk (i:Int))=some (((l.drop i).findIdx? p).elim e (λj=>y (i+j))):=by
  intro k
  induction k with
  |zero=>
   intro i hi
   have:i=l.length:=by omega
   subst this
   rw[iW,hend,vb2]
   rfl
  | succ k ih =>
   intro i hi
   rw[iW,hin i (by omega),va6 (by omega),List.findIdx?_cons]
   by_cases h:p l[i]=true
   ·simp[h]
   ·simp only[h,if_false,vaL]
    rw[bX (by omega) (by omega),show((i:Int)+1)=((i+1:Nat):Int) by omega,ih (i+1) (by omega)]
    cases(l.drop (i+1)).findIdx? p with
    |none=>rfl
    |some j=>simp only[vak,Option.elim];congr 2;omega
 have:=key l.length 0 (by omega)
 rw[vcF]at this
 simpa using this
end
noncomputable instance decT:DecidableEq ae:=λa b=>Classical.propDecidable _
theorem XU{a b:Bool}:(if a=true then some true else some b)=some (a||b):=by cases a<;>rfl
theorem Mb{α:Type}[DecidableEq α]{a b:List α}(ha:a.length<=mi)(body:Int->Option (Int⊕(Unit⊕Unit)))
  (hin:∀(i:Nat) (h1:i<a.length) (h2:i<b.length),body (i:Int)=some (if decide (a[i]=b[i])=true then .inl (bw ((i:Int)+1))else .inr (.inl ()))) (hend:body (a.length:Int)=some (.inr (.inr ()))) {k:Unit⊕Unit->Option Bool} (g1:k (.inl ())=some false) (g2:k (.inr ())=some true):
  (if((a.length:Int)!=(b.length:Int))=true then some false else(loop body 0).bind k)=some (decide (a=b)):=by
 by_cases hl:a.length=b.length
 ·rw[vay (by simp[hl]),EP hl (by unfold mi at ha;omega) body (.inl ()) (.inr ()) hin hend]
  by_cases he:a=b
  ·simp only[he,decide_true,if_true,vab];exact g2
  ·simp only[he,decide_false,vaL,if_false,vab];exact g1
 ·rw[vaD (by simp;omega),decide_eq_false (λhe=>hl (by rw[he]))]
theorem NH{a b:List ai}(ha:a.length<=mi):lq a b=some (decide (a=b)):=by
 unfold lq kN
 refine Mb ha _ (λi h1 h2=>?_) ?_ rfl rfl
 ·show dR a b (i:Int)=_
  unfold dR
  rw[vaD (by simpa using h1),bu a i h1]
  simp only[vab]
  rw[bu b i h2]
  simp only[vab]
  by_cases he:a[i]=b[i]<;>simp[he]
 ·show dR a b (a.length:Int)=_
  unfold dR
  rw[vay (by simp)]
theorem NJ{R:ae->ae->Option Bool}{a b:List ae}(ha:a.length<=mi)(h:∀x∈a,∀y∈b,R x y=some (decide (x=y))):lr R a b=some (decide (a=b)):=by
 unfold lr kO
 refine Mb ha _ (λi h1 h2=>?_) ?_ rfl rfl
 ·show dS R a b (i:Int)=_
  unfold dS
  rw[vaD (by simpa using h1),bu a i h1]
  simp only[vab]
  rw[bu b i h2]
  simp only[vab]
  rw[h _ (vaJ h1) _ (vaJ h2)]
  simp only[vab]
  by_cases he:a[i]=b[i]<;>simp[he]
 ·show dS R a b (a.length:Int)=_
  unfold dS
  rw[vay (by simp)]
theorem wt{a b:ae}:a=b↔a.Op=b.Op/\a.Name=b.Name/\a.Names=b.Names/\a.Pred=b.Pred/\a.Preds=b.Preds/\a.Args=b.Args:=by
 obtain⟨o,n,xs,ns,p,ps⟩:=a
 obtain⟨o',n',xs',ns',p',ps'⟩:=b
 constructor
 ·rintro h;cases h;exact⟨rfl,rfl,rfl,rfl,rfl,rfl⟩
 ·rintro⟨h1,h2,h3,h4,h5,h6⟩
  cases h1;cases h2;cases h3;cases h4;cases h5;cases h6;rfl
abbrev Pa(t:ae):Prop:=yr t<=mi/\KH (λp=>nP p<=mi) t
theorem Mq{t a:ae}(h:Pa t)(ha:a∈t.Args):Pa a:=⟨vax (Nat.le_of_lt (Oj ha)) h.1,Og h.2 ha⟩
theorem NM(a b:ae)(ha:Pa a)(hb:Pa b):rC a b=some (decide (a=b)):=by
 refine wb (F:=nO) (λx=>yr x.1) (λx=>Pa x.1/\Pa x.2) (λx=>decide (x.1=x.2)) (λR x hx ih=>?_) (a,b) ⟨ha,hb⟩ (kV ha.1)
 obtain⟨u,v⟩:=x
 obtain⟨hu,hv⟩:Pa u/\Pa v:=hx
 obtain⟨q1,q2,_⟩:=(Eb _ v).1 hv.2
 have l1:=Ok u
 have l2:=Nj u
 have l3:=NE u
 have l0:=hu.1
 show kc (λa a2=>R (a,a2)) u v=some (decide (u=v))
 unfold kc mf
 rw[NH (by omega),Kl _ _ q1,NJ (R:=λa a2=>R (a,a2)) (a:=u.Args) (b:=v.Args) (by omega) (λx hx y hy=>ih (x,y) (Oj hx) ⟨Mq hu hx,Mq hv hy⟩)]
 simp only[vab,XU]
 by_cases hl:u.Preds.length=v.Preds.length
 ·unfold mg
  rw[EP hl (by unfold mi at l0;omega) (λzz=>dt u v zz) (.inl ()) (.inr ()) (λi h1 h2=>?_) ?_]
  ·by_cases h5:u.Preds=v.Preds
   ·simp only[h5,decide_true,if_true,vab]
    by_cases h0:(u.Op !=v.Op||(!(u.Name==v.Name)||(!decide (u.Names=v.Names)||(!decide (u.Pred=v.Pred)||((v.Preds.length:Int)!=(v.Preds.length:Int))))))=true
    ·rw[vaD h0]
     congr 1;symm
     rw[vbn,wt]
     rintro⟨e1,e2,e3,e4,_⟩
     simp[e1,e2,e3,e4]at h0
    ·rw[vay h0]
     congr 1
     simp only[va0,not_or,vaZ,bne_iff_ne,ne_eq,Decidable.not_not,vbW,vaY,vam]at h0
     obtain⟨e1,e2,e3,e4,_⟩:=h0
     rw[Bool.eq_iff_iff]
     simp[wt (a:=u) (b:=v),e1,e2,e3,e4,h5]
   ·simp only[h5,decide_false,vaL,if_false,vab,ite_self]
    congr 1;symm
    rw[vbn,wt]
    rintro⟨_,_,_,_,e5,_⟩
    exact h5 e5
  ·show dt u v (u.Preds.length:Int)=_
   unfold dt
   rw[vay (by simp)]
  ·show dt u v (i:Int)=_
   unfold dt
   rw[vaD (by simpa using h1),bu _ i h1]
   simp only[vab]
   rw[bu _ i h2]
   simp only[vab]
   rw[Kl _ _ (q2 _ (vaJ h2))]
   simp only[vab]
   by_cases he:u.Preds[i]=v.Preds[i]<;>simp[he]
 ·have hx:((u.Preds.length:Int)!=(v.Preds.length:Int))=true:=by simp;omega
  rw[vaD (by simp[hx])]
  congr 1;symm
  rw[vbn,wt]
  rintro⟨_,_,_,_,e5,_⟩
  exact hl (by rw[e5])
mutual
def wT:ae->Nat
 |⟨_,_,xs,_,p,ps⟩=>nP p+nL ps+Kz xs
def Kz:List ae->Nat
 |[]=>0
 |a::xs=>wT a+Kz xs
end
theorem Uc(t:ae):wT t=nP t.Pred+nL t.Preds+Kz t.Args:=by obtain⟨o,n,xs,ns,p,ps⟩:=t;rw[wT];rfl
theorem PZ(l:List ae)(i:Nat)(h:i<l.length):Kz (l.take (i+1))=Kz (l.take i)+wT l[i]:=by
 have key:∀(a b:List ae),Kz (a++b)=Kz a+Kz b:=by
  intro a b
  induction a with
  |nil=>simp[Kz]
  |cons x a ih=>rw[vaV,Kz,Kz,ih];omega
 rw[vbp h,key]
 simp[Kz]
theorem eX{α:Type}{l:List α}{i:Nat}{n most:Int}(h:i<l.length)(hm:n<=most):(if decide ((i:Int)<(l.length:Int))=true then some (decide (n<=most))else some false)=some true:=by
 rw[vaD (by simp;omega),vce hm]
theorem dz{α:Type}{l:List α}{i:Nat}{n most:Int}(h:i=l.length\/¬n<=most):(if decide ((i:Int)<(l.length:Int))=true then some (decide (n<=most))else some false)=some false:=by
 by_cases hi:i<l.length
 ·rw[vaD (by simp;omega)]
  rcases h with h|h
  ·omega
  ·rw[decide_eq_false h]
 ·rw[vay (by simp;omega)]
theorem nx{α:Type}(l:List α)(hl:l.length<9223372036854775808){body:Int×Int->Option ((Int×Int)⊕Int)}(most:Int)(I:Nat->Int->Prop)
  (hin:∀(i:Nat) (h:i<l.length) n,I i n->n<=most->tot (body (n,(i:Int))) (λr=>∃n',r=.inl (n',bw ((i:Int)+1))/\I (i+1) n'))
  (hout:∀(i:Nat) n,i<=l.length->(i=l.length\/¬n<=most)->body (n,(i:Int))=some (.inr n)) (n:Int) (h0:I 0 n):tot (loop body (n,0)) (λr=>∃i,i<=l.length/\I i r/\(i=l.length\/¬r<=most)):=by
 have key:∀k i n,k+i=l.length->I i n->tot (loop body (n,(i:Int))) (λr=>∃i,i<=l.length/\I i r/\(i=l.length\/¬r<=most)):=by
  intro k
  induction k with
  |zero=>
   intro i n hi hI
   rw[iW,hout i n (by omega) (.inl (by omega))]
   exact bg ⟨i,by omega,hI,.inl (by omega)⟩
  | succ k ih =>
   intro i n hi hI
   by_cases hm:n<=most
   ·obtain⟨r,e,n',rfl,hI'⟩:=hin i (by omega) n hI hm
    rw[iW,e]
    simp only
    rw[bX (by omega) (by omega),show((i:Int)+1)=((i+1:Nat):Int) by omega]
    exact ih (i+1) n' (by omega) hI'
   ·rw[iW,hout i n (by omega) (.inr hm)]
    exact bg ⟨i,by omega,hI,.inr hm⟩
 exact key l.length 0 n (by omega) h0
theorem vH(a b:Nat)(hb:0<b)(ha:a<9223372036854775808):qu .i64 (a:Int) (b:Int)=some ((a / b:Nat):Int):=by
 unfold qu
 rw[vay (by omega)]
 have h:((a:Int).tdiv (b:Int))=((a / b:Nat):Int):=by
  rw[Int.tdiv_eq_ediv_of_nonneg (by omega)];rfl
 rw[h]
 have h2:=vbu a b
 generalize a / b=q at *
 congr 1
 exact bX (by omega) (by omega)
theorem vB(p:ag):ce (aj p)=1+(p.Name.length+1+(1+(aX (p.Kids.map aj)+1+0))):=by
 rw[bK];simp only[ce,pm,sl]
theorem iZ{α:Type}(c:α->List PVal)(l:List α)(i:Nat)(h:i<l.length):aX ((l.take (i+1)).map c)=aX ((l.take i).map c)+ce (c l[i]):=by
 rw[vbp h,vcx]
 have:∀(a b:List (List PVal)),aX (a++b)=aX a+aX b:=by
  intro a
  induction a with
  |nil=>intro b;simp[aX]
  |cons x a ih=>intro b;rw[vaV,aX,ih,aX];omega
 rw[this]
 simp[aX]
theorem cc{α:Type}(c:α->List PVal)(l:List α)(i:Nat):aX ((l.take i).map c)<=aX (l.map c):=by
 have:∀(l:List α) (i:Nat),aX ((l.take i).map c)<=aX (l.map c):=by
  intro l
  induction l with
  |nil=>intro i;simp
  |cons x l ih=>
   intro i
   cases i with
   |zero=>simp[aX]
   |succ i=>have:=ih i;simp only[List.take_succ_cons,vaQ,aX];omega
 exact this l i
theorem dZ{α:Type}(c:α->List PVal)(h:∀x,1<=ce (c x)):∀(l:List α),l.length<=aX (l.map c)
 |[]=>by simp
 |x::l=>by have:=dZ c h l;have:=h x;simp only[vaQ,aX,va2];omega
theorem J7(p:ag):1<=ce (aj p):=by rw[vB];omega
theorem JU(l:List ag):nL (l.take l.length)=nL l:=by rw[vbv]
abbrev jL:Nat:=4000000
structure Tf(l:List ag)(most r:Int):Prop where
 lo:0<=r
 hi:r<=(aX (l.map aj):Int)
 sm:r<=most->(nL l:Int)<=r
theorem QY(l:List ag)(most:Int)(hl:aX (l.map aj)<=jL)(h1: -8000000<=most)(h2:most<=1000000000):tot (AI l most) (Tf l most):=by
 refine oM (F:=ug) (λx=>aX (x.1.map aj)) (λx=>aX (x.1.map aj)<=jL/\-8000000<=x.2/\x.2<=1000000000) (λx r=>Tf x.1 x.2 r) (λR x hx ih=>?_) (l,most) ⟨hl,h1,h2⟩ (kV (vax hl (by decide)))
 obtain⟨l,most⟩:=x
 obtain⟨hl,h1,h2⟩:=hx
 have hl:aX (l.map aj)<=jL:=hl
 have h1: -8000000<=most:=h1
 have h2:most<=1000000000:=h2
 have hlen:=dZ aj J7 l
 show tot (po (λa most=>R (a,most)) l most) _
 unfold po y7
 unfold jL at hl
 refine aK (nx l (by omega) most (λi n=>0<=n/\n<=(aX ((l.take i).map aj):Int)/\(n<=most->(nL (l.take i):Int)<=n)) (λi hi n hI hm=>?_) (λi n _ h=>?_) 0 ⟨by omega,by omega,λ_=>by simp[nL]⟩) (λr hr=>bg ?_)
 ·obtain⟨g1,g2,g3⟩:=hI
  have e:=iZ aj l i hi
  have e2:=cc aj l (i+1)
  have ep:=vB l[i]
  have en:=QN l i hi
  have enp:=Mp l[i]
  show tot (fM (λa most=>R (a,most)) l most n i) _
  unfold fM mS
  rw[eX hi hm,bu l i hi]
  simp only[vab,if_true]
  have hq:=vbu l[i].Name.length 50
  rw[show(50:Int)=((50:Nat):Int)from rfl,vH _ 50 (by omega) (by omega)]
  simp only[vab]
  rw[bX (n:=n+1) (by omega) (by omega),bX (n:=n+1+_) (by omega) (by omega),bX (n:=most - _) (by omega) (by omega)]
  refine aK (ih (l[i].Kids,most - (n+1+((l[i].Name.length / 50:Nat):Int))) (by show _<aX (l.map aj);show aX (l[i].Kids.map aj)<_;omega) ⟨by show aX (l[i].Kids.map aj)<=jL;unfold jL;omega,by show -8000000<=most - _;omega,by show most - _<=1000000000;omega⟩) (λr hr=>?_)
  have q1:=hr.lo
  have q2:r<=(aX (l[i].Kids.map aj):Int):=hr.hi
  have q3:r<=most - (n+1+((l[i].Name.length / 50:Nat):Int))->(nL l[i].Kids:Int)<=r:=hr.sm
  rw[bX (n:=n+1+_+r) (by omega) (by omega)]
  refine bg ⟨_,rfl,by omega,by omega,λhm'=>?_⟩
  have:=q3 (by omega)
  have:=g3 hm
  omega
 ·show fM (λa most=>R (a,most)) l most n i=_
  unfold fM mS
  rw[dz h]
  rfl
 ·obtain⟨i,hi,⟨g1,g2,g3⟩,h⟩:=hr
  have e2:=cc aj l i
  refine⟨g1,by show r<=(aX (l.map aj):Int);omega,λhm=>?_⟩
  have hm:r<=most:=hm
  have:i=l.length:=by
   rcases h with h|h
   ·exact h
   ·exact absurd hm h
  subst this
  rw[JU]at g3
  exact g3 hm
theorem Lp(l:List ae)(i:Nat)(h:i<l.length):jc (l.take (i+1))=jc (l.take i)+yr l[i]:=by
 have ap:∀(a b:List ae),jc (a++b)=jc a+jc b:=by
  intro a
  induction a with
  |nil=>intro b;simp[jc]
  |cons x a ih=>intro b;rw[vaV,jc,ih,jc];omega
 rw[vbp h,ap]
 simp[jc]
theorem E9(t:ae):1<=ce (af t):=by rw[Kc];omega
theorem HP(t:ae):ce (af t)=1+(t.Name.length+1)+(aX (t.Args.map af)+1)+(aX (t.Names.map cS)+1)+ce (aj t.Pred)+(aX (t.Preds.map aj)+1):=by
 rw[Kc,vB];simp only[pm,sl];omega
structure Tg(l:List ae)(most r:Int):Prop where
 lo:0<=r
 hi:r<=(aX (l.map af):Int)
 sm:r<=most->(jc l:Int)<=r/\(Kz l:Int)<=r
theorem MH(l:List ae)(most:Int)(hl:aX (l.map af)<=jL)(h1: -8000000<=most)(h2:most<=1000000000):tot (vU l most) (Tg l most):=by
 refine oM (F:=ui) (λx=>aX (x.1.map af)) (λx=>aX (x.1.map af)<=jL/\-8000000<=x.2/\x.2<=1000000000) (λx r=>Tg x.1 x.2 r) (λR x hx ih=>?_) (l,most) ⟨hl,h1,h2⟩ (kV (vax hl (by decide)))
 obtain⟨l,most⟩:=x
 obtain⟨hl,h1,h2⟩:=hx
 have hl:aX (l.map af)<=jL:=hl
 have h1: -8000000<=most:=h1
 have h2:most<=1000000000:=h2
 have hlen:=dZ af E9 l
 show tot (pp (λa most=>R (a,most)) l most) _
 unfold pp y8
 unfold jL at hl
 refine aK (nx l (by omega) most (λi n=>0<=n/\n<=(aX ((l.take i).map af):Int)/\(n<=most->(jc (l.take i):Int)<=n/\(Kz (l.take i):Int)<=n)) (λi hi n hI hm=>?_) (λi n _ h=>?_) 0 ⟨by omega,by omega,λ_=>by simp[jc,Kz]⟩) (λr hr=>bg ?_)
 ·obtain⟨g1,g2,g3⟩:=hI
  have e:=iZ af l i hi
  have e2:=cc af l (i+1)
  have ep:=HP l[i]
  have epp:=vB l[i].Pred
  have en:=Lp l i hi
  have en2:=PZ l i hi
  have enp:=wd l[i]
  have enp2:=Uc l[i]
  have hns:=Mi l[i].Names
  have hps:=TG l[i].Preds
  have hpl:=IQ l[i].Preds
  show tot (fN (λa most=>R (a,most)) l most n i) _
  unfold fN mT
  rw[eX hi hm,bu l i hi]
  simp only[vab,if_true]
  have hq:=vbu l[i].Name.length 50
  rw[show(50:Int)=((50:Nat):Int)from rfl,vH _ 50 (by omega) (by omega)]
  simp only[vab]
  rw[RK (by simp;omega)]
  simp only[vab]
  refine aK (QY ([l[i].Pred]++l[i].Preds) most (by unfold jL;simp only[List.singleton_append,vaQ,aX];omega) h1 h2) (λrp hp=>?_)
  have p1:=hp.lo
  have p2:rp<=((ce (aj l[i].Pred)+aX (l[i].Preds.map aj):Nat):Int):=by
   have:=hp.hi
   simp only[List.singleton_append,vaQ,aX]at this
   exact this
  have p3:rp<=most->((nP l[i].Pred+nL l[i].Preds:Nat):Int)<=rp:=by
   have:=hp.sm
   simp only[List.singleton_append,nL]at this
   exact this
  rw[bX (n:=n+1) (by omega) (by omega),bX (n:=n+1+_) (by omega) (by omega),bX (n:=n+1+_+_) (by omega) (by omega),bX (n:=n+1+_+_+_) (by omega) (by omega),bX (n:=most - _) (by omega) (by omega)]
  refine aK (ih (l[i].Args,most - (n+1+((l[i].Name.length / 50:Nat):Int)+(l[i].Names.length:Int)+rp)) (by show _<aX (l.map af);show aX (l[i].Args.map af)<_;omega) ⟨by show aX (l[i].Args.map af)<=jL;unfold jL;omega,by show -8000000<=most - _;omega,by show most - _<=1000000000;omega⟩) (λr hr=>?_)
  have q1:=hr.lo
  have q2:r<=(aX (l[i].Args.map af):Int):=hr.hi
  have q3:r<=most - (n+1+((l[i].Name.length / 50:Nat):Int)+(l[i].Names.length:Int)+rp)->(jc l[i].Args:Int)<=r/\(Kz l[i].Args:Int)<=r:=hr.sm
  rw[bX (n:=_+r) (by omega) (by omega)]
  refine bg ⟨_,rfl,by omega,by omega,λhm'=>?_⟩
  have:=q3 (by omega)
  have:=p3 (by omega)
  have:=g3 hm
  have:=O8 l[i].Pred
  omega
 ·show fN (λa most=>R (a,most)) l most n i=_
  unfold fN mT
  rw[dz h]
  rfl
 ·obtain⟨i,hi,⟨g1,g2,g3⟩,h⟩:=hr
  have e2:=cc af l i
  refine⟨g1,by show r<=(aX (l.map af):Int);omega,λhm=>?_⟩
  have hm:r<=most:=hm
  have:i=l.length:=by
   rcases h with h|h
   ·exact h
   ·exact absurd hm h
  subst this
  rw[vbv]at g3
  exact g3 hm
theorem vA(e:aq):ce (ak e)=1+(e.Name.length+1+(1+(aX (e.Kids.map ak)+1+(aX (e.Params.map aQ)+1+(aX (e.Alts.map bq)+1+(aX (e.Types.map af)+1+0)))))):=by
 rw[cb];simp only[ce,pm,sl]
theorem I5(a:fk):ce (bq a)=a.Con.length+1+(aX (a.Names.map cS)+1+ce (ak a.Body)):=by
 obtain⟨c,ns,b⟩:=a
 rw[bq]
 show ce (PVal.str c::sl cS ns::ak b)=_
 simp only[ce,pm,sl];rfl
theorem HO(p:cV):ce (aQ p)=p.Name.length+1+ce (af p.Type_):=by
 show ce (PVal.str p.Name::af p.Type_)=_
 simp only[ce,pm]
theorem J6(e:aq):1<=ce (ak e):=by rw[vA];omega
theorem QW(a:fk):1<=ce (bq a):=by rw[I5];omega
theorem Nz(p:cV):1<=ce (aQ p):=by rw[HO];omega
theorem pS{α:Type}(c:α->List PVal){l:List α}{x:α}(h:x∈l):ce (c x)<=aX (l.map c):=vq (vah.2 ⟨x,h,rfl⟩)
theorem Sr{e x:aq}(h:x∈e.Kids):ce (ak x)<ce (ak e):=by have:=pS ak h;rw[vA e];omega
theorem Sq{e:aq}{a:fk}(h:a∈e.Alts):ce (bq a)<ce (ak e):=by have:=pS bq h;rw[vA e];omega
theorem Pt{e:aq}{a:fk}(h:a∈e.Alts):ce (ak a.Body)<ce (ak e):=by have:=Sq h;have:=I5 a;omega
theorem QO(l:List ai)(most:Int)(hl:aX (l.map cS)<=jL):tot (vT l most) (λr=>0<=r/\r<=(aX (l.map cS):Int)):=by
 unfold vT y6
 unfold jL at hl
 have hlen:=Mi l
 refine aK (nx l (by omega) most (λi n=>0<=n/\n<=(aX ((l.take i).map cS):Int)) (λi hi n hI hm=>?_) (λi n _ h=>?_) 0 ⟨by omega,by omega⟩) (λr hr=>bg ?_)
 ·obtain⟨g1,g2⟩:=hI
  have e:=iZ cS l i hi
  have e2:=cc cS l (i+1)
  have e3:ce (cS l[i])=l[i].length+1:=by simp only[cS,ce,pm]
  show tot (fL l most n i) _
  unfold fL mR
  rw[eX hi hm,bu l i hi]
  simp only[vab,if_true]
  have hq:=vbu l[i].length 50
  rw[show(50:Int)=((50:Nat):Int)from rfl,vH _ 50 (by omega) (by omega)]
  simp only[vab]
  rw[bX (n:=n+1) (by omega) (by omega),bX (n:=n+1+_) (by omega) (by omega)]
  exact bg ⟨_,rfl,by omega,by omega⟩
 ·show fL l most n i=_
  unfold fL mR
  rw[dz h]
  rfl
 ·obtain⟨i,hi,⟨g1,g2⟩,h⟩:=hr
  have e2:=cc cS l i
  exact⟨g1,by omega⟩
theorem Rk(e:aq)(most:Int)(he:ce (ak e)<=jL)(h1: -4000000<=most)(h2:most<=1000000000):tot (y1 e most) (λr=>0<=r/\r<=(ce (ak e):Int)):=by
 refine oM (F:=xO) (λx=>ce (ak x.1)) (λx=>ce (ak x.1)<=jL/\-4000000<=x.2/\x.2<=1000000000) (λx r=>0<=r/\r<=(ce (ak x.1):Int)) (λR x hx ih=>?_) (e,most) ⟨he,h1,h2⟩ (kV (vax he (by decide)))
 obtain⟨e,most⟩:=x
 obtain⟨he,h1,h2⟩:=hx
 have he:ce (ak e)<=jL:=he
 have h1: -4000000<=most:=h1
 have h2:most<=1000000000:=h2
 have hpm:=vA e
 have l1:=dZ aQ Nz e.Params
 have l2:=dZ ak J6 e.Kids
 have l3:=dZ bq QW e.Alts
 show tot (rz (λe most=>R (e,most)) e most) (λr=>0<=r/\r<=(ce (ak e):Int))
 unfold rz
 unfold jL at he
 have hq:=vbu e.Name.length 50
 rw[show(50:Int)=((50:Nat):Int)from rfl,vH _ 50 (by omega) (by omega)]
 simp only[vab]
 refine aK (MH e.Types most (by unfold jL;omega) (by omega) h2) (λrt ht=>?_)
 have t1:=ht.lo
 have t2:=ht.hi
 rw[bX (n:=1+_) (by omega) (by omega),bX (n:=1+_+rt) (by omega) (by omega)]
 generalize hb:(1:Int)+((e.Name.length / 50:Nat):Int)+rt=b0
 have b1:0<=b0:=by omega
 have b2:b0<=((1+e.Name.length+aX (e.Types.map af):Nat):Int):=by omega
 refine aK (R:=λr=>0<=r/\r<=b0+(aX (e.Params.map aQ):Int)) ?_ (λr1 hr1=>?_)
 ·unfold BV
  refine(nx e.Params (by omega) most (λi n=>0<=n/\n<=b0+(aX ((e.Params.take i).map aQ):Int)) (λi hi n hI hm=>?_) (λi n _ h=>?_) b0 ⟨b1,by simp[aX]⟩).mono (λr hr=>?_)
  ·obtain⟨g1,g2⟩:=hI
   have e1:=iZ aQ e.Params i hi
   have e2:=cc aQ e.Params (i+1)
   have e3:=HO e.Params[i]
   show tot (gQ most e n i) _
   unfold gQ ph
   rw[eX hi hm,bu e.Params i hi]
   simp only[vab,if_true]
   have hq:=vbu e.Params[i].Name.length 50
   rw[show(50:Int)=((50:Nat):Int)from rfl,vH _ 50 (by omega) (by omega)]
   simp only[vab]
   refine aK (MH [e.Params[i].Type_] most (by unfold jL;simp only[vaQ,vbO,aX];omega) (by omega) h2) (λrp hp=>?_)
   have p1:=hp.lo
   have p2:rp<=((ce (af e.Params[i].Type_)+0:Nat):Int):=by
    have:=hp.hi
    simp only[vaQ,vbO,aX]at this
    exact this
   rw[bX (n:=n+1) (by omega) (by omega),bX (n:=n+1+_) (by omega) (by omega),bX (n:=n+1+_+_) (by omega) (by omega)]
   exact bg ⟨_,rfl,by omega,by omega⟩
  ·show gQ most e n i=_
   unfold gQ ph
   rw[dz h]
   rfl
  ·obtain⟨i,hi,⟨g1,g2⟩,h⟩:=hr
   have e2:=cc aQ e.Params i
   exact⟨g1,by omega⟩
 obtain⟨c1,c2⟩:=hr1
 refine aK (R:=λr=>0<=r/\r<=r1+(aX (e.Kids.map ak):Int)) ?_ (λr2 hr2=>?_)
 ·unfold BW
  refine(nx e.Kids (by omega) most (λi n=>0<=n/\n<=r1+(aX ((e.Kids.take i).map ak):Int)) (λi hi n hI hm=>?_) (λi n _ h=>?_) r1 ⟨c1,by simp[aX]⟩).mono (λr hr=>?_)
  ·obtain⟨g1,g2⟩:=hI
   have e1:=iZ ak e.Kids i hi
   have e2:=cc ak e.Kids (i+1)
   have hk:=Sr (vaJ hi)
   show tot (gR (λe most=>R (e,most)) most e n i) _
   unfold gR pj
   rw[eX hi hm,bu e.Kids i hi]
   simp only[vab,if_true]
   rw[bX (n:=most - n) (by omega) (by omega)]
   refine aK (ih (e.Kids[i],most - n) hk ⟨by show ce (ak e.Kids[i])<=jL;unfold jL;omega,by show -4000000<=most - n;omega,by show most - n<=1000000000;omega⟩) (λr hr=>?_)
   have q1:0<=r:=hr.1
   have q2:r<=(ce (ak e.Kids[i]):Int):=hr.2
   rw[bX (n:=n+r) (by omega) (by omega)]
   exact bg ⟨_,rfl,by omega,by omega⟩
  ·show gR (λe most=>R (e,most)) most e n i=_
   unfold gR pj
   rw[dz h]
   rfl
  ·obtain⟨i,hi,⟨g1,g2⟩,h⟩:=hr
   have e2:=cc ak e.Kids i
   exact⟨g1,by omega⟩
 obtain⟨d1,d2⟩:=hr2
 refine aK (R:=λr=>0<=r/\r<=r2+(aX (e.Alts.map bq):Int)) ?_ (λr3 hr3=>bg ⟨hr3.1,by have:=hr3.2;omega⟩)
 unfold BX
 refine(nx e.Alts (by omega) most (λi n=>0<=n/\n<=r2+(aX ((e.Alts.take i).map bq):Int)) (λi hi n hI hm=>?_) (λi n _ h=>?_) r2 ⟨d1,by simp[aX]⟩).mono (λr hr=>?_)
 ·obtain⟨g1,g2⟩:=hI
  have e1:=iZ bq e.Alts i hi
  have e2:=cc bq e.Alts (i+1)
  have e3:=I5 e.Alts[i]
  have hk:=Pt (vaJ hi)
  show tot (gS (λe most=>R (e,most)) most e n i) _
  unfold gS pk
  rw[eX hi hm,bu e.Alts i hi]
  simp only[vab,if_true]
  have hq:=vbu e.Alts[i].Con.length 50
  rw[show(50:Int)=((50:Nat):Int)from rfl,vH _ 50 (by omega) (by omega)]
  simp only[vab]
  refine aK (QO e.Alts[i].Names most (by unfold jL;omega)) (λrn hn=>?_)
  obtain⟨n1,n2⟩:=hn
  rw[bX (n:=n+1) (by omega) (by omega),bX (n:=n+1+_) (by omega) (by omega),bX (n:=n+1+_+_) (by omega) (by omega),bX (n:=most - _) (by omega) (by omega)]
  refine aK (ih (e.Alts[i].Body,most - (n+1+((e.Alts[i].Con.length / 50:Nat):Int)+rn)) hk ⟨by show ce (ak e.Alts[i].Body)<=jL;unfold jL;omega,by show -4000000<=most - _;omega,by show most - _<=1000000000;omega⟩) (λr hr=>?_)
  have q1:0<=r:=hr.1
  have q2:r<=(ce (ak e.Alts[i].Body):Int):=hr.2
  rw[bX (n:=_+r) (by omega) (by omega)]
  exact bg ⟨_,rfl,by omega,by omega⟩
 ·show gS (λe most=>R (e,most)) most e n i=_
  unfold gS pk
  rw[dz h]
  rfl
 ·obtain⟨i,hi,⟨g1,g2⟩,h⟩:=hr
  have e2:=cc bq e.Alts i
  exact⟨g1,by omega⟩
theorem KI:vX=some true:=by kernel_rfl
theorem i6(v:aa):ce (ac v)=1+(1+(v.Name.length+1+(aX (v.Kids.map ac)+1+(aX (v.Params.map cS)+1+(aX (v.Body.map ak)+1+(aX (v.Binds.map aW)+1+0)))))):=by
 rw[bz];simp only[ce,pm,sl]
theorem E5(b:aD):ce (aW b)=b.Name.length+1+ce (ac b.Value):=by
 obtain⟨n,v⟩:=b
 rw[aW]
 show ce (PVal.str n::ac v)=_
 simp only[ce,pm];rfl
theorem NA(v:aa):1<=ce (ac v):=by rw[i6];omega
theorem Pu(b:aD):1<=ce (aW b):=by rw[E5];omega
theorem zS{v x:aa}(h:x∈v.Kids):ce (ac x)<ce (ac v):=by have:=pS ac h;rw[i6 v];omega
theorem Pv{v:aa}{x:aD}(h:x∈v.Binds):ce (ac x.Value)<ce (ac v):=by have:=pS aW h;have:=E5 x;rw[i6 v];omega
theorem Pw{v:aa}{x:aq}(h:x∈v.Body):ce (ak x)<ce (ac v):=by have:=pS ak h;rw[i6 v];omega
theorem BS(v:aa):v.Kids.length<ce (ac v):=by have:=dZ ac NA v.Kids;rw[i6 v];omega
theorem LT(v:aa):v.Binds.length<ce (ac v):=by have:=dZ aW Pu v.Binds;rw[i6 v];omega
theorem NZ(v:aa):v.Body.length<ce (ac v):=by have:=dZ ak J6 v.Body;rw[i6 v];omega
theorem Kv(v:aa):v.Params.length<ce (ac v):=by have:=Mi v.Params;rw[i6 v];omega
theorem Rc{α:Type}(l:List α)(hl:l.length<9223372036854775808){body:Int×Int->Option ((Int×Int)⊕Int)}(I:Nat->Int->Prop)
  (hin:∀(i:Nat) (h:i<l.length) n,I i n->tot (body (n,(i:Int))) (λr=>∃n',r=.inl (n',bw ((i:Int)+1))/\I (i+1) n'))
  (hout:∀n,body (n,(l.length:Int))=some (.inr n)) (n:Int) (h0:I 0 n):tot (loop body (n,0)) (I l.length):=by
 have key:∀k i n,k+i=l.length->I i n->tot (loop body (n,(i:Int))) (I l.length):=by
  intro k
  induction k with
  |zero=>
   intro i n hi hI
   obtain rfl:i=l.length:=by omega
   rw[iW,hout n]
   exact bg hI
  |succ k ih=>
   intro i n hi hI
   obtain⟨r,e,n',rfl,hI'⟩:=hin i (by omega) n hI
   rw[iW,e]
   simp only
   rw[bX (by omega) (by omega),show((i:Int)+1)=((i+1:Nat):Int) by omega]
   exact ih (i+1) n' (by omega) hI'
 exact key l.length 0 n (by omega) h0
theorem Td(v:aa)(most:Int)(he:ce (ac v)<=jL)(h1: -4000000<=most)(h2:most<=1000000000):tot (D5 v most) (λr=>0<=r/\r<=(ce (ac v):Int)):=by
 refine oM (F:=xX) (λx=>ce (ac x.1)) (λx=>ce (ac x.1)<=jL/\-4000000<=x.2/\x.2<=1000000000) (λx r=>0<=r/\r<=(ce (ac x.1):Int)) (λR x hx ih=>?_) (v,most) ⟨he,h1,h2⟩ (kV (vax he (by decide)))
 obtain⟨v,most⟩:=x
 obtain⟨he,h1,h2⟩:=hx
 have he:ce (ac v)<=jL:=he
 have h1: -4000000<=most:=h1
 have h2:most<=1000000000:=h2
 have hpm:=i6 v
 have l1:=NZ v
 have l2:=BS v
 have l3:=LT v
 have l4:=Kv v
 have l5:=Mi v.Params
 show tot (rF (λv most=>R (v,most)) v most) (λr=>0<=r/\r<=(ce (ac v):Int))
 unfold rF
 unfold jL at he
 have hq:=vbu v.Name.length 50
 rw[show(50:Int)=((50:Nat):Int)from rfl,vH _ 50 (by omega) (by omega)]
 simp only[vab]
 rw[bX (n:=1+_) (by omega) (by omega),bX (n:=1+_+_) (by omega) (by omega)]
 generalize hb:(1:Int)+((v.Name.length / 50:Nat):Int)+(v.Params.length:Int)=b0
 have b1:0<=b0:=by omega
 have b2:b0<=((1+v.Name.length+aX (v.Params.map cS):Nat):Int):=by omega
 refine aK (R:=λr=>0<=r/\r<=b0+(aX (v.Body.map ak):Int)) ?_ (λr1 hr1=>?_)
 ·unfold BZ
  refine(Rc v.Body (by omega) (λi n=>0<=n/\n<=b0+(aX ((v.Body.take i).map ak):Int)) (λi hi n hI=>?_) (λn=>?_) b0 ⟨b1,by simp[aX]⟩).mono (λr hr=>?_)
  ·obtain⟨g1,g2⟩:=hI
   have e1:=iZ ak v.Body i hi
   have e2:=cc ak v.Body (i+1)
   have hk:=Pw (vaJ hi)
   show tot (gT most v n i) _
   unfold gT
   rw[vaD (by simpa using hi),bu v.Body i hi]
   simp only[vab]
   refine aK (Rk v.Body[i] most (by unfold jL;omega) h1 h2) (λr hr=>?_)
   obtain⟨q1,q2⟩:=hr
   rw[bX (n:=n+r) (by omega) (by omega)]
   exact bg ⟨_,rfl,by omega,by omega⟩
  ·show gT most v n (v.Body.length:Int)=_
   unfold gT
   rw[vay (by simp)]
  ·rw[vbv]at hr
   exact hr
 obtain⟨c1,c2⟩:=hr1
 refine aK (R:=λr=>0<=r/\r<=r1+(aX (v.Kids.map ac):Int)) ?_ (λr2 hr2=>?_)
 ·unfold B3
  refine(nx v.Kids (by omega) most (λi n=>0<=n/\n<=r1+(aX ((v.Kids.take i).map ac):Int)) (λi hi n hI hm=>?_) (λi n _ h=>?_) r1 ⟨c1,by simp[aX]⟩).mono (λr hr=>?_)
  ·obtain⟨g1,g2⟩:=hI
   have e1:=iZ ac v.Kids i hi
   have e2:=cc ac v.Kids (i+1)
   have hk:=zS (vaJ hi)
   show tot (gU (λv most=>R (v,most)) most v n i) _
   unfold gU pw
   rw[eX hi hm,bu v.Kids i hi]
   simp only[vab,if_true]
   rw[bX (n:=most - n) (by omega) (by omega)]
   refine aK (ih (v.Kids[i],most - n) hk ⟨by show ce (ac v.Kids[i])<=jL;unfold jL;omega,by show -4000000<=most - n;omega,by show most - n<=1000000000;omega⟩) (λr hr=>?_)
   have q1:0<=r:=hr.1
   have q2:r<=(ce (ac v.Kids[i]):Int):=hr.2
   rw[bX (n:=n+r) (by omega) (by omega)]
   exact bg ⟨_,rfl,by omega,by omega⟩
  ·show gU (λv most=>R (v,most)) most v n i=_
   unfold gU pw
   rw[dz h]
   rfl
  ·obtain⟨i,hi,⟨g1,g2⟩,h⟩:=hr
   have e2:=cc ac v.Kids i
   exact⟨g1,by omega⟩
 obtain⟨d1,d2⟩:=hr2
 refine aK (R:=λr=>0<=r/\r<=r2+(aX (v.Binds.map aW):Int)) ?_ (λr3 hr3=>bg ⟨hr3.1,by have:=hr3.2;omega⟩)
 unfold B4
 refine(nx v.Binds (by omega) most (λi n=>0<=n/\n<=r2+(aX ((v.Binds.take i).map aW):Int)) (λi hi n hI hm=>?_) (λi n _ h=>?_) r2 ⟨d1,by simp[aX]⟩).mono (λr hr=>?_)
 ·obtain⟨g1,g2⟩:=hI
  have e1:=iZ aW v.Binds i hi
  have e2:=cc aW v.Binds (i+1)
  have e3:=E5 v.Binds[i]
  have hk:=Pv (vaJ hi)
  show tot (gV (λv most=>R (v,most)) most v n i) _
  unfold gV px
  rw[eX hi hm,bu v.Binds i hi]
  simp only[vab,if_true]
  have hq:=vbu v.Binds[i].Name.length 50
  rw[show(50:Int)=((50:Nat):Int)from rfl,vH _ 50 (by omega) (by omega)]
  simp only[vab]
  rw[bX (n:=n+1) (by omega) (by omega),bX (n:=n+1+_) (by omega) (by omega),bX (n:=most - _) (by omega) (by omega)]
  refine aK (ih (v.Binds[i].Value,most - (n+1+((v.Binds[i].Name.length / 50:Nat):Int))) hk ⟨by show ce (ac v.Binds[i].Value)<=jL;unfold jL;omega,by show -4000000<=most - _;omega,by show most - _<=1000000000;omega⟩) (λr hr=>?_)
  have q1:0<=r:=hr.1
  have q2:r<=(ce (ac v.Binds[i].Value):Int):=hr.2
  rw[bX (n:=_+r) (by omega) (by omega)]
  exact bg ⟨_,rfl,by omega,by omega⟩
 ·show gV (λv most=>R (v,most)) most v n i=_
  unfold gV px
  rw[dz h]
  rfl
 ·obtain⟨i,hi,⟨g1,g2⟩,h⟩:=hr
  have e2:=cc aW v.Binds i
  exact⟨g1,by omega⟩
theorem Sz(v:aa)(he:ce (ac v)<=jL):∃b,vY v=some b:=by
 obtain⟨r,h,_⟩:=Td v 300 he (by omega) (by omega)
 exact⟨_,by unfold vY;rw[h];rfl⟩
def Cc(m:al)(name:ai):Option (aN×Nat):=m.Datas.findSome? λd=>(d.Cons.findIdx? (λc=>c.Name==name)).map λj=>(d,j)
abbrev T5:Type:=Int×ai×List ai×List bC×List aH
def K9(x:aN×Nat):T5:=((x.2:Int),x.1.Name,x.1.Vars,x.1.Preds,x.1.Cons)
theorem K8{m:al}{name:ai}{d:aN}{j:Nat}(h:Cc m name=some (d,j)):d∈m.Datas/\j<d.Cons.length:=by
 unfold Cc at h
 obtain⟨d',hd,he⟩:=List.exists_of_findSome?_eq_some h
 cases hf:d'.Cons.findIdx? (λc=>c.Name==name)with
 |none=>rw[hf]at he;cases he
 |some k=>
  rw[hf]at he
  cases he
  exact⟨hd,(List.findIdx?_eq_some_iff_getElem.1 hf).1⟩
theorem Q6(m:al)(name:ai)(h1:m.Datas.length<9223372036854775808)(h2:∀d∈m.Datas,d.Cons.length<9223372036854775808):fG m name=some ((Cc m name).elim (⟨[],[],[],[]⟩,0,false) (λx=>(x.1,(x.2:Int),true))):=by
 unfold fG ql Cc
 have:=EO m.Datas h1 (λi=>(i,[],[],[],[])) (λ(zz:Int×ai×(List ai)×(List bC)×(List aH))=>eG name m.Datas (m.Datas.length:Int) zz.1 zz.2.1 zz.2.2.1 zz.2.2.2.1 zz.2.2.2.2)
  (λd=>((d.Cons.findIdx? (λc=>c.Name==name)).map λj=>(Sum.inl (K9 (d,j)):T5⊕(ai×(List ai)×(List bC)×(List aH))))) (.inr ([],[],[],[])) (λi hi=>?_) ?_
 ·rw[this]
  simp only[vab]
  have key:∀l:List aN,(l.findSome? (λd=>((d.Cons.findIdx? (λc=>c.Name==name)).map λj=>(Sum.inl (K9 (d,j)):T5⊕(ai×(List ai)×(List bC)×(List aH))))))=(l.findSome? λd=>(d.Cons.findIdx? (λc=>c.Name==name)).map λj=>(d,j)).map (λx=>Sum.inl (K9 x)):=by
   intro l
   induction l with
   |nil=>rfl
   |cons d l ih=>
    rw[List.findSome?_cons,List.findSome?_cons,ih]
    cases d.Cons.findIdx? (λc=>c.Name==name)<;>rfl
  rw[key]
  cases(m.Datas.findSome? λd=>(d.Cons.findIdx? (λc=>c.Name==name)).map λj=>(d,j))<;>rfl
 ·show eG name m.Datas (m.Datas.length:Int) (i:Int) [] [] [] []=_
  unfold eG
  rw[vaD (by simp;omega),bu _ i hi]
  simp only[vab]
  have hd:=h2 _ (vaJ hi)
  generalize m.Datas[i]=d at hd
  unfold qm
  have:=EN d.Cons hd (λi=>(i,[],[],[],[])) (λ(zz:Int×ai×(List ai)×(List bC)×(List aH))=>eH name d.Cons (d.Cons.length:Int) zz.1 zz.2.1 zz.2.2.1 zz.2.2.2.1 zz.2.2.2.2)
   (λc=>c.Name==name) (λj=>Sum.inl (j:Int)) (.inr ([],[],[],[])) (λk hk=>?_) ?_
  ·rw[this]
   cases d.Cons.findIdx? (λc=>c.Name==name)<;>rfl
  ·show eH name d.Cons (d.Cons.length:Int) (k:Int) [] [] [] []=_
   unfold eH
   rw[vaD (by simp;omega),bu _ k hk]
   simp only[vab]
   by_cases hn:(d.Cons[k].Name==name)=true<;>simp[hn]
  ·show eH name d.Cons (d.Cons.length:Int) (d.Cons.length:Int) [] [] [] []=_
   unfold eH
   rw[vay (by simp)]
 ·show eG name m.Datas (m.Datas.length:Int) (m.Datas.length:Int) [] [] [] []=_
  unfold eG
  rw[vay (by simp)]
theorem Q2(m:al)(name:ai)(h1:m.Datas.length<9223372036854775808)(h2:∀d∈m.Datas,d.Cons.length<9223372036854775808):vS m name=some ((Cc m name).elim (⟨[],[],[],[]⟩,0,false) (λx=>(x.1,(x.2:Int),true))):=by
 unfold vS xP Cc
 have:=EO m.Datas h1 (λi=>(i,[],[],[],[])) (λ(zz:Int×ai×(List ai)×(List bC)×(List aH))=>gr name m zz.1 zz.2.1 zz.2.2.1 zz.2.2.2.1 zz.2.2.2.2)
  (λd=>((d.Cons.findIdx? (λc=>c.Name==name)).map λj=>(Sum.inl (K9 (d,j)):T5⊕(ai×(List ai)×(List bC)×(List aH))))) (.inr ([],[],[],[])) (λi hi=>?_) ?_
 ·rw[this]
  simp only[vab]
  have key:∀l:List aN,(l.findSome? (λd=>((d.Cons.findIdx? (λc=>c.Name==name)).map λj=>(Sum.inl (K9 (d,j)):T5⊕(ai×(List ai)×(List bC)×(List aH))))))=(l.findSome? λd=>(d.Cons.findIdx? (λc=>c.Name==name)).map λj=>(d,j)).map (λx=>Sum.inl (K9 x)):=by
   intro l
   induction l with
   |nil=>rfl
   |cons d l ih=>
    rw[List.findSome?_cons,List.findSome?_cons,ih]
    cases d.Cons.findIdx? (λc=>c.Name==name)<;>rfl
  rw[key]
  cases(m.Datas.findSome? λd=>(d.Cons.findIdx? (λc=>c.Name==name)).map λj=>(d,j))<;>rfl
 ·show gr name m (i:Int) [] [] [] []=_
  unfold gr
  rw[vaD (by simp;omega)]
  have hd:=h2 _ (vaJ hi)
  unfold xQ
  have:=EN m.Datas[i].Cons hd (λi=>(i,[],[],[],[])) (λ(zz:Int×ai×(List ai)×(List bC)×(List aH))=>gu name m (i:Int) zz.1 zz.2.1 zz.2.2.1 zz.2.2.2.1 zz.2.2.2.2)
   (λc=>c.Name==name) (λj=>Sum.inl (K9 (m.Datas[i],j))) (.inr ([],[],[],[])) (λk hk=>?_) ?_
  ·rw[this]
   cases m.Datas[i].Cons.findIdx? (λc=>c.Name==name)<;>rfl
  ·show gu name m (i:Int) (k:Int) [] [] [] []=_
   unfold gu
   rw[bu _ i hi]
   simp only[vab]
   rw[vaD (by simp;omega),bu _ k hk]
   simp only[vab]
   by_cases hn:(m.Datas[i].Cons[k].Name==name)=true
   ·simp only[hn,if_true];rfl
   ·simp only[hn,if_false,vaL]
  ·show gu name m (i:Int) (m.Datas[i].Cons.length:Int) [] [] [] []=_
   unfold gu
   rw[bu _ i hi]
   simp only[vab]
   rw[vay (by simp)]
 ·show gr name m (m.Datas.length:Int) [] [] [] []=_
  unfold gr
  rw[vay (by simp)]
end Go.Proofs.YtjddnhkahpfhdaaGreatDoor
