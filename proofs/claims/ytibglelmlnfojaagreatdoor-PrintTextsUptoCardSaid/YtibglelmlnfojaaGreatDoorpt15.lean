/- PROVED: a part of the proof. Conditions: none. -/
import Derived.Test.YtibglelmlnfojaaGreatDoorpt14
set_option linter.unusedSimpArgs false
set_option linter.unusedVariables false
noncomputable section
namespace Go.Proofs.YtibglelmlnfojaaGreatDoor
open Go Go.Proofs.Tryz
set_option linter.unusedVariables false
set_option maxRecDepth 100000
noncomputable def qb7:Code:=f15.body.getD .skip
def qrL:List Nat:=[]
theorem qiy:ZF Pg qrL 15 f15 qb7:=zf call15 func15 rfl mixed
section
variable(m:hX)(t20:(List As))(t21:Int)(t22:Int)(m2:(List Int))(m3:Bool)
def mE:aK:=aQ 107 [(1,.eptr (cb m)),(4,.bptr 1 0),(20,sl lm t20),(21,.int .i64 t21),(22,.int .i64 t22)] [.dead,.cells [.nptr 1 76,sl (cI .u8) m2,.bool m3] [(1,5)]] []
def sj(o:(List Int)×Bool):aK:=aQ 107 [(1,.eptr (cb m)),(4,.bptr 1 0)] [.dead,.cells [.nptr 1 76,sl (cI .u8) o.1,.bool o.2] [(1,5)]] []
instance iS_print_Module_L1:KS 0 (mE m t20 t21 t22 m2 m3):=⟨rfl,(bD (aI (eA (iA m)) (aI (cZ rfl) (aI (up (aZ Md t20)) (aI vzz (aI vzz vzz)))))),(aI vzz (aI (aI (cZ rfl) (aI (up (aZ (U1 .u8) m2)) (aI vzz vzz))) trivial))⟩
instance iO_print_Module_L1{o:((List Int)×Bool)}:KS 0 (sj m o):=⟨rfl,(bD (aI (eA (iA m)) (aI (cZ rfl) trivial))),(aI vzz (aI (aI (cZ rfl) (aI (up (aZ (U1 .u8) o.1)) (aI vzz vzz))) trivial))⟩
def BV:Option ((Int×(List Int)×Bool)⊕(((List Int)×Bool))):=
 if decide (t22<t21)=true then
  (cX t20 t22).bind λx2=>
  (B4 x2 m2 m3).bind λr3=>
  (al ([qg]:List ae) r3.1 r3.2).bind λr4=>
  some (.inl (dt (t22+1),r4,r3.2))
 else
  some (.inr (m2,m3))
def FQ:Option (((List Int)×Bool)):=loop (λ(zz:Int×(List Int)×Bool)=>BV t20 t21 zz.1 zz.2.1 zz.2.2) (t22,m2,m3)
theorem Jh:OL 0 (cA qb7 119) (BV t20 t21 t22 m2 m3) (λ(zz:Int×(List Int)×Bool)=>mE m t20 t21 zz.1 zz.2.1 zz.2.2) (λ_=>.exit 0) (sj m) (mE m t20 t21 t22 m2 m3):=qiy.lx<|
 tF (tb λx2 bx2=>tb λr3 br3=>tb λr4 br4=>tv (qlJ.ia (k:=.i64) bx2)<|tv (qeT x2)<|tx qqH<|tx (qc3 x2)<|tv (qcA x2 [])<|tc [1] (H9 _ br3)<|tv (bJ [qg] 1 rfl)<|tc [1] (ak _ br4)<|tE)<|tE
theorem K2:OJ 0 (.loop (cA qb7 119)) (FQ t20 t21 t22 m2 m3) (.exit 0) (sj m) (mE m t20 t21 t22 m2 m3):=y1 λ_=>Jh _ _ _ _ _ _
end
section
variable(m:hX)(t34:(List qx))(t35:Int)(t36:Int)(m2:(List Int))(m3:Bool)
def mF:aK:=aQ 107 [(1,.eptr (cb m)),(4,.bptr 1 0),(34,sl iy t34),(35,.int .i64 t35),(36,.int .i64 t36)] [.dead,.cells [.nptr 1 76,sl (cI .u8) m2,.bool m3] [(1,5)]] []
def sk(o:(List Int)×Bool):aK:=aQ 107 [(1,.eptr (cb m)),(4,.bptr 1 0)] [.dead,.cells [.nptr 1 76,sl (cI .u8) o.1,.bool o.2] [(1,5)]] []
instance iS_print_Module_L2:KS 0 (mF m t34 t35 t36 m2 m3):=⟨rfl,(bD (aI (eA (iA m)) (aI (cZ rfl) (aI (up (aZ Iz t34)) (aI vzz (aI vzz vzz)))))),(aI vzz (aI (aI (cZ rfl) (aI (up (aZ (U1 .u8) m2)) (aI vzz vzz))) trivial))⟩
instance iO_print_Module_L2{o:((List Int)×Bool)}:KS 0 (sk m o):=⟨rfl,(bD (aI (eA (iA m)) (aI (cZ rfl) trivial))),(aI vzz (aI (aI (cZ rfl) (aI (up (aZ (U1 .u8) o.1)) (aI vzz vzz))) trivial))⟩
def BW:Option ((Int×(List Int)×Bool)⊕(((List Int)×Bool))):=
 if decide (t36<t35)=true then
  (cX t34 t36).bind λx7=>
  (Ad x7 m2 m3).bind λr8=>
  (al ([qg]:List ae) r8.1 r8.2).bind λr9=>
  some (.inl (dt (t36+1),r9,r8.2))
 else
  some (.inr (m2,m3))
def FT:Option (((List Int)×Bool)):=loop (λ(zz:Int×(List Int)×Bool)=>BW t34 t35 zz.1 zz.2.1 zz.2.2) (t36,m2,m3)
theorem Ji:OL 0 (cA qb7 247) (BW t34 t35 t36 m2 m3) (λ(zz:Int×(List Int)×Bool)=>mF m t34 t35 zz.1 zz.2.1 zz.2.2) (λ_=>.exit 2) (sk m) (mF m t34 t35 t36 m2 m3):=qiy.lx<|
 tF (tb λx7 bx7=>tb λr8 br8=>tb λr9 br9=>tv (qlK.ia (k:=.i64) bx7)<|tv (qcz x7)<|tx qqI<|tx (qav x7)<|tv (qai x7 [])<|tc [1] (Gq _ br8)<|tv (bJ [qg] 1 rfl)<|tc [1] (ak _ br9)<|tE)<|tE
theorem K3:OJ 0 (.loop (cA qb7 247)) (FT t34 t35 t36 m2 m3) (.exit 2) (sk m) (mF m t34 t35 t36 m2 m3):=y1 λ_=>Ji _ _ _ _ _ _
end
section
variable(m:hX)(t48:(List gd))(t49:Int)(t50:Int)(m2:(List Int))(m3:Bool)
def mG:aK:=aQ 107 [(1,.eptr (cb m)),(4,.bptr 1 0),(48,sl dZ t48),(49,.int .i64 t49),(50,.int .i64 t50)] [.dead,.cells [.nptr 1 76,sl (cI .u8) m2,.bool m3] [(1,5)]] []
def sm(o:(List Int)×Bool):aK:=aQ 107 [(1,.eptr (cb m)),(4,.bptr 1 0)] [.dead,.cells [.nptr 1 76,sl (cI .u8) o.1,.bool o.2] [(1,5)]] []
instance iS_print_Module_L3:KS 0 (mG m t48 t49 t50 m2 m3):=⟨rfl,(bD (aI (eA (iA m)) (aI (cZ rfl) (aI (up (aZ ym t48)) (aI vzz (aI vzz vzz)))))),(aI vzz (aI (aI (cZ rfl) (aI (up (aZ (U1 .u8) m2)) (aI vzz vzz))) trivial))⟩
instance iO_print_Module_L3{o:((List Int)×Bool)}:KS 0 (sm m o):=⟨rfl,(bD (aI (eA (iA m)) (aI (cZ rfl) trivial))),(aI vzz (aI (aI (cZ rfl) (aI (up (aZ (U1 .u8) o.1)) (aI vzz vzz))) trivial))⟩
def BX:Option ((Int×(List Int)×Bool)⊕(((List Int)×Bool))):=
 if decide (t50<t49)=true then
  (cX t48 t50).bind λx12=>
  (tL x12 m2 m3).bind λr13=>
  (al ([qg]:List ae) r13.1 r13.2).bind λr14=>
  some (.inl (dt (t50+1),r14,r13.2))
 else
  some (.inr (m2,m3))
def FU:Option (((List Int)×Bool)):=loop (λ(zz:Int×(List Int)×Bool)=>BX t48 t49 zz.1 zz.2.1 zz.2.2) (t50,m2,m3)
theorem Jj:OL 0 (cA qb7 503) (BX t48 t49 t50 m2 m3) (λ(zz:Int×(List Int)×Bool)=>mG m t48 t49 zz.1 zz.2.1 zz.2.2) (λ_=>.exit 4) (sm m) (mG m t48 t49 t50 m2 m3):=qiy.lx<|
 tF (tb λx12 bx12=>tb λr13 br13=>tb λr14 br14=>tv (qlL.ia (k:=.i64) bx12)<|tv (W3 x12)<|tx qqG<|tx (UF x12)<|tv (Ux x12 [])<|tc [1] (CM _ br13)<|tv (bJ [qg] 1 rfl)<|tc [1] (ak _ br14)<|tE)<|tE
theorem K4:OJ 0 (.loop (cA qb7 503)) (FU t48 t49 t50 m2 m3) (.exit 4) (sm m) (mG m t48 t49 t50 m2 m3):=y1 λ_=>Jj _ _ _ _ _ _
end
section
variable(m:hX)(t62:(List iP))(t63:Int)(t64:Int)(m2:(List Int))(m3:Bool)
def mH:aK:=aQ 107 [(1,.eptr (cb m)),(4,.bptr 1 0),(62,sl eI t62),(63,.int .i64 t63),(64,.int .i64 t64)] [.dead,.cells [.nptr 1 76,sl (cI .u8) m2,.bool m3] [(1,5)]] []
def sn(o:(List Int)×Bool):aK:=aQ 107 [(1,.eptr (cb m)),(4,.bptr 1 0)] [.dead,.cells [.nptr 1 76,sl (cI .u8) o.1,.bool o.2] [(1,5)]] []
instance iS_print_Module_L4:KS 0 (mH m t62 t63 t64 m2 m3):=⟨rfl,(bD (aI (eA (iA m)) (aI (cZ rfl) (aI (up (aZ BE t62)) (aI vzz (aI vzz vzz)))))),(aI vzz (aI (aI (cZ rfl) (aI (up (aZ (U1 .u8) m2)) (aI vzz vzz))) trivial))⟩
instance iO_print_Module_L4{o:((List Int)×Bool)}:KS 0 (sn m o):=⟨rfl,(bD (aI (eA (iA m)) (aI (cZ rfl) trivial))),(aI vzz (aI (aI (cZ rfl) (aI (up (aZ (U1 .u8) o.1)) (aI vzz vzz))) trivial))⟩
def BY:Option ((Int×(List Int)×Bool)⊕(((List Int)×Bool))):=
 if decide (t64<t63)=true then
  (cX t62 t64).bind λx17=>
  (wt x17 m2 m3).bind λr18=>
  (al ([qg]:List ae) r18.1 r18.2).bind λr19=>
  some (.inl (dt (t64+1),r19,r18.2))
 else
  some (.inr (m2,m3))
def FV:Option (((List Int)×Bool)):=loop (λ(zz:Int×(List Int)×Bool)=>BY t62 t63 zz.1 zz.2.1 zz.2.2) (t64,m2,m3)
theorem Jk:OL 0 (cA qb7 1015) (BY t62 t63 t64 m2 m3) (λ(zz:Int×(List Int)×Bool)=>mH m t62 t63 zz.1 zz.2.1 zz.2.2) (λ_=>.exit 6) (sn m) (mH m t62 t63 t64 m2 m3):=qiy.lx<|
 tF (tb λx17 bx17=>tb λr18 br18=>tb λr19 br19=>tv (qlM.ia (k:=.i64) bx17)<|tv (YU x17)<|tx qlt<|tx (Xm x17)<|tv (W4 x17 [])<|tc [1] (Dz _ br18)<|tv (bJ [qg] 1 rfl)<|tc [1] (ak _ br19)<|tE)<|tE
theorem K5:OJ 0 (.loop (cA qb7 1015)) (FV t62 t63 t64 m2 m3) (.exit 6) (sn m) (mH m t62 t63 t64 m2 m3):=y1 λ_=>Jk _ _ _ _ _ _
end
section
variable(m:hX)(t76:(List At))(t77:Int)(t78:Int)(m2:(List Int))(m3:Bool)
def mI:aK:=aQ 107 [(1,.eptr (cb m)),(4,.bptr 1 0),(76,sl kc t76),(77,.int .i64 t77),(78,.int .i64 t78)] [.dead,.cells [.nptr 1 76,sl (cI .u8) m2,.bool m3] [(1,5)]] []
def sq(o:(List Int)×Bool):aK:=aQ 107 [(1,.eptr (cb m)),(4,.bptr 1 0)] [.dead,.cells [.nptr 1 76,sl (cI .u8) o.1,.bool o.2] [(1,5)]] []
instance iS_print_Module_L5:KS 0 (mI m t76 t77 t78 m2 m3):=⟨rfl,(bD (aI (eA (iA m)) (aI (cZ rfl) (aI (up (aZ Mf t76)) (aI vzz (aI vzz vzz)))))),(aI vzz (aI (aI (cZ rfl) (aI (up (aZ (U1 .u8) m2)) (aI vzz vzz))) trivial))⟩
instance iO_print_Module_L5{o:((List Int)×Bool)}:KS 0 (sq m o):=⟨rfl,(bD (aI (eA (iA m)) (aI (cZ rfl) trivial))),(aI vzz (aI (aI (cZ rfl) (aI (up (aZ (U1 .u8) o.1)) (aI vzz vzz))) trivial))⟩
def BZ:Option ((Int×(List Int)×Bool)⊕(((List Int)×Bool))):=
 if decide (t78<t77)=true then
  (cX t76 t78).bind λx22=>
  (sB x22 m2 m3).bind λr23=>
  (al ([qg]:List ae) r23.1 r23.2).bind λr24=>
  some (.inl (dt (t78+1),r24,r23.2))
 else
  some (.inr (m2,m3))
def FW:Option (((List Int)×Bool)):=loop (λ(zz:Int×(List Int)×Bool)=>BZ t76 t77 zz.1 zz.2.1 zz.2.2) (t78,m2,m3)
theorem Jl:OL 0 (cA qb7 2039) (BZ t76 t77 t78 m2 m3) (λ(zz:Int×(List Int)×Bool)=>mI m t76 t77 zz.1 zz.2.1 zz.2.2) (λ_=>.exit 8) (sq m) (mI m t76 t77 t78 m2 m3):=qiy.lx<|
 tF (tb λx22 bx22=>tb λr23 br23=>tb λr24 br24=>tv (qlN.ia (k:=.i64) bx22)<|tv (qeU x22)<|tx qlu<|tx (qc4 x22)<|tv (qcB x22 [])<|tc [1] (AS _ br23)<|tv (bJ [qg] 1 rfl)<|tc [1] (ak _ br24)<|tE)<|tE
theorem K6:OJ 0 (.loop (cA qb7 2039)) (FW t76 t77 t78 m2 m3) (.exit 8) (sq m) (mI m t76 t77 t78 m2 m3):=y1 λ_=>Jl _ _ _ _ _ _
end
section
variable(t90:(List j3))(t91:Int)(t92:Int)(m:(List Int))(m2:Bool)
def mJ:aK:=aQ 107 [(4,.bptr 1 0),(90,sl ct t90),(91,.int .i64 t91),(92,.int .i64 t92)] [.dead,.cells [.nptr 1 76,sl (cI .u8) m,.bool m2] [(1,5)]] []
def su(o:(List Int)×Bool):aK:=aQ 107 [(4,.bptr 1 0)] [.dead,.cells [.nptr 1 76,sl (cI .u8) o.1,.bool o.2] [(1,5)]] []
instance iS_print_Module_L6:KS 0 (mJ t90 t91 t92 m m2):=⟨rfl,(bD (aI (cZ rfl) (aI (up (aZ Me t90)) (aI vzz (aI vzz vzz))))),(aI vzz (aI (aI (cZ rfl) (aI (up (aZ (U1 .u8) m)) (aI vzz vzz))) trivial))⟩
instance iO_print_Module_L6{o:((List Int)×Bool)}:KS 0 (su o):=⟨rfl,(bD (aI (cZ rfl) trivial)),(aI vzz (aI (aI (cZ rfl) (aI (up (aZ (U1 .u8) o.1)) (aI vzz vzz))) trivial))⟩
def B3:Option ((Int×(List Int)×Bool)⊕(((List Int)×Bool))):=
 if decide (t92<t91)=true then
  (cX t90 t92).bind λx27=>
  (uu x27 m m2).bind λr28=>
  (al ([qg]:List ae) r28.1 r28.2).bind λr29=>
  some (.inl (dt (t92+1),r29,r28.2))
 else
  some (.inr (m,m2))
def FX:Option (((List Int)×Bool)):=loop (λ(zz:Int×(List Int)×Bool)=>B3 t90 t91 zz.1 zz.2.1 zz.2.2) (t92,m,m2)
theorem Jm:OL 0 (cA qb7 4087) (B3 t90 t91 t92 m m2) (λ(zz:Int×(List Int)×Bool)=>mJ t90 t91 zz.1 zz.2.1 zz.2.2) (λ_=>.exit 10) su (mJ t90 t91 t92 m m2):=qiy.lx<|
 tF (tb λx27 bx27=>tb λr28 br28=>tb λr29 br29=>tv (qjF.ia (k:=.i64) bx27)<|tv (qbh x27)<|tx qqE<|tx (qfi x27)<|tv (qeV x27 [])<|tc [1] (xP _ br28)<|tv (bJ [qg] 1 rfl)<|tc [1] (ak _ br29)<|tE)<|tE
theorem K7:OJ 0 (.loop (cA qb7 4087)) (FX t90 t91 t92 m m2) (.exit 10) su (mJ t90 t91 t92 m m2):=y1 λ_=>Jm _ _ _ _ _
end
def MT(m:hX):Option (ae×Int):=
 (FQ m.Datas (m.Datas.length:Int) 0 ([]:List Int) false).bind λo5=>
 (FT m.Classes (m.Classes.length:Int) 0 o5.1 o5.2).bind λo10=>
 (FU m.Instances (m.Instances.length:Int) 0 o10.1 o10.2).bind λo15=>
 (FV m.Measures (m.Measures.length:Int) 0 o15.1 o15.2).bind λo20=>
 (FW m.Quals (m.Quals.length:Int) 0 o20.1 o20.2).bind λo25=>
 (FX m.Defs (m.Defs.length:Int) 0 o25.1 o25.2).bind λo30=>
 (sy o30.1 o30.2).bind λr31=>
 some (r31.1,r31.2)
theorem QN{m:hX}:OV 15 [.agg (cb m)] (MT m) (λr=>.tuple [.str r.1,.int .i64 r.2]) []:=qiy.v<|
 tb λo5 bo5=>tb λo10 bo10=>tb λo15 bo15=>tb λo20 bo20=>tb λo25 bo25=>tb λo30 bo30=>tb λr31 br31=>te (qat m)<|QT (show cx Pg 76 []=some (.agg [.val (.pointer none),sl (cI .u8) ([]:List Int),.bool false]) by kernel_rfl) (show wT Pg 76 [] [(1,5)]from⟨[.val (.pointer none),.val eO,.bool false],by kernel_rfl,(aI rfl vzz)⟩)<|ty (ql6 [.val (.pointer none),sl (cI .u8) ([]:List Int),.bool false])<|tw (HF m)<|bL (qlJ.ln m.Datas)<|bT (K2 m m.Datas (m.Datas.length:Int) 0 ([]:List Int) false _ bo5)<|tw (HG m)<|bL (qlK.ln m.Classes)<|bT (K3 m m.Classes (m.Classes.length:Int) 0 o5.1 o5.2 _ bo10)<|tw (HH m)<|bL (qlL.ln m.Instances)<|bT (K4 m m.Instances (m.Instances.length:Int) 0 o10.1 o10.2 _ bo15)<|tw (HJ m)<|bL (qlM.ln m.Measures)<|bT (K5 m m.Measures (m.Measures.length:Int) 0 o15.1 o15.2 _ bo20)<|tw (HK m)<|bL (qlN.ln m.Quals)<|bT (K6 m m.Quals (m.Quals.length:Int) 0 o20.1 o20.2 _ bo25)<|tw (HL m)<|bL (qjF.ln m.Defs)<|bT (K7 m.Defs (m.Defs.length:Int) 0 o25.1 o25.2 _ bo30)<|tc [1] (wq _ br31)<|tE
noncomputable def qtc:Code:=f23.body.getD .skip
def qrP:List Nat:=[]
theorem qsJ:ZF Pg qrP 23 f23 qtc:=zf call23 func23 rfl mixed
def fj(k0:(List Int))(k02:Bool):Option ae:=
 if k02=true then
  some ([]:ae)
 else
  (Iw k0 k02).bind λr2=>
  some r2
theorem wv{k0:(List Int)}{k02:Bool}:OG 23 [.bptr 0 0] [] [.cells [.nptr 0 76,sl (cI .u8) k0,.bool k02] [(1,5)]] (fj k0 k02) (λr=>.str r) [] (λr=>[.cells [.nptr 0 76,sl (cI .u8) k0,.bool k02] []]):=qsJ.g 1<|
 ts<|tF tE<|tb λr2 br2=>tc [0] (L5 br2)<|tE
noncomputable def qs7:Code:=f10.body.getD .skip
def qrI:List Nat:=[]
theorem qsE:ZF Pg qrI 10 f10 qs7:=zf call10 func10 rfl mixed
def lu(e:ag):Option ae:=
 (lD e ([]:List Int) false).bind λr1=>
 (fj r1.2 r1.1).bind λr2=>
 some r2
theorem ig{e:ag}:OV 10 [.agg (ah e)] (lu e) (λr=>.str r) []:=qsE.v<|
 tb λr1 br1=>tb λr2 br2=>te (bQ e)<|QT (show cx Pg 76 []=some (.agg [.val (.pointer none),sl (cI .u8) ([]:List Int),.bool false]) by kernel_rfl) (show wT Pg 76 [] [(1,5)]from⟨[.val (.pointer none),.val eO,.bool false],by kernel_rfl,(aI rfl vzz)⟩)<|ty (ql6 [.val (.pointer none),sl (cI .u8) ([]:List Int),.bool false])<|tv (aF e)<|tc [1] (tP _ br1)<|tc [1] (wv _ br2)<|tE
noncomputable def b7:Code:=Tryz.f7.body.getD .skip
def A7:List Nat:=[]
theorem Z7:ZF Pg A7 7 Tryz.f7 b7:=zf call7 func7 rfl mixed
def Ab(t:af):Option ae:=
 (dU t ([]:List Int) false).bind λr1=>
 (fj r1.2 r1.1).bind λr2=>
 some r2
theorem pG{t:af}:OV 7 [.agg (ai t)] (Ab t) (λr=>.str r) []:=Z7.v<|
 tb λr1 br1=>tb λr2 br2=>te (dR t)<|QT (show cx Pg 76 []=some (.agg [.val (.pointer none),sl (cI .u8) ([]:List Int),.bool false]) by kernel_rfl) (show wT Pg 76 [] [(1,5)]from⟨[.val (.pointer none),.val eO,.bool false],by kernel_rfl,(aI rfl vzz)⟩)<|ty (ql6 [.val (.pointer none),sl (cI .u8) ([]:List Int),.bool false])<|tv (bo t)<|tc [1] (e7 _ br1)<|tc [1] (wv _ br2)<|tE
noncomputable def qs9:Code:=f12.body.getD .skip
def qrK:List Nat:=[]
theorem qsG:ZF Pg qrK 12 f12 qs9:=zf call12 func12 rfl mixed
def yW:Option Bool:=
 (Hx ([120]:ae)).bind λr1=>
 (qaQ 0).bind λr2=>
 (Et 17 ([r1,r2]:List ag)).bind λr3=>
 (Hx ([120]:ae)).bind λr4=>
 (Et 15 ([r4]:List ag)).bind λr5=>
 (Hx ([120]:ae)).bind λr6=>
 (qaQ 1).bind λr7=>
 (Et 10 ([r6,r7]:List ag)).bind λr8=>
 (Et 8 ([r3,r5,r8]:List ag)).bind λr9=>
 (Hx ([120]:ae)).bind λr10=>
 (Vu (⟨([102]:ae),([([120]:ae)]:List ae),r10,0,false,(⟨([]:List ae),([]:List DN),([]:List TR),([]:List xm),(⟨0,([]:ae),([]:List af),([]:List ae),(⟨0,([]:ae),0,([]:List aa)⟩:aa),([]:List aa)⟩:af),([]:List aa)⟩:Nn)⟩:j3)).bind λr11=>
 (qaQ (-3)).bind λr12=>
 (MT (⟨([]:List As),([]:List qx),([]:List gd),([]:List iP),([]:List At),([(⟨([99]:ae),([]:List ae),r12,0,false,(⟨([]:List ae),([]:List DN),([]:List TR),([]:List xm),(⟨0,([]:ae),([]:List af),([]:List ae),(⟨0,([]:ae),0,([]:List aa)⟩:aa),([]:List aa)⟩:af),([]:List aa)⟩:Nn)⟩:j3)]:List j3)⟩:hX)).bind λr13=>
 (lu r9).bind λr14=>
 if (r14 == ([105,102,32,120,32,60,32,48,32,116,104,101,110,32,45,120,32,101,108,115,101,32,120,32,43,32,49]:ae)) = true then
  (Hx ([97]:ae)).bind λr17=>
  (Hx ([98]:ae)).bind λr18=>
  (Et 11 ([r17,r18]:List ag)).bind λr19=>
  (Hx ([99]:ae)).bind λr20=>
  (Et 11 ([r19,r20]:List ag)).bind λr21=>
  (lu r21).bind λr22=>
  if (r22 == ([97,32,45,32,98,32,45,32,99]:ae)) = true then
   (Hx ([97]:ae)).bind λr25=>
   (Hx ([98]:ae)).bind λr26=>
   (Hx ([99]:ae)).bind λr27=>
   (Et 11 ([r26,r27]:List ag)).bind λr28=>
   (Et 11 ([r25,r28]:List ag)).bind λr29=>
   (lu r29).bind λr30=>
   if (r30 == ([97,32,45,32,40,98,32,45,32,99,41]:ae)) = true then
    (Ab (⟨6,([]:ae),([(⟨1,([]:ae),([]:List af),([]:List ae),(⟨0,([]:ae),0,([]:List aa)⟩:aa),([]:List aa)⟩:af),(⟨1,([]:ae),([]:List af),([]:List ae),(⟨12,([]:ae),0,([(⟨3,([120]:ae),0,([]:List aa)⟩:aa),(⟨3,([118]:ae),0,([]:List aa)⟩:aa)]:List aa)⟩:aa),([]:List aa)⟩:af),(⟨2,([]:ae),([]:List af),([]:List ae),(⟨0,([]:ae),0,([]:List aa)⟩:aa),([]:List aa)⟩:af)]:List af),([([120]:ae),([121]:ae)]:List ae),(⟨0,([]:ae),0,([]:List aa)⟩:aa),([]:List aa)⟩:af)).bind λr33=>
    if (r33 == ([40,120,32,58,32,73,110,116,44,32,121,32,58,32,123,118,32,58,32,73,110,116,32,124,32,120,32,60,32,118,125,41,32,45,62,32,66,111,111,108]:ae)) = true then
     (lu (⟨0,([]:ae),0,([]:List ag),([]:List cP),([]:List cK),([]:List af)⟩:ag)).bind λr36=>
     if (r36 == ([]:ae)) = true then
      if (r11.1 == ([100,101,102,32,102,32,40,120,41,32,61,32,120]:ae)) = true then
       if(r11.2==0)=true then
        if(r13.1==([100,101,102,32,99,32,61,32,40,45,51,41,59,10]:ae))=true then
         some (r13.2==0)
        else
         some false
       else
        some false
      else
       some false
     else
      some false
    else
     some false
   else
    some false
  else
   some false
 else
  some false
theorem yj:OV 12 [] yW (λr=>.bool r) []:=qsG.v<|
 tb λr1 br1=>tb λr2 br2=>tb λr3 br3=>tb λr4 br4=>tb λr5 br5=>tb λr6 br6=>tb λr7 br7=>tb λr8 br8=>tb λr9 br9=>tb λr10 br10=>tb λr11 br11=>tb λr12 br12=>tb λr13 br13=>tb λr14 br14=>bG (px _ br1)<|bG (Sa _ br2)<|tv (dJ.mk' (v:=ta) lW ([r1,r2]:List ag) 2 (by kernel_rfl))<|bG (qH _ br3)<|bG (px _ br4)<|tv (dJ.mk' (v:=ta) lW ([r4]:List ag) 1 (by kernel_rfl))<|bG (qH _ br5)<|bG (px _ br6)<|bG (Sa _ br7)<|tv (dJ.mk' (v:=ta) lW ([r6,r7]:List ag) 2 (by kernel_rfl))<|bG (qH _ br8)<|tv (dJ.mk' (v:=ta) lW ([r3,r5,r8]:List ag) 3 (by kernel_rfl))<|bG (qH _ br9)<|tx UO<|ty (cp r9)<|QT (Mb 3 ([120]:ae)) (L6 3 ([120]:ae))<|QT (Mb 3 ([118]:ae)) (L6 3 ([118]:ae))<|tv (dT.mk' (v:=qbU) qc0 ([(⟨3,([120]:ae),0,([]:List aa)⟩:aa),(⟨3,([118]:ae),0,([]:List aa)⟩:aa)]:List aa) 2 (by kernel_rfl))<|tv (WD 12 ([(⟨3,([120]:ae),0,([]:List aa)⟩:aa),(⟨3,([118]:ae),0,([]:List aa)⟩:aa)]:List aa))<|tx M0<|tx (fT (⟨12,([]:ae),0,([(⟨3,([120]:ae),0,([]:List aa)⟩:aa),(⟨3,([118]:ae),0,([]:List aa)⟩:aa)]:List aa)⟩:aa))<|tv (bJ [([120]:ae),([121]:ae)] 2 rfl)<|QT (Sj 1) (Sf 1)<|tv (fS (⟨12,([]:ae),0,([(⟨3,([120]:ae),0,([]:List aa)⟩:aa),(⟨3,([118]:ae),0,([]:List aa)⟩:aa)]:List aa)⟩:aa) [])<|QT (WE 1 (⟨12,([]:ae),0,([(⟨3,([120]:ae),0,([]:List aa)⟩:aa),(⟨3,([118]:ae),0,([]:List aa)⟩:aa)]:List aa)⟩:aa)) (Wx 1 (⟨12,([]:ae),0,([(⟨3,([120]:ae),0,([]:List aa)⟩:aa),(⟨3,([118]:ae),0,([]:List aa)⟩:aa)]:List aa)⟩:aa))<|QT (Sj 2) (Sf 2)<|tv (cu.mk' (v:=qbV) qc1 ([(⟨1,([]:ae),([]:List af),([]:List ae),(⟨0,([]:ae),0,([]:List aa)⟩:aa),([]:List aa)⟩:af),(⟨1,([]:ae),([]:List af),([]:List ae),(⟨12,([]:ae),0,([(⟨3,([120]:ae),0,([]:List aa)⟩:aa),(⟨3,([118]:ae),0,([]:List aa)⟩:aa)]:List aa)⟩:aa),([]:List aa)⟩:af),(⟨2,([]:ae),([]:List af),([]:List ae),(⟨0,([]:ae),0,([]:List aa)⟩:aa),([]:List aa)⟩:af)]:List af) 3 (by kernel_rfl))<|QT (Sk 6 ([([120]:ae),([121]:ae)]:List ae) ([(⟨1,([]:ae),([]:List af),([]:List ae),(⟨0,([]:ae),0,([]:List aa)⟩:aa),([]:List aa)⟩:af),(⟨1,([]:ae),([]:List af),([]:List ae),(⟨12,([]:ae),0,([(⟨3,([120]:ae),0,([]:List aa)⟩:aa),(⟨3,([118]:ae),0,([]:List aa)⟩:aa)]:List aa)⟩:aa),([]:List aa)⟩:af),(⟨2,([]:ae),([]:List af),([]:List ae),(⟨0,([]:ae),0,([]:List aa)⟩:aa),([]:List aa)⟩:af)]:List af)) (Sg 6 ([([120]:ae),([121]:ae)]:List ae) ([(⟨1,([]:ae),([]:List af),([]:List ae),(⟨0,([]:ae),0,([]:List aa)⟩:aa),([]:List aa)⟩:af),(⟨1,([]:ae),([]:List af),([]:List ae),(⟨12,([]:ae),0,([(⟨3,([120]:ae),0,([]:List aa)⟩:aa),(⟨3,([118]:ae),0,([]:List aa)⟩:aa)]:List aa)⟩:aa),([]:List aa)⟩:af),(⟨2,([]:ae),([]:List af),([]:List ae),(⟨0,([]:ae),0,([]:List aa)⟩:aa),([]:List aa)⟩:af)]:List af))<|tx K8<|ty (dp (⟨6,([]:ae),([(⟨1,([]:ae),([]:List af),([]:List ae),(⟨0,([]:ae),0,([]:List aa)⟩:aa),([]:List aa)⟩:af),(⟨1,([]:ae),([]:List af),([]:List ae),(⟨12,([]:ae),0,([(⟨3,([120]:ae),0,([]:List aa)⟩:aa),(⟨3,([118]:ae),0,([]:List aa)⟩:aa)]:List aa)⟩:aa),([]:List aa)⟩:af),(⟨2,([]:ae),([]:List af),([]:List ae),(⟨0,([]:ae),0,([]:List aa)⟩:aa),([]:List aa)⟩:af)]:List af),([([120]:ae),([121]:ae)]:List ae),(⟨0,([]:ae),0,([]:List aa)⟩:aa),([]:List aa)⟩:af))<|tv (bJ [([120]:ae)] 1 rfl)<|bG (px _ br10)<|QT (Ui ([102]:ae) ([([120]:ae)]:List ae) r10) (Ug ([102]:ae) ([([120]:ae)]:List ae) r10)<|bG (Xu _ br11)<|bG (Sa _ br12)<|QT (Yh ([99]:ae) r12) (Yf ([99]:ae) r12)<|tv (qjF.mk' (v:=qf2) qfg ([(⟨([99]:ae),([]:List ae),r12,0,false,(⟨([]:List ae),([]:List DN),([]:List TR),([]:List xm),(⟨0,([]:ae),([]:List af),([]:List ae),(⟨0,([]:ae),0,([]:List aa)⟩:aa),([]:List aa)⟩:af),([]:List aa)⟩:Nn)⟩:j3)]:List j3) 1 (by kernel_rfl))<|QT (WB ([(⟨([99]:ae),([]:List ae),r12,0,false,(⟨([]:List ae),([]:List DN),([]:List TR),([]:List xm),(⟨0,([]:ae),([]:List af),([]:List ae),(⟨0,([]:ae),0,([]:List aa)⟩:aa),([]:List aa)⟩:af),([]:List aa)⟩:Nn)⟩:j3)]:List j3)) (Wv ([(⟨([99]:ae),([]:List ae),r12,0,false,(⟨([]:List ae),([]:List DN),([]:List TR),([]:List xm),(⟨0,([]:ae),([]:List af),([]:List ae),(⟨0,([]:ae),0,([]:List aa)⟩:aa),([]:List aa)⟩:af),([]:List aa)⟩:Nn)⟩:j3)]:List j3))<|bG (QN _ br13)<|have pp16:=λ{X Y Z} (r:PV _ X Y Z)=>tv (im r9 [])<|bG (ig _ br14)<|r;tf (λc15=>tb λr17 br17=>tb λr18 br18=>tb λr19 br19=>tb λr20 br20=>tb λr21 br21=>tb λr22 br22=>have pp24:=λ{X Y Z} (r:PV _ X Y Z)=>pp16<|tg 4 c15<|bG (px _ br17)<|bG (px _ br18)<|tv (dJ.mk' (v:=ta) lW ([r17,r18]:List ag) 2 (by kernel_rfl))<|bG (qH _ br19)<|bG (px _ br20)<|tv (dJ.mk' (v:=ta) lW ([r19,r20]:List ag) 2 (by kernel_rfl))<|bG (qH _ br21)<|bG (ig _ br22)<|r;tf (λc23=>tb λr25 br25=>tb λr26 br26=>tb λr27 br27=>tb λr28 br28=>tb λr29 br29=>tb λr30 br30=>have pp32:=λ{X Y Z} (r:PV _ X Y Z)=>pp24<|tg 15 c23<|bG (px _ br25)<|bG (px _ br26)<|bG (px _ br27)<|tv (dJ.mk' (v:=ta) lW ([r26,r27]:List ag) 2 (by kernel_rfl))<|bG (qH _ br28)<|tv (dJ.mk' (v:=ta) lW ([r25,r28]:List ag) 2 (by kernel_rfl))<|bG (qH _ br29)<|bG (ig _ br30)<|r;tf (λc31=>tb λr33 br33=>have pp35:=λ{X Y Z} (r:PV _ X Y Z)=>pp32<|tg 26 c31<|tv (ed (⟨6,([]:ae),([(⟨1,([]:ae),([]:List af),([]:List ae),(⟨0,([]:ae),0,([]:List aa)⟩:aa),([]:List aa)⟩:af),(⟨1,([]:ae),([]:List af),([]:List ae),(⟨12,([]:ae),0,([(⟨3,([120]:ae),0,([]:List aa)⟩:aa),(⟨3,([118]:ae),0,([]:List aa)⟩:aa)]:List aa)⟩:aa),([]:List aa)⟩:af),(⟨2,([]:ae),([]:List af),([]:List ae),(⟨0,([]:ae),0,([]:List aa)⟩:aa),([]:List aa)⟩:af)]:List af),([([120]:ae),([121]:ae)]:List ae),(⟨0,([]:ae),0,([]:List aa)⟩:aa),([]:List aa)⟩:af) [])<|bG (pG _ br33)<|r;tf (λc34=>tb λr36 br36=>have pp38:=λ{X Y Z} (r:PV _ X Y Z)=>pp35<|tg 31 c34<|QT (Kw) (Kt)<|bG (ig _ br36)<|r;tf (λc37=>have pp40:=λ{X Y Z} (r:PV _ X Y Z)=>pp38<|tg 36 c37<|r;tf (λc39=>have pp42:=λ{X Y Z} (r:PV _ X Y Z)=>pp40<|tg 40 c39<|r;tf (λc41=>have pp44:=λ{X Y Z} (r:PV _ X Y Z)=>pp42<|tg 44 c41<|r;tf (λc43=>pp44<|tg 48 c43<|tE) λc43=>pp44<|tg 48 c43<|tE) λc41=>pp42<|tg 44 c41<|tE) λc39=>pp40<|tg 40 c39<|tE) λc37=>pp38<|tg 36 c37<|tE) λc34=>pp35<|tg 31 c34<|tE) λc31=>pp32<|tg 26 c31<|tE) λc23=>pp24<|tg 15 c23<|tE) λc15=>pp16<|tg 4 c15<|tE
abbrev Bz:=(ag->Option Int)
abbrev Gz(R:Bz):Prop:=∀(e:ag),OV 115 [.agg (ah e)] (R e) (λr=>.int .i64 r) []
noncomputable def qiM:Code:=f115.body.getD .skip
def qml:List Nat:=[]
theorem qkc:ZF Pg qml 115 f115 qiM:=zf call115 func115 rfl mixed
section
variable(R143:Bz)(v:waD)(n:Int)(i:Int)
def zj:aK:=aQ 23 [(3,.int .i64 n),(4,sl ah v),(5,.int .i64 i)] [.dead] [((4,0),36)]
def G4(o:Int):aK:=aQ 23 [(3,.int .i64 o)] [.dead] []
def iq:Option ((Int×Int)⊕(Int)):=
 if decide (i<(v.length:Int))=true then
  (cX v i).bind λx3=>
  (R143 x3).bind λr4=>
  some (.inl ((if r4>n then r4 else n),dt (i+1)))
 else
  some (.inr n)
def xZ:Option Int:=loop (λ(zz:Int×Int)=>iq R143 v zz.1 zz.2) (n,i)
theorem NG(hR143:Gz R143):OL 0 (cA qiM 247) (iq R143 v n i) (λ(zz:Int×Int)=>zj v zz.1 zz.2) (λ_=>.exit 0) G4 (zj v n i):=qkc.l<|
 bL (dJ.ln v)<|tF (tb λx3 bx3=>tb λr4 br4=>tv (dJ.ia (k:=.i64) bx3)<|tv (aF x3)<|bG (hR143 _ _ br4)<|tE)<|tE
theorem Qk(hR143:Gz R143):OJ 0 (.loop (cA qiM 247)) (xZ R143 v n i) (.exit 0) G4 (zj v n i):=y1 λ_=>NG _ _ _ _ hR143
end
def Bh(R143:Bz)(e:ag):Option Int:=
 (tY e).bind λr1=>
 (xZ R143 r1 0 0).bind λo5=>
 some (dt (o5+1))
theorem T8(R143:Bz)(hR143:Gz R143){e:ag}:OV 115 [.agg (ah e)] (Bh R143 e) (λr=>.int .i64 r) []:=qkc.v<|
 tb λr1 br1=>tb λo5 bo5=>te (bQ e)<|tv (aF e)<|bG (Cq _ br1)<|bT (Qk R143 r1 0 0 hR143 _ bo5)<|tE
def G3:(ag->Option Int)->(ag)->Option Int:=λ(rec:ag->Option Int) (x:ag)=>Bh (λe=>rec e) x
def NF(e:ag):Option Int:=pA G3 e
theorem We{e:ag}:OV 115 [.agg (ah e)] (NF e) (λr=>.int .i64 r) []:=Do λ_ h=>
 dN (F:=G3) (M:=λ(x:ag) (r:Int)=>CC Pg GE 115 [.agg (ah x)] (.int .i64 r) []) (λrec hrec x r h=>T8 _ (λe=>Do λr h=>hrec e r h) _ h) h
abbrev Es:=(ag->Option Int)
abbrev Ke(R:Es):Prop:=∀(e:ag),OV 116 [.agg (ah e)] (R e) (λr=>.int .i64 r) []
noncomputable def qgF:Code:=f215.body.getD .skip
def qnD:List Nat:=[]
theorem qgl:ZF Pg qnD 215 f215 qgF:=zf call215 func215 rfl mixed
section
variable(t3:Int)
def Bp:Option Bool:=
 if(t3==1)=true then
  some (t3==1)
 else
  some (t3==2)
theorem R5:OJ 0 (cA qgF 54) (Bp t3) .normal (λo=>aQ 55 [(2,.bptr 0 0),(3,.int .i64 t3),(4,.bool o)] [.cells [.bool false,.bool false,.int .i64 0,.int .i64 0,.bool false,.bool false,.bool false,.bool false,.bool false] []] []) (aQ 55 [(2,.bptr 0 0),(3,.int .i64 t3)] [.cells [.bool false,.bool false,.int .i64 0,.int .i64 0,.bool false,.bool false,.bool false,.bool false,.bool false] []] []):=qgl.j<|
 tF tE<|tE
end
section
variable(t3:Int)
def Bq:Option Bool:=
 if(t3==10)=true then
  some (t3==10)
 else if(t3==11)=true then
  some (t3==11)
 else if(t3==12)=true then
  some (t3==12)
 else if(t3==13)=true then
  some (t3==13)
 else if(t3==14)=true then
  some (t3==14)
 else if(t3==16)=true then
  some (t3==16)
 else if(t3==17)=true then
  some (t3==17)
 else if(t3==18)=true then
  some (t3==18)
 else if(t3==19)=true then
  some (t3==19)
 else if(t3==20)=true then
  some (t3==20)
 else
  some (t3==24)
theorem R6:OJ 0 (cA qgF 3670014) (Bq t3) .normal (λo=>aQ 55 [(2,.bptr 0 0),(3,.int .i64 t3),(29,.bool o)] [.cells [.bool false,.bool false,.int .i64 0,.int .i64 0,.bool false,.bool false,.bool false,.bool false,.bool false] []] []) (aQ 55 [(2,.bptr 0 0),(3,.int .i64 t3)] [.cells [.bool false,.bool false,.int .i64 0,.int .i64 0,.bool false,.bool false,.bool false,.bool false,.bool false] []] []):=qgl.j<|
 tF tE<|tF tE<|tF tE<|tF tE<|tF tE<|tF tE<|tF tE<|tF tE<|tF tE<|tF tE<|tE
end
section
variable(t3:Int)
def Br:Option Bool:=
 if(t3==15)=true then
  some (t3==15)
 else if(t3==21)=true then
  some (t3==21)
 else if(t3==22)=true then
  some (t3==22)
 else
  some (t3==23)
theorem R7:OJ 0 (cA qgF 14680062) (Br t3) .normal (λo=>aQ 55 [(2,.bptr 0 0),(3,.int .i64 t3),(42,.bool o)] [.cells [.bool false,.bool false,.int .i64 0,.int .i64 0,.bool false,.bool false,.bool false,.bool false,.bool false] []] []) (aQ 55 [(2,.bptr 0 0),(3,.int .i64 t3)] [.cells [.bool false,.bool false,.int .i64 0,.int .i64 0,.bool false,.bool false,.bool false,.bool false,.bool false] []] []):=qgl.j<|
 tF tE<|tF tE<|tF tE<|tE
end
def zA(op:Int):Option aj:=
 (Bp op).bind λo2=>
 if o2=true then
  some (⟨true,false,0,0,false,false,false,false,true⟩:aj)
 else if(op==3)=true then
  some (⟨false,true,0,0,false,false,false,false,true⟩:aj)
 else if(op==4)=true then
  some (⟨false,true,0,6,false,false,true,false,true⟩:aj)
 else if(op==5)=true then
  some (⟨false,true,1,6,false,false,true,false,true⟩:aj)
 else if(op==6)=true then
  some (⟨false,false,1,1,true,false,false,false,true⟩:aj)
 else if(op==7)=true then
  some (⟨false,true,2,2,false,false,true,false,true⟩:aj)
 else if(op==8)=true then
  some (⟨false,false,3,3,false,false,false,false,true⟩:aj)
 else if(op==9)=true then
  some (⟨false,false,1,1,false,true,false,false,true⟩:aj)
 else
  (Bq op).bind λo21=>
  if o21=true then
   some (⟨false,false,2,2,false,false,false,false,true⟩:aj)
  else
   (Br op).bind λo26=>
   if o26=true then
    some (⟨false,false,1,1,false,false,false,false,true⟩:aj)
   else if(op==25)=true then
    some (⟨false,true,2,7,false,false,false,false,true⟩:aj)
   else if(op==26)=true then
    some (⟨false,false,1,1,false,false,true,true,true⟩:aj)
   else
    some (⟨false,false,0,0,false,false,false,false,false⟩:aj)
theorem X8{op:Int}:OV 215 [.int .i64 op] (zA op) (λr=>.agg (au r)) []:=qgl.v<|
 tb λo2 bo2=>tx qij<|fc 2<|bT (R5 op _ bo2)<|tF (tv (yk true true)<|tx (bC (⟨true,false,0,0,false,false,false,false,true⟩:aj))<|CR λq=>aI (bH (⟨true,false,0,0,false,false,false,false,true⟩:aj)) q.2)<|tF (tv (yl true true)<|tx (bC (⟨false,true,0,0,false,false,false,false,true⟩:aj))<|CR λq=>aI (bH (⟨false,true,0,0,false,false,false,false,true⟩:aj)) q.2)<|tF (tv (tq true true 6 true)<|tx (bC (⟨false,true,0,6,false,false,true,false,true⟩:aj))<|CR λq=>aI (bH (⟨false,true,0,6,false,false,true,false,true⟩:aj)) q.2)<|tF (tv (jc true true 1 6 true)<|tx (bC (⟨false,true,1,6,false,false,true,false,true⟩:aj))<|CR λq=>aI (bH (⟨false,true,1,6,false,false,true,false,true⟩:aj)) q.2)<|tF (tv (tt true true 1 1)<|tx (bC (⟨false,false,1,1,true,false,false,false,true⟩:aj))<|CR λq=>aI (bH (⟨false,false,1,1,true,false,false,false,true⟩:aj)) q.2)<|tF (tv (jc true true 2 2 true)<|tx (bC (⟨false,true,2,2,false,false,true,false,true⟩:aj))<|CR λq=>aI (bH (⟨false,true,2,2,false,false,true,false,true⟩:aj)) q.2)<|tF (tv (gv true 3 3)<|tx (bC (⟨false,false,3,3,false,false,false,false,true⟩:aj))<|CR λq=>aI (bH (⟨false,false,3,3,false,false,false,false,true⟩:aj)) q.2)<|tF (tv (tu true true 1 1)<|tx (bC (⟨false,false,1,1,false,true,false,false,true⟩:aj))<|CR λq=>aI (bH (⟨false,false,1,1,false,true,false,false,true⟩:aj)) q.2)<|tb λo21 bo21=>fc 0<|bT (R6 op _ bo21)<|tF (tv (gv true 2 2)<|tx (bC (⟨false,false,2,2,false,false,false,false,true⟩:aj))<|CR λq=>aI (bH (⟨false,false,2,2,false,false,false,false,true⟩:aj)) q.2)<|tb λo26 bo26=>fc 0<|bT (R7 op _ bo26)<|tF (tv (gv true 1 1)<|tx (bC (⟨false,false,1,1,false,false,false,false,true⟩:aj))<|CR λq=>aI (bH (⟨false,false,1,1,false,false,false,false,true⟩:aj)) q.2)<|tF (tv (tp true true 2 7)<|tx (bC (⟨false,true,2,7,false,false,false,false,true⟩:aj))<|CR λq=>aI (bH (⟨false,true,2,7,false,false,false,false,true⟩:aj)) q.2)<|tF (tv (qU true 1 1 true true)<|tx (bC (⟨false,false,1,1,false,false,true,true,true⟩:aj))<|CR λq=>aI (bH (⟨false,false,1,1,false,false,true,true,true⟩:aj)) q.2)<|tv (AA)<|tx (bC (⟨false,false,0,0,false,false,false,false,false⟩:aj))<|CR λq=>aI (bH (⟨false,false,0,0,false,false,false,false,false⟩:aj)) q.2
noncomputable def qb8:Code:=f216.body.getD .skip
def qnE:List Nat:=[]
theorem qdT:ZF Pg qnE 216 f216 qb8:=zf call216 func216 rfl mixed
section
variable(e:ag)(v:aj)
def uS:Option Bool:=
 if decide ((e.Kids.length:Int)<v.least)=true then
  some true
 else
  some (decide ((e.Kids.length:Int)>v.most))
theorem NM:OJ 0 (cA qb8 12) (uS e v) .normal (λo=>aQ 83 [(2,.eptr (ah e)),(3,.eptr (au v)),(19,.bool o)] [.dead,.dead] []) (aQ 83 [(2,.eptr (ah e)),(3,.eptr (au v))] [.dead,.dead] []):=qdT.j<|
 have pp2:=λ{X Y Z} (r:PV _ X Y Z)=>tw (aq e)<|bL (dJ.ln e.Kids)<|tw (qW v)<|r;tf (λc1=>pp2<|tg 7 c1<|tE) λc1=>pp2<|tg 7 c1<|tw (aq e)<|bL (dJ.ln e.Kids)<|tw (qX v)<|tE
end
section
variable(e:ag)(v:aj)
def Cr:Option Bool:=
 if v.params=true then
  if decide ((e.Params.length:Int)<1)=true then
   some true
  else
   some (decide ((e.Params.length:Int)>6))
 else
  some false
theorem NN:OJ 0 (cA qb8 28) (Cr e v) .normal (λo=>aQ 83 [(2,.eptr (ah e)),(3,.eptr (au v)),(33,.bool o)] [.dead,.dead] []) (aQ 83 [(2,.eptr (ah e)),(3,.eptr (au v))] [.dead,.dead] []):=qdT.j<|
 have pp6:=λ{X Y Z} (r:PV _ X Y Z)=>tw (qY v)<|r;tf (λc5=>have pp8:=λ{X Y Z} (r:PV _ X Y Z)=>pp6<|tg 3 c5<|tw (aS e)<|bL (pj.ln e.Params)<|r;tf (λc7=>pp8<|tg 8 c7<|tE) λc7=>pp8<|tg 8 c7<|tw (aS e)<|bL (pj.ln e.Params)<|tE) λc5=>pp6<|tg 3 c5<|tE
end
section
variable(e:ag)(v:aj)
def Cs:Option Bool:=
 if v.alts=true then
  if decide ((e.Alts.length:Int)<1)=true then
   some true
  else
   some (decide ((e.Alts.length:Int)>8))
 else
  some false
theorem NO:OJ 0 (cA qb8 60) (Cs e v) .normal (λo=>aQ 83 [(2,.eptr (ah e)),(3,.eptr (au v)),(47,.bool o)] [.dead,.dead] []) (aQ 83 [(2,.eptr (ah e)),(3,.eptr (au v))] [.dead,.dead] []):=qdT.j<|
 have pp12:=λ{X Y Z} (r:PV _ X Y Z)=>tw (qZ v)<|r;tf (λc11=>have pp14:=λ{X Y Z} (r:PV _ X Y Z)=>pp12<|tg 3 c11<|tw (aB e)<|bL (gz.ln e.Alts)<|r;tf (λc13=>pp14<|tg 8 c13<|tE) λc13=>pp14<|tg 8 c13<|tw (aB e)<|bL (gz.ln e.Alts)<|tE) λc11=>pp12<|tg 3 c11<|tE
end
section
variable(e:ag)(v:aj)(i:Int)
def wL:aK:=aQ 83 [(2,.eptr (ah e)),(3,.eptr (au v)),(5,.int .i64 i)] [.dead,.dead] []
def Fp(o:Unit⊕(Unit)):Exit:=match o with
 |(.inl _)=>.ret
 |(.inr _)=>.exit 0
def Fq(o:Unit⊕(Unit)):aK:=match o with
 |(.inl o)=>aQ 83 [(4,.bool false)] [.dead,.dead] []
 |(.inr o)=>aQ 83 [(2,.eptr (ah e)),(3,.eptr (au v))] [.dead,.dead] []
def lG:Option (Int⊕(Unit⊕(Unit))):=
 if decide (i<(e.Alts.length:Int))=true then
  (cX e.Alts i).bind λx18=>
  if decide ((x18.Names.length:Int)>6)=true then
   some (.inr (.inl ()))
  else
   some (.inl (dt (i+1)))
 else
  some (.inr (.inr ()))
def uT:Option (Unit⊕(Unit)):=loop (λ(zz:Int)=>lG e zz) i
theorem LL:OL 0 (cA qb8 503) (lG e i) (λ(zz:Int)=>wL e v zz) Fp (Fq e v) (wL e v i):=qdT.l<|
 tw (aB e)<|bL (gz.ln e.Alts)<|tF (tb λx18 bx18=>tw (aB e)<|tv (gz.ia (k:=.i64) bx18)<|tw (iB x18)<|bL (d8.ln x18.Names)<|tF tE<|tE)<|tE
theorem CX:OK 0 (.loop (cA qb8 503)) (uT e i) Fp (Fq e v) (wL e v i):=AN λ_=>LL _ _ _
end
def zr (e:ag) (a:aj):Option Bool :=
 (uS e a).bind λo3=>
 if o3=true then
  some false
 else
  (Cr e a).bind λo9=>
  if o9=true then
   some false
  else
   (Cs e a).bind λo15=>
   if o15=true then
    some false
   else
    (uT e 0).bind λo20=>match o20 with
    |(.inl o20)=>
     some false
    | (.inr o20) =>
     if(!a.exactly)=true then
      if(e.Op !=7)=true then
       some true
      else
       some (decide ((e.Types.length:Int)<=1))
     else if((e.Types.length:Int)==1)=true then
      if(e.Op !=7)=true then
       some true
      else
       some (decide ((e.Types.length:Int)<=1))
     else
      some false
theorem Ua{e:ag}{a:aj}:OV 216 [.agg (ah e),.agg (au a)] (zr e a) (λr=>.bool r) []:=qdT.v<|
 tb λo3 bo3=>te (bQ e)<|te (qQ a)<|fc 1<|bT (NM e a _ bo3)<|tF tE<|tb λo9 bo9=>fc 1<|bT (NN e a _ bo9)<|tF tE<|tb λo15 bo15=>fc 1<|bT (NO e a _ bo15)<|tF tE<|t2 (λo20 bo20=>bT (CX e a 0 _ bo20)<|tE) λo20 bo20=>bT (CX e a 0 _ bo20)<|have pp22:=λ{X Y Z} (r:PV _ X Y Z)=>tw (q9 a)<|r;tf (λc21=>have pp24:=λ{X Y Z} (r:PV _ X Y Z)=>pp22<|tg 4 c21<|tw (bk e)<|r;tf (λc23=>pp24<|tg 14 c23<|tE) λc23=>pp24<|tg 14 c23<|tw (aw e)<|bL (cu.ln e.Types)<|tE) λc21=>have pp26:=λ{X Y Z} (r:PV _ X Y Z)=>pp22<|tg 4 c21<|tw (aw e)<|bL (cu.ln e.Types)<|r;tf (λc25=>have pp28:=λ{X Y Z} (r:PV _ X Y Z)=>pp26<|tg 10 c25<|tw (bk e)<|r;tf (λc27=>pp28<|tg 14 c27<|tE) λc27=>pp28<|tg 14 c27<|tw (aw e)<|bL (cu.ln e.Types)<|tE) λc25=>pp26<|tg 10 c25<|tE
noncomputable def qpY:Code:=f217.body.getD .skip
def qnF:List Nat:=[]
theorem qoX:ZF Pg qnF 217 f217 qpY:=zf call217 func217 rfl mixed
def D1(n:Int):Option Bool:=
 if decide (n>=(-1000000000000))=true then
  some (decide (n<=1000000000000))
 else
  some false
theorem UR{n:Int}:OV 217 [.int .i64 n] (D1 n) (λr=>.bool r) []:=qoX.v<|
 tf (λc1=>tg 3 c1<|tE) λc1=>tg 3 c1<|tE
noncomputable def qiR:Code:=f151.body.getD .skip
def qmH:List Nat:=[10,15,25]
theorem qkl:ZF Pg qmH 151 f151 qiR:=zf call151 func151 rfl mixed
section
variable(s:ae)(t7:Int)(out:waA)(begin:Int)(t8:Int)
def zc:aK:=aQ 31 [(0,.str s),(3,sl cS out),(4,.int .i64 begin),(7,.int .i64 t7),(8,.int .i64 t8)] [] [((3,0),9)]
def GS(o:waA×Int):aK:=aQ 31 [(0,.str s),(3,sl cS o.1),(4,.int .i64 o.2)] [] [((3,0),9)]
def fe:Option ((waA×Int×Int)⊕((waA×Int))):=
 if decide (t8<t7)=true then
  (jC s t8).bind λc2=>
  if(c2==46)=true then
   (OY s (some begin) (some t8)).bind λs4=>
   (app out ([s4]:List ae)).bind λl5=>
   some (.inl (l5,dt (t8+1),dt (t8+1)))
  else
   some (.inl (out,begin,dt (t8+1)))
 else
  some (.inr (out,begin))
def xY:Option ((waA×Int)):=loop (λ(zz:waA×Int×Int)=>fe s t7 zz.1 zz.2.1 zz.2.2) (out,begin,t8)
theorem NB:OL 0 (cA qiR 247) (fe s t7 out begin t8) (λ(zz:waA×Int×Int)=>zc s t7 zz.1 zz.2.1 zz.2.2) (λ_=>.exit 0) (GS s) (zc s t7 out begin t8):=qkl.l<|
 tF (tb λc2 bc2=>tv (fF (k:=.i64) underlying9 bc2)<|tF (tb λs4 bs4=>tb λl5 bl5=>tv (Nd underlying9 bs4)<|tv (bJ [s4] 1 rfl)<|tv (d8.ap bl5)<|tE)<|tE)<|tE
theorem Qa:OJ 0 (.loop (cA qiR 247)) (xY s t7 out begin t8) (.exit 0) (GS s) (zc s t7 out begin t8):=y1 λ_=>NB _ _ _ _ _
end
def yR(s:ae):Option waA:=
 (xY s (s.length:Int) ([]:List ae) 0 0).bind λo6=>
 (OY s (some o6.2) none).bind λs7=>
 (app o6.1 ([s7]:List ae)).bind λl8=>
 some l8
theorem V4{s:ae}:OV 151 [.str s] (yR s) (λr=>sl cS r) [(0,9)]:=qkl.v<|
 tb λo6 bo6=>tb λs7 bs7=>tb λl8 bl8=>bL (lR underlying9 s)<|bT (Qa s (s.length:Int) ([]:List ae) 0 0 _ bo6)<|tv (Nd underlying9 bs7)<|tv (bJ [s7] 1 rfl)<|tv (d8.ap bl8)<|tE
noncomputable def qpO:Code:=f203.body.getD .skip
def qns:List Nat:=[]
theorem qoO:ZF Pg qns 203 f203 qpO:=zf call203 func203 rfl mixed
def ko(c:Int):Option Bool:=
 if decide (c>=97)=true then
  some (decide (c<=122))
 else
  some false
theorem nV{c:Int}:OV 203 [.int .u8 c] (ko c) (λr=>.bool r) []:=qoO.v<|
 tf (λc1=>tg 3 c1<|tE) λc1=>tg 3 c1<|tE
noncomputable def qp3:Code:=f235.body.getD .skip
def qnV:List Nat:=[]
theorem qo2:ZF Pg qnV 235 f235 qp3:=zf call235 func235 rfl mixed
def D3:Option waA:=
 some ([([97,110,100]:ae),([97,115,115,117,109,101]:ae),([98,111,111,108]:ae),([98,111,117,110,100]:ae),([99,97,115,101]:ae),([99,101,108,108]:ae),([99,108,97,115,115]:ae),([100,97,116,97]:ae),([100,101,102]:ae),([100,105,118]:ae),([101,108,115,101]:ae),([101,110,100]:ae),([102,97,108,115,101]:ae),([102,111,114,97,108,108]:ae),([102,117,110]:ae),([103,101,116]:ae),([105,102]:ae),([105,110]:ae),([105,110,115,116]:ae),([105,110,116]:ae),([105,110,118,97,114,105,97,110,116]:ae),([108,101,116]:ae),([109,97,116,99,104]:ae),([109,101,97,115,117,114,101]:ae),([109,101,116,114,105,99]:ae),([109,111,100]:ae),([109,117]:ae),([110,101,119]:ae),([110,111,116]:ae),([111,102]:ae),([111,114]:ae),([113,117,97,108]:ae),([114,101,102,108,101,99,116]:ae),([115,101,116]:ae),([116,104,101,110]:ae),([116,114,117,101]:ae),([117,115,101]:ae),([118]:ae),([118,97,108]:ae),([116,97,103]:ae),([119,104,101,114,101]:ae),([119,105,116,104]:ae)]:List ae)
theorem P8:OV 235 [] D3 (λr=>sl cS r) [(0,9)]:=qo2.v<|
 tv (bJ [([97,110,100]:ae),([97,115,115,117,109,101]:ae),([98,111,111,108]:ae),([98,111,117,110,100]:ae),([99,97,115,101]:ae),([99,101,108,108]:ae),([99,108,97,115,115]:ae),([100,97,116,97]:ae),([100,101,102]:ae),([100,105,118]:ae),([101,108,115,101]:ae),([101,110,100]:ae),([102,97,108,115,101]:ae),([102,111,114,97,108,108]:ae),([102,117,110]:ae),([103,101,116]:ae),([105,102]:ae),([105,110]:ae),([105,110,115,116]:ae),([105,110,116]:ae),([105,110,118,97,114,105,97,110,116]:ae),([108,101,116]:ae),([109,97,116,99,104]:ae),([109,101,97,115,117,114,101]:ae),([109,101,116,114,105,99]:ae),([109,111,100]:ae),([109,117]:ae),([110,101,119]:ae),([110,111,116]:ae),([111,102]:ae),([111,114]:ae),([113,117,97,108]:ae),([114,101,102,108,101,99,116]:ae),([115,101,116]:ae),([116,104,101,110]:ae),([116,114,117,101]:ae),([117,115,101]:ae),([118]:ae),([118,97,108]:ae),([116,97,103]:ae),([119,104,101,114,101]:ae),([119,105,116,104]:ae)] 42 rfl)<|tE
noncomputable def qi8:Code:=f234.body.getD .skip
def qnU:List Nat:=[10,17]
theorem qkC:ZF Pg qnU 234 f234 qi8:=zf call234 func234 rfl mixed
section
variable(v:waA)(s:ae)(t7:Int)(t8:Int)
def Cj:aK:=aQ 19 [(0,sl cS v),(1,.str s),(7,.int .i64 t7),(8,.int .i64 t8)] [] []
def JI(o:Int⊕(Unit)):Exit:=match o with
 |(.inl _)=>.ret
 |(.inr _)=>.exit 0
def JJ(o:Int⊕(Unit)):aK:=match o with
 |(.inl o)=>aQ 19 [(4,.int .i64 o)] [] []
 |(.inr o)=>aQ 19 [] [] []
def pp:Option (Int⊕(Int⊕(Unit))):=
 if decide (t8<t7)=true then
  (cX v t8).bind λx2=>
  if(x2==s)=true then
   some (.inr (.inl t8))
  else
   some (.inl (dt (t8+1)))
 else
  some (.inr (.inr ()))
def GN:Option (Int⊕(Unit)):=loop (λ(zz:Int)=>pp v s t7 zz) t8
theorem P1:OL 0 (cA qi8 55) (pp v s t7 t8) (λ(zz:Int)=>Cj v s t7 zz) JI JJ (Cj v s t7 t8):=qkC.l<|
 tF (tb λx2 bx2=>tv (d8.ia (k:=.i64) bx2)<|tv (eC XC (.str x2) [])<|tF tE<|tE)<|tE
theorem GO:OK 0 (.loop (cA qi8 55)) (GN v s t7 t8) JI JJ (Cj v s t7 t8):=AN λ_=>P1 _ _ _ _
end
def GM(a:waA)(s:ae):Option Int:=
 (GN a s (a.length:Int) 0).bind λo4=>match o4 with
 |(.inl o4)=>
  some o4
 |(.inr o4)=>
  some (-1)
theorem Pe{a:waA}{s:ae}:OV 234 [sl cS a,.str s] (GM a s) (λr=>.int .i64 r) []:=qkC.v<|
 bL (d8.ln a)<|t2 (λo4 bo4=>bT (GO a s (a.length:Int) 0 _ bo4)<|tE) λo4 bo4=>bT (GO a s (a.length:Int) 0 _ bo4)<|tE
end Go.Proofs.YtibglelmlnfojaaGreatDoor
