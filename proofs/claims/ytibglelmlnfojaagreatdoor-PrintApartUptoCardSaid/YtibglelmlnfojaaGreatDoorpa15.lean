/- PROVED: a part of the proof. Conditions: none. -/
import Derived.Test.YtibglelmlnfojaaGreatDoorpa14
set_option linter.unusedSimpArgs false
set_option linter.unusedVariables false
noncomputable section
namespace Go.Proofs.YtibglelmlnfojaaGreatDoor
open Go Go.Proofs.Tryz
set_option linter.unusedVariables false
set_option maxRecDepth 100000
noncomputable def WR:Code:=f15.body.getD .skip
def qj9:List Nat:=[]
theorem qdv:ZF Pg qj9 15 f15 WR:=zf call15 func15 rfl mixed
section
variable(m:gm)(t20:(List xI))(t21:Int)(t22:Int)(m2:(List Int))(m3:Bool)
def lk:aF:=aZ 107 [(1,.eptr (bH m)),(4,.bptr 1 0),(20,sl j8 t20),(21,.int .i64 t21),(22,.int .i64 t22)] [.dead,.cells [.nptr 1 76,sl (cI .u8) m2,.bool m3] [(1,5)]] []
def qf(o:(List Int)×Bool):aF:=aZ 107 [(1,.eptr (bH m)),(4,.bptr 1 0)] [.dead,.cells [.nptr 1 76,sl (cI .u8) o.1,.bool o.2] [(1,5)]] []
instance iS_print_Module_L1:KS 0 (lk m t20 t21 t22 m2 m3):=⟨rfl,(bE (aI (eX (gC m)) (aI (dQ rfl) (aI (up (aU H6 t20)) (aI vzz (aI vzz vzz)))))),(aI vzz (aI (aI (dQ rfl) (aI (up (aU (Sn .u8) m2)) (aI vzz vzz))) trivial))⟩
instance iO_print_Module_L1{o:((List Int)×Bool)}:KS 0 (qf m o):=⟨rfl,(bE (aI (eX (gC m)) (aI (dQ rfl) trivial))),(aI vzz (aI (aI (dQ rfl) (aI (up (aU (Sn .u8) o.1)) (aI vzz vzz))) trivial))⟩
def y5:Option ((Int×(List Int)×Bool)⊕(((List Int)×Bool))):=
 if decide (t22<t21)=true then
  (dh t20 t22).bind λx2=>
  (zb x2 m2 m3).bind λr3=>
  (ak ([oz]:List ah) r3.1 r3.2).bind λr4=>
  some (.inl (dU (t22+1),r4,r3.2))
 else
  some (.inr (m2,m3))
def CQ:Option (((List Int)×Bool)):=loop (λ(zz:Int×(List Int)×Bool)=>y5 t20 t21 zz.1 zz.2.1 zz.2.2) (t22,m2,m3)
theorem FD:OL 0 (cA WR 119) (y5 t20 t21 t22 m2 m3) (λ(zz:Int×(List Int)×Bool)=>lk m t20 t21 zz.1 zz.2.1 zz.2.2) (λ_=>.exit 0) (qf m) (lk m t20 t21 t22 m2 m3):=qdv.lx<|
 tF (tb λx2 bx2=>tb λr3 br3=>tb λr4 br4=>tv (qf0.ia (k:=.i64) bx2)<|tv (Zy x2)<|tx qji<|tx (XS x2)<|tv (Xl x2 [])<|tc [1] (Es _ br3)<|tv (cU [oz] 1 rfl)<|tc [1] (ai _ br4)<|tE)<|tE
theorem G8:OJ 0 (.loop (cA WR 119)) (CQ t20 t21 t22 m2 m3) (.exit 0) (qf m) (lk m t20 t21 t22 m2 m3):=Ke λ_=>FD _ _ _ _ _ _
end
section
variable(m:gm)(t34:(List oM))(t35:Int)(t36:Int)(m2:(List Int))(m3:Bool)
def ll:aF:=aZ 107 [(1,.eptr (bH m)),(4,.bptr 1 0),(34,sl gA t34),(35,.int .i64 t35),(36,.int .i64 t36)] [.dead,.cells [.nptr 1 76,sl (cI .u8) m2,.bool m3] [(1,5)]] []
def qg(o:(List Int)×Bool):aF:=aZ 107 [(1,.eptr (bH m)),(4,.bptr 1 0)] [.dead,.cells [.nptr 1 76,sl (cI .u8) o.1,.bool o.2] [(1,5)]] []
instance iS_print_Module_L2:KS 0 (ll m t34 t35 t36 m2 m3):=⟨rfl,(bE (aI (eX (gC m)) (aI (dQ rfl) (aI (up (aU EU t34)) (aI vzz (aI vzz vzz)))))),(aI vzz (aI (aI (dQ rfl) (aI (up (aU (Sn .u8) m2)) (aI vzz vzz))) trivial))⟩
instance iO_print_Module_L2{o:((List Int)×Bool)}:KS 0 (qg m o):=⟨rfl,(bE (aI (eX (gC m)) (aI (dQ rfl) trivial))),(aI vzz (aI (aI (dQ rfl) (aI (up (aU (Sn .u8) o.1)) (aI vzz vzz))) trivial))⟩
def y6:Option ((Int×(List Int)×Bool)⊕(((List Int)×Bool))):=
 if decide (t36<t35)=true then
  (dh t34 t36).bind λx7=>
  (xm x7 m2 m3).bind λr8=>
  (ak ([oz]:List ah) r8.1 r8.2).bind λr9=>
  some (.inl (dU (t36+1),r9,r8.2))
 else
  some (.inr (m2,m3))
def CR:Option (((List Int)×Bool)):=loop (λ(zz:Int×(List Int)×Bool)=>y6 t34 t35 zz.1 zz.2.1 zz.2.2) (t36,m2,m3)
theorem FE:OL 0 (cA WR 247) (y6 t34 t35 t36 m2 m3) (λ(zz:Int×(List Int)×Bool)=>ll m t34 t35 zz.1 zz.2.1 zz.2.2) (λ_=>.exit 2) (qg m) (ll m t34 t35 t36 m2 m3):=qdv.lx<|
 tF (tb λx7 bx7=>tb λr8 br8=>tb λr9 br9=>tv (qf1.ia (k:=.i64) bx7)<|tv (Xk x7)<|tx qjj<|tx (UX x7)<|tv (UL x7 [])<|tc [1] (Db _ br8)<|tv (cU [oz] 1 rfl)<|tc [1] (ai _ br9)<|tE)<|tE
theorem G9:OJ 0 (.loop (cA WR 247)) (CR t34 t35 t36 m2 m3) (.exit 2) (qg m) (ll m t34 t35 t36 m2 m3):=Ke λ_=>FE _ _ _ _ _ _
end
section
variable(m:gm)(t48:(List ft))(t49:Int)(t50:Int)(m2:(List Int))(m3:Bool)
def lm:aF:=aZ 107 [(1,.eptr (bH m)),(4,.bptr 1 0),(48,sl dH t48),(49,.int .i64 t49),(50,.int .i64 t50)] [.dead,.cells [.nptr 1 76,sl (cI .u8) m2,.bool m3] [(1,5)]] []
def qh(o:(List Int)×Bool):aF:=aZ 107 [(1,.eptr (bH m)),(4,.bptr 1 0)] [.dead,.cells [.nptr 1 76,sl (cI .u8) o.1,.bool o.2] [(1,5)]] []
instance iS_print_Module_L3:KS 0 (lm m t48 t49 t50 m2 m3):=⟨rfl,(bE (aI (eX (gC m)) (aI (dQ rfl) (aI (up (aU vG t48)) (aI vzz (aI vzz vzz)))))),(aI vzz (aI (aI (dQ rfl) (aI (up (aU (Sn .u8) m2)) (aI vzz vzz))) trivial))⟩
instance iO_print_Module_L3{o:((List Int)×Bool)}:KS 0 (qh m o):=⟨rfl,(bE (aI (eX (gC m)) (aI (dQ rfl) trivial))),(aI vzz (aI (aI (dQ rfl) (aI (up (aU (Sn .u8) o.1)) (aI vzz vzz))) trivial))⟩
def y7:Option ((Int×(List Int)×Bool)⊕(((List Int)×Bool))):=
 if decide (t50<t49)=true then
  (dh t48 t50).bind λx12=>
  (qY x12 m2 m3).bind λr13=>
  (ak ([oz]:List ah) r13.1 r13.2).bind λr14=>
  some (.inl (dU (t50+1),r14,r13.2))
 else
  some (.inr (m2,m3))
def CS:Option (((List Int)×Bool)):=loop (λ(zz:Int×(List Int)×Bool)=>y7 t48 t49 zz.1 zz.2.1 zz.2.2) (t50,m2,m3)
theorem FF:OL 0 (cA WR 503) (y7 t48 t49 t50 m2 m3) (λ(zz:Int×(List Int)×Bool)=>lm m t48 t49 zz.1 zz.2.1 zz.2.2) (λ_=>.exit 4) (qh m) (lm m t48 t49 t50 m2 m3):=qdv.lx<|
 tF (tb λx12 bx12=>tb λr13 br13=>tb λr14 br14=>tv (qf2.ia (k:=.i64) bx12)<|tv (Ri x12)<|tx qjh<|tx (Pf x12)<|tv (O6 x12 [])<|tc [1] (zR _ br13)<|tv (cU [oz] 1 rfl)<|tc [1] (ai _ br14)<|tE)<|tE
theorem Ha:OJ 0 (.loop (cA WR 503)) (CS t48 t49 t50 m2 m3) (.exit 4) (qh m) (lm m t48 t49 t50 m2 m3):=Ke λ_=>FF _ _ _ _ _ _
end
section
variable(m:gm)(t62:(List gR))(t63:Int)(t64:Int)(m2:(List Int))(m3:Bool)
def lp:aF:=aZ 107 [(1,.eptr (bH m)),(4,.bptr 1 0),(62,sl d7 t62),(63,.int .i64 t63),(64,.int .i64 t64)] [.dead,.cells [.nptr 1 76,sl (cI .u8) m2,.bool m3] [(1,5)]] []
def qi(o:(List Int)×Bool):aF:=aZ 107 [(1,.eptr (bH m)),(4,.bptr 1 0)] [.dead,.cells [.nptr 1 76,sl (cI .u8) o.1,.bool o.2] [(1,5)]] []
instance iS_print_Module_L4:KS 0 (lp m t62 t63 t64 m2 m3):=⟨rfl,(bE (aI (eX (gC m)) (aI (dQ rfl) (aI (up (aU yN t62)) (aI vzz (aI vzz vzz)))))),(aI vzz (aI (aI (dQ rfl) (aI (up (aU (Sn .u8) m2)) (aI vzz vzz))) trivial))⟩
instance iO_print_Module_L4{o:((List Int)×Bool)}:KS 0 (qi m o):=⟨rfl,(bE (aI (eX (gC m)) (aI (dQ rfl) trivial))),(aI vzz (aI (aI (dQ rfl) (aI (up (aU (Sn .u8) o.1)) (aI vzz vzz))) trivial))⟩
def y8:Option ((Int×(List Int)×Bool)⊕(((List Int)×Bool))):=
 if decide (t64<t63)=true then
  (dh t62 t64).bind λx17=>
  (tD x17 m2 m3).bind λr18=>
  (ak ([oz]:List ah) r18.1 r18.2).bind λr19=>
  some (.inl (dU (t64+1),r19,r18.2))
 else
  some (.inr (m2,m3))
def CT:Option (((List Int)×Bool)):=loop (λ(zz:Int×(List Int)×Bool)=>y8 t62 t63 zz.1 zz.2.1 zz.2.2) (t64,m2,m3)
theorem FH:OL 0 (cA WR 1015) (y8 t62 t63 t64 m2 m3) (λ(zz:Int×(List Int)×Bool)=>lp m t62 t63 zz.1 zz.2.1 zz.2.2) (λ_=>.exit 6) (qi m) (lp m t62 t63 t64 m2 m3):=qdv.lx<|
 tF (tb λx17 bx17=>tb λr18 br18=>tb λr19 br19=>tv (qf3.ia (k:=.i64) bx17)<|tv (Tg x17)<|tx qfR<|tx (RD x17)<|tv (Rj x17 [])<|tc [1] (AI _ br18)<|tv (cU [oz] 1 rfl)<|tc [1] (ai _ br19)<|tE)<|tE
theorem Hb:OJ 0 (.loop (cA WR 1015)) (CT t62 t63 t64 m2 m3) (.exit 6) (qi m) (lp m t62 t63 t64 m2 m3):=Ke λ_=>FH _ _ _ _ _ _
end
section
variable(m:gm)(t76:(List xJ))(t77:Int)(t78:Int)(m2:(List Int))(m3:Bool)
def lq:aF:=aZ 107 [(1,.eptr (bH m)),(4,.bptr 1 0),(76,sl je t76),(77,.int .i64 t77),(78,.int .i64 t78)] [.dead,.cells [.nptr 1 76,sl (cI .u8) m2,.bool m3] [(1,5)]] []
def qj(o:(List Int)×Bool):aF:=aZ 107 [(1,.eptr (bH m)),(4,.bptr 1 0)] [.dead,.cells [.nptr 1 76,sl (cI .u8) o.1,.bool o.2] [(1,5)]] []
instance iS_print_Module_L5:KS 0 (lq m t76 t77 t78 m2 m3):=⟨rfl,(bE (aI (eX (gC m)) (aI (dQ rfl) (aI (up (aU H8 t76)) (aI vzz (aI vzz vzz)))))),(aI vzz (aI (aI (dQ rfl) (aI (up (aU (Sn .u8) m2)) (aI vzz vzz))) trivial))⟩
instance iO_print_Module_L5{o:((List Int)×Bool)}:KS 0 (qj m o):=⟨rfl,(bE (aI (eX (gC m)) (aI (dQ rfl) trivial))),(aI vzz (aI (aI (dQ rfl) (aI (up (aU (Sn .u8) o.1)) (aI vzz vzz))) trivial))⟩
def y9:Option ((Int×(List Int)×Bool)⊕(((List Int)×Bool))):=
 if decide (t78<t77)=true then
  (dh t76 t78).bind λx22=>
  (qo x22 m2 m3).bind λr23=>
  (ak ([oz]:List ah) r23.1 r23.2).bind λr24=>
  some (.inl (dU (t78+1),r24,r23.2))
 else
  some (.inr (m2,m3))
def CU:Option (((List Int)×Bool)):=loop (λ(zz:Int×(List Int)×Bool)=>y9 t76 t77 zz.1 zz.2.1 zz.2.2) (t78,m2,m3)
theorem FI:OL 0 (cA WR 2039) (y9 t76 t77 t78 m2 m3) (λ(zz:Int×(List Int)×Bool)=>lq m t76 t77 zz.1 zz.2.1 zz.2.2) (λ_=>.exit 8) (qj m) (lq m t76 t77 t78 m2 m3):=qdv.lx<|
 tF (tb λx22 bx22=>tb λr23 br23=>tb λr24 br24=>tv (qf4.ia (k:=.i64) bx22)<|tv (Zz x22)<|tx qfS<|tx (XT x22)<|tv (Xm x22 [])<|tc [1] (yi _ br23)<|tv (cU [oz] 1 rfl)<|tc [1] (ai _ br24)<|tE)<|tE
theorem Hd:OJ 0 (.loop (cA WR 2039)) (CU t76 t77 t78 m2 m3) (.exit 8) (qj m) (lq m t76 t77 t78 m2 m3):=Ke λ_=>FI _ _ _ _ _ _
end
section
variable(t90:(List i8))(t91:Int)(t92:Int)(m:(List Int))(m2:Bool)
def lr:aF:=aZ 107 [(4,.bptr 1 0),(90,sl bY t90),(91,.int .i64 t91),(92,.int .i64 t92)] [.dead,.cells [.nptr 1 76,sl (cI .u8) m,.bool m2] [(1,5)]] []
def qk(o:(List Int)×Bool):aF:=aZ 107 [(4,.bptr 1 0)] [.dead,.cells [.nptr 1 76,sl (cI .u8) o.1,.bool o.2] [(1,5)]] []
instance iS_print_Module_L6:KS 0 (lr t90 t91 t92 m m2):=⟨rfl,(bE (aI (dQ rfl) (aI (up (aU H7 t90)) (aI vzz (aI vzz vzz))))),(aI vzz (aI (aI (dQ rfl) (aI (up (aU (Sn .u8) m)) (aI vzz vzz))) trivial))⟩
instance iO_print_Module_L6{o:((List Int)×Bool)}:KS 0 (qk o):=⟨rfl,(bE (aI (dQ rfl) trivial)),(aI vzz (aI (aI (dQ rfl) (aI (up (aU (Sn .u8) o.1)) (aI vzz vzz))) trivial))⟩
def za:Option ((Int×(List Int)×Bool)⊕(((List Int)×Bool))):=
 if decide (t92<t91)=true then
  (dh t90 t92).bind λx27=>
  (rF x27 m m2).bind λr28=>
  (ak ([oz]:List ah) r28.1 r28.2).bind λr29=>
  some (.inl (dU (t92+1),r29,r28.2))
 else
  some (.inr (m,m2))
def CV:Option (((List Int)×Bool)):=loop (λ(zz:Int×(List Int)×Bool)=>za t90 t91 zz.1 zz.2.1 zz.2.2) (t92,m,m2)
theorem FJ:OL 0 (cA WR 4087) (za t90 t91 t92 m m2) (λ(zz:Int×(List Int)×Bool)=>lr t90 t91 zz.1 zz.2.1 zz.2.2) (λ_=>.exit 10) qk (lr t90 t91 t92 m m2):=qdv.lx<|
 tF (tb λx27 bx27=>tb λr28 br28=>tb λr29 br29=>tv (qet.ia (k:=.i64) bx27)<|tv (VS x27)<|tx qjf<|tx (qaa x27)<|tv (ZA x27 [])<|tc [1] (u6 _ br28)<|tv (cU [oz] 1 rfl)<|tc [1] (ai _ br29)<|tE)<|tE
theorem He:OJ 0 (.loop (cA WR 4087)) (CV t90 t91 t92 m m2) (.exit 10) qk (lr t90 t91 t92 m m2):=Ke λ_=>FJ _ _ _ _ _
end
def IX(m:gm):Option (ah×Int):=
 (CQ m.Datas (m.Datas.length:Int) 0 ([]:List Int) false).bind λo5=>
 (CR m.Classes (m.Classes.length:Int) 0 o5.1 o5.2).bind λo10=>
 (CS m.Instances (m.Instances.length:Int) 0 o10.1 o10.2).bind λo15=>
 (CT m.Measures (m.Measures.length:Int) 0 o15.1 o15.2).bind λo20=>
 (CU m.Quals (m.Quals.length:Int) 0 o20.1 o20.2).bind λo25=>
 (CV m.Defs (m.Defs.length:Int) 0 o25.1 o25.2).bind λo30=>
 (qm o30.1 o30.2).bind λr31=>
 some (r31.1,r31.2)
theorem LZ{m:gm}:OV 15 [.agg (bH m)] (IX m) (λr=>.tuple [.str r.1,.int .i64 r.2]) []:=qdv.v<|
 tb λo5 bo5=>tb λo10 bo10=>tb λo15 bo15=>tb λo20 bo20=>tb λo25 bo25=>tb λo30 bo30=>tb λr31 br31=>te (UV m)<|Oq (show di Pg 76 []=some (.agg [.val (.pointer none),sl (cI .u8) ([]:List Int),.bool false]) by kernel_rfl) (show ui Pg 76 [] [(1,5)]from⟨[.val (.pointer none),.val ee,.bool false],by kernel_rfl,(aI rfl vzz)⟩)<|ty (qgp [.val (.pointer none),sl (cI .u8) ([]:List Int),.bool false])<|tw (DW m)<|cq (qf0.ln m.Datas)<|dm (G8 m m.Datas (m.Datas.length:Int) 0 ([]:List Int) false _ bo5)<|tw (DX m)<|cq (qf1.ln m.Classes)<|dm (G9 m m.Classes (m.Classes.length:Int) 0 o5.1 o5.2 _ bo10)<|tw (DY m)<|cq (qf2.ln m.Instances)<|dm (Ha m m.Instances (m.Instances.length:Int) 0 o10.1 o10.2 _ bo15)<|tw (DZ m)<|cq (qf3.ln m.Measures)<|dm (Hb m m.Measures (m.Measures.length:Int) 0 o15.1 o15.2 _ bo20)<|tw (D0 m)<|cq (qf4.ln m.Quals)<|dm (Hd m m.Quals (m.Quals.length:Int) 0 o20.1 o20.2 _ bo25)<|tw (D1 m)<|cq (qet.ln m.Defs)<|dm (He m.Defs (m.Defs.length:Int) 0 o25.1 o25.2 _ bo30)<|tc [1] (tz _ br31)<|tE
noncomputable def qlf:Code:=f23.body.getD .skip
def qkf:List Nat:=[]
theorem qkU:ZF Pg qkf 23 f23 qlf:=zf call23 func23 rfl mixed
def eJ(k0:(List Int))(k02:Bool):Option ah:=
 if k02=true then
  some ([]:ah)
 else
  (ER k0 k02).bind λr2=>
  some r2
theorem tH{k0:(List Int)}{k02:Bool}:OG 23 [.bptr 0 0] [] [.cells [.nptr 0 76,sl (cI .u8) k0,.bool k02] [(1,5)]] (eJ k0 k02) (λr=>.str r) [] (λr=>[.cells [.nptr 0 76,sl (cI .u8) k0,.bool k02] []]):=qkU.g 1<|
 ts<|tF tE<|tb λr2 br2=>tc [0] (HX br2)<|tE
noncomputable def qlb:Code:=f10.body.getD .skip
def qj7:List Nat:=[]
theorem qkQ:ZF Pg qj7 10 f10 qlb:=zf call10 func10 rfl mixed
def ke(e:af):Option ah:=
 (kl e ([]:List Int) false).bind λr1=>
 (eJ r1.2 r1.1).bind λr2=>
 some r2
theorem kF{e:af}:OV 10 [.agg (ag e)] (ke e) (λr=>.str r) []:=qkQ.v<|
 tb λr1 br1=>tb λr2 br2=>te (dq e)<|Oq (show di Pg 76 []=some (.agg [.val (.pointer none),sl (cI .u8) ([]:List Int),.bool false]) by kernel_rfl) (show ui Pg 76 [] [(1,5)]from⟨[.val (.pointer none),.val ee,.bool false],by kernel_rfl,(aI rfl vzz)⟩)<|ty (qgp [.val (.pointer none),sl (cI .u8) ([]:List Int),.bool false])<|tv (bh e)<|tc [1] (ra _ br1)<|tc [1] (tH _ br2)<|tE
noncomputable def b7:Code:=Tryz.f7.body.getD .skip
def A7:List Nat:=[]
theorem Z7:ZF Pg A7 7 Tryz.f7 b7:=zf call7 func7 rfl mixed
def rE(t:ae):Option ah:=
 (dt t ([]:List Int) false).bind λr1=>
 (eJ r1.2 r1.1).bind λr2=>
 some r2
theorem zI{t:ae}:OV 7 [.agg (aj t)] (rE t) (λr=>.str r) []:=Z7.v<|
 tb λr1 br1=>tb λr2 br2=>te (fe t)<|Oq (show di Pg 76 []=some (.agg [.val (.pointer none),sl (cI .u8) ([]:List Int),.bool false]) by kernel_rfl) (show ui Pg 76 [] [(1,5)]from⟨[.val (.pointer none),.val ee,.bool false],by kernel_rfl,(aI rfl vzz)⟩)<|ty (qgp [.val (.pointer none),sl (cI .u8) ([]:List Int),.bool false])<|tv (cC t)<|tc [1] (ew _ br1)<|tc [1] (tH _ br2)<|tE
noncomputable def qlc:Code:=f12.body.getD .skip
def qj8:List Nat:=[]
theorem qkR:ZF Pg qj8 12 f12 qlc:=zf call12 func12 rfl mixed
def wg:Option Bool:=
 (DO ([120]:ah)).bind λr1=>
 (Vo 0).bind λr2=>
 (Bx 17 ([r1,r2]:List af)).bind λr3=>
 (DO ([120]:ah)).bind λr4=>
 (Bx 15 ([r4]:List af)).bind λr5=>
 (DO ([120]:ah)).bind λr6=>
 (Vo 1).bind λr7=>
 (Bx 10 ([r6,r7]:List af)).bind λr8=>
 (Bx 8 ([r3,r5,r8]:List af)).bind λr9=>
 (DO ([120]:ah)).bind λr10=>
 (Qa (⟨([102]:ah),([([120]:ah)]:List ah),r10,0,false,(⟨([]:List ah),([]:List A0),([]:List Oo),([]:List uF),(⟨0,([]:ah),([]:List ae),([]:List ah),(⟨0,([]:ah),0,([]:List aa)⟩:aa),([]:List aa)⟩:ae),([]:List aa)⟩:Jm)⟩:i8)).bind λr11=>
 (Vo (-3)).bind λr12=>
 (IX (⟨([]:List xI),([]:List oM),([]:List ft),([]:List gR),([]:List xJ),([(⟨([99]:ah),([]:List ah),r12,0,false,(⟨([]:List ah),([]:List A0),([]:List Oo),([]:List uF),(⟨0,([]:ah),([]:List ae),([]:List ah),(⟨0,([]:ah),0,([]:List aa)⟩:aa),([]:List aa)⟩:ae),([]:List aa)⟩:Jm)⟩:i8)]:List i8)⟩:gm)).bind λr13=>
 (ke r9).bind λr14=>
 if (r14 == ([105,102,32,120,32,60,32,48,32,116,104,101,110,32,45,120,32,101,108,115,101,32,120,32,43,32,49]:ah)) = true then
  (DO ([97]:ah)).bind λr17=>
  (DO ([98]:ah)).bind λr18=>
  (Bx 11 ([r17,r18]:List af)).bind λr19=>
  (DO ([99]:ah)).bind λr20=>
  (Bx 11 ([r19,r20]:List af)).bind λr21=>
  (ke r21).bind λr22=>
  if (r22 == ([97,32,45,32,98,32,45,32,99]:ah)) = true then
   (DO ([97]:ah)).bind λr25=>
   (DO ([98]:ah)).bind λr26=>
   (DO ([99]:ah)).bind λr27=>
   (Bx 11 ([r26,r27]:List af)).bind λr28=>
   (Bx 11 ([r25,r28]:List af)).bind λr29=>
   (ke r29).bind λr30=>
   if (r30 == ([97,32,45,32,40,98,32,45,32,99,41]:ah)) = true then
    (rE (⟨6,([]:ah),([(⟨1,([]:ah),([]:List ae),([]:List ah),(⟨0,([]:ah),0,([]:List aa)⟩:aa),([]:List aa)⟩:ae),(⟨1,([]:ah),([]:List ae),([]:List ah),(⟨12,([]:ah),0,([(⟨3,([120]:ah),0,([]:List aa)⟩:aa),(⟨3,([118]:ah),0,([]:List aa)⟩:aa)]:List aa)⟩:aa),([]:List aa)⟩:ae),(⟨2,([]:ah),([]:List ae),([]:List ah),(⟨0,([]:ah),0,([]:List aa)⟩:aa),([]:List aa)⟩:ae)]:List ae),([([120]:ah),([121]:ah)]:List ah),(⟨0,([]:ah),0,([]:List aa)⟩:aa),([]:List aa)⟩:ae)).bind λr33=>
    if (r33 == ([40,120,32,58,32,73,110,116,44,32,121,32,58,32,123,118,32,58,32,73,110,116,32,124,32,120,32,60,32,118,125,41,32,45,62,32,66,111,111,108]:ah)) = true then
     (ke (⟨0,([]:ah),0,([]:List af),([]:List cc),([]:List cf),([]:List ae)⟩:af)).bind λr36=>
     if (r36 == ([]:ah)) = true then
      if (r11.1 == ([100,101,102,32,102,32,40,120,41,32,61,32,120]:ah)) = true then
       if(r11.2==0)=true then
        if(r13.1==([100,101,102,32,99,32,61,32,40,45,51,41,59,10]:ah))=true then
         some (r13.2==0)
        else
         some false
       else
        some false
      else
       some false
     else
      some false
    else
     some false
   else
    some false
  else
   some false
 else
  some false
theorem vF:OV 12 [] wg (λr=>.bool r) []:=qkR.v<|
 tb λr1 br1=>tb λr2 br2=>tb λr3 br3=>tb λr4 br4=>tb λr5 br5=>tb λr6 br6=>tb λr7 br7=>tb λr8 br8=>tb λr9 br9=>tb λr10 br10=>tb λr11 br11=>tb λr12 br12=>tb λr13 br13=>tb λr14 br14=>cJ (np _ br1)<|cJ (MK _ br2)<|tv (fj.mk' (v:=qQ) kD ([r1,r2]:List af) 2 (by kernel_rfl))<|cJ (oU _ br3)<|cJ (np _ br4)<|tv (fj.mk' (v:=qQ) kD ([r4]:List af) 1 (by kernel_rfl))<|cJ (oU _ br5)<|cJ (np _ br6)<|cJ (MK _ br7)<|tv (fj.mk' (v:=qQ) kD ([r6,r7]:List af) 2 (by kernel_rfl))<|cJ (oU _ br8)<|tv (fj.mk' (v:=qQ) kD ([r3,r5,r8]:List af) 3 (by kernel_rfl))<|cJ (oU _ br9)<|tx RO<|ty (bR r9)<|Oq (H5 3 ([120]:ah)) (HY 3 ([120]:ah))<|Oq (H5 3 ([118]:ah)) (HY 3 ([118]:ah))<|tv (eL.mk' (v:=WF) XP ([(⟨3,([120]:ah),0,([]:List aa)⟩:aa),(⟨3,([118]:ah),0,([]:List aa)⟩:aa)]:List aa) 2 (by kernel_rfl))<|tv (QU 12 ([(⟨3,([120]:ah),0,([]:List aa)⟩:aa),(⟨3,([118]:ah),0,([]:List aa)⟩:aa)]:List aa))<|tx N7<|tx (jK (⟨12,([]:ah),0,([(⟨3,([120]:ah),0,([]:List aa)⟩:aa),(⟨3,([118]:ah),0,([]:List aa)⟩:aa)]:List aa)⟩:aa))<|tv (cU [([120]:ah),([121]:ah)] 2 rfl)<|Oq (MT 1) (MQ 1)<|tv (kz (⟨12,([]:ah),0,([(⟨3,([120]:ah),0,([]:List aa)⟩:aa),(⟨3,([118]:ah),0,([]:List aa)⟩:aa)]:List aa)⟩:aa) [])<|Oq (QV 1 (⟨12,([]:ah),0,([(⟨3,([120]:ah),0,([]:List aa)⟩:aa),(⟨3,([118]:ah),0,([]:List aa)⟩:aa)]:List aa)⟩:aa)) (QO 1 (⟨12,([]:ah),0,([(⟨3,([120]:ah),0,([]:List aa)⟩:aa),(⟨3,([118]:ah),0,([]:List aa)⟩:aa)]:List aa)⟩:aa))<|Oq (MT 2) (MQ 2)<|tv (dy.mk' (v:=WG) XQ ([(⟨1,([]:ah),([]:List ae),([]:List ah),(⟨0,([]:ah),0,([]:List aa)⟩:aa),([]:List aa)⟩:ae),(⟨1,([]:ah),([]:List ae),([]:List ah),(⟨12,([]:ah),0,([(⟨3,([120]:ah),0,([]:List aa)⟩:aa),(⟨3,([118]:ah),0,([]:List aa)⟩:aa)]:List aa)⟩:aa),([]:List aa)⟩:ae),(⟨2,([]:ah),([]:List ae),([]:List ah),(⟨0,([]:ah),0,([]:List aa)⟩:aa),([]:List aa)⟩:ae)]:List ae) 3 (by kernel_rfl))<|Oq (MU 6 ([([120]:ah),([121]:ah)]:List ah) ([(⟨1,([]:ah),([]:List ae),([]:List ah),(⟨0,([]:ah),0,([]:List aa)⟩:aa),([]:List aa)⟩:ae),(⟨1,([]:ah),([]:List ae),([]:List ah),(⟨12,([]:ah),0,([(⟨3,([120]:ah),0,([]:List aa)⟩:aa),(⟨3,([118]:ah),0,([]:List aa)⟩:aa)]:List aa)⟩:aa),([]:List aa)⟩:ae),(⟨2,([]:ah),([]:List ae),([]:List ah),(⟨0,([]:ah),0,([]:List aa)⟩:aa),([]:List aa)⟩:ae)]:List ae)) (MR 6 ([([120]:ah),([121]:ah)]:List ah) ([(⟨1,([]:ah),([]:List ae),([]:List ah),(⟨0,([]:ah),0,([]:List aa)⟩:aa),([]:List aa)⟩:ae),(⟨1,([]:ah),([]:List ae),([]:List ah),(⟨12,([]:ah),0,([(⟨3,([120]:ah),0,([]:List aa)⟩:aa),(⟨3,([118]:ah),0,([]:List aa)⟩:aa)]:List aa)⟩:aa),([]:List aa)⟩:ae),(⟨2,([]:ah),([]:List ae),([]:List ah),(⟨0,([]:ah),0,([]:List aa)⟩:aa),([]:List aa)⟩:ae)]:List ae))<|tx RN<|ty (cR (⟨6,([]:ah),([(⟨1,([]:ah),([]:List ae),([]:List ah),(⟨0,([]:ah),0,([]:List aa)⟩:aa),([]:List aa)⟩:ae),(⟨1,([]:ah),([]:List ae),([]:List ah),(⟨12,([]:ah),0,([(⟨3,([120]:ah),0,([]:List aa)⟩:aa),(⟨3,([118]:ah),0,([]:List aa)⟩:aa)]:List aa)⟩:aa),([]:List aa)⟩:ae),(⟨2,([]:ah),([]:List ae),([]:List ah),(⟨0,([]:ah),0,([]:List aa)⟩:aa),([]:List aa)⟩:ae)]:List ae),([([120]:ah),([121]:ah)]:List ah),(⟨0,([]:ah),0,([]:List aa)⟩:aa),([]:List aa)⟩:ae))<|tv (cU [([120]:ah)] 1 rfl)<|cJ (np _ br10)<|Oq (OS ([102]:ah) ([([120]:ah)]:List ah) r10) (OR ([102]:ah) ([([120]:ah)]:List ah) r10)<|cJ (RM _ br11)<|cJ (MK _ br12)<|Oq (SD ([99]:ah) r12) (SC ([99]:ah) r12)<|tv (qet.mk' (v:=qaV) Z8 ([(⟨([99]:ah),([]:List ah),r12,0,false,(⟨([]:List ah),([]:List A0),([]:List Oo),([]:List uF),(⟨0,([]:ah),([]:List ae),([]:List ah),(⟨0,([]:ah),0,([]:List aa)⟩:aa),([]:List aa)⟩:ae),([]:List aa)⟩:Jm)⟩:i8)]:List i8) 1 (by kernel_rfl))<|Oq (QS ([(⟨([99]:ah),([]:List ah),r12,0,false,(⟨([]:List ah),([]:List A0),([]:List Oo),([]:List uF),(⟨0,([]:ah),([]:List ae),([]:List ah),(⟨0,([]:ah),0,([]:List aa)⟩:aa),([]:List aa)⟩:ae),([]:List aa)⟩:Jm)⟩:i8)]:List i8)) (QM ([(⟨([99]:ah),([]:List ah),r12,0,false,(⟨([]:List ah),([]:List A0),([]:List Oo),([]:List uF),(⟨0,([]:ah),([]:List ae),([]:List ah),(⟨0,([]:ah),0,([]:List aa)⟩:aa),([]:List aa)⟩:ae),([]:List aa)⟩:Jm)⟩:i8)]:List i8))<|cJ (LZ _ br13)<|have pp16:=λ{X Y Z} (r:PV _ X Y Z)=>tv (jG r9 [])<|cJ (kF _ br14)<|r;tf (λc15=>tb λr17 br17=>tb λr18 br18=>tb λr19 br19=>tb λr20 br20=>tb λr21 br21=>tb λr22 br22=>have pp24:=λ{X Y Z} (r:PV _ X Y Z)=>pp16<|tg 4 c15<|cJ (np _ br17)<|cJ (np _ br18)<|tv (fj.mk' (v:=qQ) kD ([r17,r18]:List af) 2 (by kernel_rfl))<|cJ (oU _ br19)<|cJ (np _ br20)<|tv (fj.mk' (v:=qQ) kD ([r19,r20]:List af) 2 (by kernel_rfl))<|cJ (oU _ br21)<|cJ (kF _ br22)<|r;tf (λc23=>tb λr25 br25=>tb λr26 br26=>tb λr27 br27=>tb λr28 br28=>tb λr29 br29=>tb λr30 br30=>have pp32:=λ{X Y Z} (r:PV _ X Y Z)=>pp24<|tg 15 c23<|cJ (np _ br25)<|cJ (np _ br26)<|cJ (np _ br27)<|tv (fj.mk' (v:=qQ) kD ([r26,r27]:List af) 2 (by kernel_rfl))<|cJ (oU _ br28)<|tv (fj.mk' (v:=qQ) kD ([r25,r28]:List af) 2 (by kernel_rfl))<|cJ (oU _ br29)<|cJ (kF _ br30)<|r;tf (λc31=>tb λr33 br33=>have pp35:=λ{X Y Z} (r:PV _ X Y Z)=>pp32<|tg 26 c31<|tv (ij (⟨6,([]:ah),([(⟨1,([]:ah),([]:List ae),([]:List ah),(⟨0,([]:ah),0,([]:List aa)⟩:aa),([]:List aa)⟩:ae),(⟨1,([]:ah),([]:List ae),([]:List ah),(⟨12,([]:ah),0,([(⟨3,([120]:ah),0,([]:List aa)⟩:aa),(⟨3,([118]:ah),0,([]:List aa)⟩:aa)]:List aa)⟩:aa),([]:List aa)⟩:ae),(⟨2,([]:ah),([]:List ae),([]:List ah),(⟨0,([]:ah),0,([]:List aa)⟩:aa),([]:List aa)⟩:ae)]:List ae),([([120]:ah),([121]:ah)]:List ah),(⟨0,([]:ah),0,([]:List aa)⟩:aa),([]:List aa)⟩:ae) [])<|cJ (zI _ br33)<|r;tf (λc34=>tb λr36 br36=>have pp38:=λ{X Y Z} (r:PV _ X Y Z)=>pp35<|tg 31 c34<|Oq (GK) (GI)<|cJ (kF _ br36)<|r;tf (λc37=>have pp40:=λ{X Y Z} (r:PV _ X Y Z)=>pp38<|tg 36 c37<|r;tf (λc39=>have pp42:=λ{X Y Z} (r:PV _ X Y Z)=>pp40<|tg 40 c39<|r;tf (λc41=>have pp44:=λ{X Y Z} (r:PV _ X Y Z)=>pp42<|tg 44 c41<|r;tf (λc43=>pp44<|tg 48 c43<|tE) λc43=>pp44<|tg 48 c43<|tE) λc41=>pp42<|tg 44 c41<|tE) λc39=>pp40<|tg 40 c39<|tE) λc37=>pp38<|tg 36 c37<|tE) λc34=>pp35<|tg 31 c34<|tE) λc31=>pp32<|tg 26 c31<|tE) λc23=>pp24<|tg 15 c23<|tE) λc15=>pp16<|tg 4 c15<|tE
abbrev KR:=(af->Option Int)
section
variable(R143:KR)(v:waC)(n:Int)(i:Int)
def jx:Option ((Int×Int)⊕(Int)):=
 if decide (i<(v.length:Int))=true then
  (dh v i).bind λx3=>
  (R143 x3).bind λr4=>
  some (.inl ((if r4>n then r4 else n),dU (i+1)))
 else
  some (.inr n)
def Bp:Option Int:=loop (λ(zz:Int×Int)=>jx R143 v zz.1 zz.2) (n,i)
end
def DB(R143:KR)(e:af):Option Int:=
 (rj e).bind λr1=>
 (Bp R143 r1 0 0).bind λo5=>
 some (dU (o5+1))
def KO:(af->Option Int)->(af)->Option Int:=λ(rec:af->Option Int) (x:af)=>DB (λe=>rec e) x
def Ps(e:af):Option Int:=oE KO e
abbrev MJ:=(af->Option Int)
section
variable(t3:Int)
def DF:Option Bool:=
 if(t3==1)=true then
  some (t3==1)
 else
  some (t3==2)
end
section
variable(t3:Int)
def DG:Option Bool:=
 if(t3==10)=true then
  some (t3==10)
 else if(t3==11)=true then
  some (t3==11)
 else if(t3==12)=true then
  some (t3==12)
 else if(t3==13)=true then
  some (t3==13)
 else if(t3==14)=true then
  some (t3==14)
 else if(t3==16)=true then
  some (t3==16)
 else if(t3==17)=true then
  some (t3==17)
 else if(t3==18)=true then
  some (t3==18)
 else if(t3==19)=true then
  some (t3==19)
 else if(t3==20)=true then
  some (t3==20)
 else
  some (t3==24)
end
section
variable(t3:Int)
def DH:Option Bool:=
 if(t3==15)=true then
  some (t3==15)
 else if(t3==21)=true then
  some (t3==21)
 else if(t3==22)=true then
  some (t3==22)
 else
  some (t3==23)
end
def wA(op:Int):Option aH:=
 (DF op).bind λo2=>
 if o2=true then
  some (⟨true,false,0,0,false,false,false,false,true⟩:aH)
 else if(op==3)=true then
  some (⟨false,true,0,0,false,false,false,false,true⟩:aH)
 else if(op==4)=true then
  some (⟨false,true,0,6,false,false,true,false,true⟩:aH)
 else if(op==5)=true then
  some (⟨false,true,1,6,false,false,true,false,true⟩:aH)
 else if(op==6)=true then
  some (⟨false,false,1,1,true,false,false,false,true⟩:aH)
 else if(op==7)=true then
  some (⟨false,true,2,2,false,false,true,false,true⟩:aH)
 else if(op==8)=true then
  some (⟨false,false,3,3,false,false,false,false,true⟩:aH)
 else if(op==9)=true then
  some (⟨false,false,1,1,false,true,false,false,true⟩:aH)
 else
  (DG op).bind λo21=>
  if o21=true then
   some (⟨false,false,2,2,false,false,false,false,true⟩:aH)
  else
   (DH op).bind λo26=>
   if o26=true then
    some (⟨false,false,1,1,false,false,false,false,true⟩:aH)
   else if(op==25)=true then
    some (⟨false,true,2,7,false,false,false,false,true⟩:aH)
   else if(op==26)=true then
    some (⟨false,false,1,1,false,false,true,true,true⟩:aH)
   else
    some (⟨false,false,0,0,false,false,false,false,false⟩:aH)
section
variable(e:af)(v:aH)
def rZ:Option Bool:=
 if decide ((e.Kids.length:Int)<v.least)=true then
  some true
 else
  some (decide ((e.Kids.length:Int)>v.most))
end
section
variable(e:af)(v:aH)
def zv:Option Bool:=
 if v.params=true then
  if decide ((e.Params.length:Int)<1)=true then
   some true
  else
   some (decide ((e.Params.length:Int)>6))
 else
  some false
end
section
variable(e:af)(v:aH)
def zw:Option Bool:=
 if v.alts=true then
  if decide ((e.Alts.length:Int)<1)=true then
   some true
  else
   some (decide ((e.Alts.length:Int)>8))
 else
  some false
end
section
variable(e:af)(v:aH)(i:Int)
def nQ:Option (Int⊕(Unit⊕(Unit))):=
 if decide (i<(e.Alts.length:Int))=true then
  (dh e.Alts i).bind λx18=>
  if decide ((x18.Names.length:Int)>6)=true then
   some (.inr (.inl ()))
  else
   some (.inl (dU (i+1)))
 else
  some (.inr (.inr ()))
def zx:Option (Unit⊕(Unit)):=loop (λ(zz:Int)=>nQ e zz) i
end
def wz (e:af) (a:aH):Option Bool :=
 (rZ e a).bind λo3=>
 if o3=true then
  some false
 else
  (zv e a).bind λo9=>
  if o9=true then
   some false
  else
   (zw e a).bind λo15=>
   if o15=true then
    some false
   else
    (zx e 0).bind λo20=>match o20 with
    |(.inl o20)=>
     some false
    | (.inr o20) =>
     if(!a.exactly)=true then
      if(e.Op !=7)=true then
       some true
      else
       some (decide ((e.Types.length:Int)<=1))
     else if((e.Types.length:Int)==1)=true then
      if(e.Op !=7)=true then
       some true
      else
       some (decide ((e.Types.length:Int)<=1))
     else
      some false
def Dm(n:Int):Option Bool:=
 if decide (n>=(-1000000000000))=true then
  some (decide (n<=1000000000000))
 else
  some false
section
variable(s:ah)(t7:Int)(out:waA)(begin:Int)(t8:Int)
def fG:Option ((waA×Int×Int)⊕((waA×Int))):=
 if decide (t8<t7)=true then
  (jF s t8).bind λc2=>
  if(c2==46)=true then
   (Sa s (some begin) (some t8)).bind λs4=>
   (app out ([s4]:List ah)).bind λl5=>
   some (.inl (l5,dU (t8+1),dU (t8+1)))
  else
   some (.inl (out,begin,dU (t8+1)))
 else
  some (.inr (out,begin))
def Bl:Option ((waA×Int)):=loop (λ(zz:waA×Int×Int)=>fG s t7 zz.1 zz.2.1 zz.2.2) (out,begin,t8)
end
def z6(s:ah):Option waA:=
 (Bl s (s.length:Int) ([]:List ah) 0 0).bind λo6=>
 (Sa s (some o6.2) none).bind λs7=>
 (app o6.1 ([s7]:List ah)).bind λl8=>
 some l8
def ku(c:Int):Option Bool:=
 if decide (c>=97)=true then
  some (decide (c<=122))
 else
  some false
def HF:Option waA:=
 some ([([97,110,100]:ah),([97,115,115,117,109,101]:ah),([98,111,111,108]:ah),([98,111,117,110,100]:ah),([99,97,115,101]:ah),([99,101,108,108]:ah),([99,108,97,115,115]:ah),([100,97,116,97]:ah),([100,101,102]:ah),([100,105,118]:ah),([101,108,115,101]:ah),([101,110,100]:ah),([102,97,108,115,101]:ah),([102,111,114,97,108,108]:ah),([102,117,110]:ah),([103,101,116]:ah),([105,102]:ah),([105,110]:ah),([105,110,115,116]:ah),([105,110,116]:ah),([105,110,118,97,114,105,97,110,116]:ah),([108,101,116]:ah),([109,97,116,99,104]:ah),([109,101,97,115,117,114,101]:ah),([109,101,116,114,105,99]:ah),([109,111,100]:ah),([109,117]:ah),([110,101,119]:ah),([110,111,116]:ah),([111,102]:ah),([111,114]:ah),([113,117,97,108]:ah),([114,101,102,108,101,99,116]:ah),([115,101,116]:ah),([116,104,101,110]:ah),([116,114,117,101]:ah),([117,115,101]:ah),([118]:ah),([118,97,108]:ah),([116,97,103]:ah),([119,104,101,114,101]:ah),([119,105,116,104]:ah)]:List ah)
section
variable(v:waA)(s:ah)(t7:Int)(t8:Int)
def rX:Option (Int⊕(Int⊕(Unit))):=
 if decide (t8<t7)=true then
  (dh v t8).bind λx2=>
  if(x2==s)=true then
   some (.inr (.inl t8))
  else
   some (.inl (dU (t8+1)))
 else
  some (.inr (.inr ()))
def KL:Option (Int⊕(Unit)):=loop (λ(zz:Int)=>rX v s t7 zz) t8
end
def HE(a:waA)(s:ah):Option Int:=
 (KL a s (a.length:Int) 0).bind λo4=>match o4 with
 |(.inl o4)=>
  some o4
 |(.inr o4)=>
  some (-1)
open Go
def sO(s:ah):Option Bool:=
 HF.bind λr1=>
 (HE r1 s).bind λr2=>
 some (decide (r2>=0))
def oO(c:Int):Option Bool:=
 if decide (c>=48)=true then
  some (decide (c<=57))
 else
  some false
section
variable(s:ah)
def vb:Option Bool:=
 if decide ((s.length:Int)<1)=true then
  some true
 else if decide ((s.length:Int)>24)=true then
  some true
 else
  (jF s 0).bind λc4=>
  (ku c4).bind λr5=>
  if(!r5)=true then
   some true
  else
   (sO s).bind λr8=>
   some r8
end
section
variable(s:ah)(i:Int)(t23:Int)
def mi:Option Bool:=
 (jF s i).bind λc12=>
 (ku c12).bind λr13=>
 if(!r13)=true then
  (jF s i).bind λc16=>
  (oO c16).bind λr17=>
  if(!r17)=true then
   (jF s i).bind λc20=>
   some (c20 !=95)
  else
   some false
 else
  some false
end
section
variable(s:ah)(t23:Int)(t24:Int)
def po:Option (Int⊕(Unit⊕(Unit))):=
 if decide (t24<t23)=true then
  (mi s t24).bind λo21=>
  if o21=true then
   some (.inr (.inl ()))
  else
   some (.inl (dU (t24+1)))
 else
  some (.inr (.inr ()))
def vd:Option (Unit⊕(Unit)):=loop (λ(zz:Int)=>po s t23 zz) t24
end
def zY(s:ah):Option Int:=
 (vb s).bind λo9=>
 if o9=true then
  some 3
 else
  (vd s (s.length:Int) 0).bind λo23=>match o23 with
  |(.inl o23)=>
   some 3
  |(.inr o23)=>
   some 0
def lE(c:Int):Option Bool:=
 if decide (c>=65)=true then
  some (decide (c<=90))
 else
  some false
section
variable(s:ah)
def vg:Option Bool:=
 if decide ((s.length:Int)<1)=true then
  some true
 else if decide ((s.length:Int)>24)=true then
  some true
 else
  (jF s 0).bind λc4=>
  (lE c4).bind λr5=>
  if(!r5)=true then
   some true
  else if(s==([73,110,116]:ah))=true then
   some true
  else if(s==([66,111,111,108]:ah))=true then
   some true
  else if(s==([67,101,108,108]:ah))=true then
   some true
  else
   some (s==([70,117,110]:ah))
end
section
variable(s:ah)(i:Int)(t35:Int)
def ml:Option Bool:=
 (jF s i).bind λc17=>
 (ku c17).bind λr18=>
 if(!r18)=true then
  (jF s i).bind λc21=>
  (lE c21).bind λr22=>
  if(!r22)=true then
   (jF s i).bind λc25=>
   (oO c25).bind λr26=>
   some (!r26)
  else
   some false
 else
  some false
end
section
variable(s:ah)(t35:Int)(t36:Int)
def pq:Option (Int⊕(Unit⊕(Unit))):=
 if decide (t36<t35)=true then
  (ml s t36).bind λo27=>
  if o27=true then
   some (.inr (.inl ()))
  else
   some (.inl (dU (t36+1)))
 else
  some (.inr (.inr ()))
def vj:Option (Unit⊕(Unit)):=loop (λ(zz:Int)=>pq s t35 zz) t36
end
def zZ(s:ah):Option Int:=
 (vg s).bind λo14=>
 if o14=true then
  some 3
 else
  (vj s (s.length:Int) 0).bind λo29=>match o29 with
  |(.inl o29)=>
   some 3
  |(.inr o29)=>
   some 0
section
variable(p:ah)
def Du:Option Bool:=
 if decide ((p.length:Int)<1)=true then
  some true
 else
  some (decide ((p.length:Int)>24))
end
section
variable(p:ah)(plain:Bool)(word:Bool)(i:Int)(t18:Int)
def sP:Option Bool:=
 if plain=true then
  (jF p i).bind λc8=>
  (ku c8).bind λr9=>
  if r9=true then
   some true
  else
   (jF p i).bind λc12=>
   (lE c12).bind λr13=>
   if r13=true then
    some true
   else
    (jF p i).bind λc16=>
    (oO c16).bind λr17=>
    some r17
 else
  some false
end
section
variable(p:ah)(t18:Int)(plain:Bool)(word:Bool)(t19:Int)
def gn:Option ((Bool×Bool×Int)⊕((Bool×Bool))):=
 if decide (t19<t18)=true then
  (sP p plain t19).bind λo18=>
  if word=true then
   (jF p t19).bind λc20=>
   (ku c20).bind λr21=>
   if r21=true then
    some (.inl (o18,true,dU (t19+1)))
   else
    (jF p t19).bind λc24=>
    (oO c24).bind λr25=>
    if r25=true then
     some (.inl (o18,true,dU (t19+1)))
    else
     (jF p t19).bind λc28=>
     some (.inl (o18,c28==95,dU (t19+1)))
  else
   some (.inl (o18,false,dU (t19+1)))
 else
  some (.inr (plain,word))
def yn:Option ((Bool×Bool)):=loop (λ(zz:Bool×Bool×Int)=>gn p t18 zz.1 zz.2.1 zz.2.2) (plain,word,t19)
end
def Dt(p:ah):Option Bool:=
 (Du p).bind λo2=>
 if o2=true then
  some false
 else
  (jF p 0).bind λc4=>
  (ku c4).bind λr5=>
  (yn p (p.length:Int) true r5 0).bind λo29=>
  if o29.1=true then
   some true
  else
   some o29.2
section
variable(v:waA)
def sN:Option Bool:=
 (dh v 0).bind λx3=>
 (zY x3).bind λr4=>
 if (r4 != 0) = true then
  (dh v 0).bind λx7=>
  (zZ x7).bind λr8=>
  if(r8 !=0)=true then
   (dh v 0).bind λx11=>
   if(!(x11==([118]:ah)))=true then
    some true
   else
    some ((v.length:Int)==1)
  else
   some false
 else
  some false
end
section
variable(t35:waA)(t36:Int)(t37:Int)
def rW:Option (Int⊕(Unit⊕(Unit))):=
 if decide (t37<t36)=true then
  (dh t35 t37).bind λx18=>
  (Dt x18).bind λr19=>
  if(!r19)=true then
   some (.inr (.inl ()))
  else
   some (.inl (dU (t37+1)))
 else
  some (.inr (.inr ()))
def Dn:Option (Unit⊕(Unit)):=loop (λ(zz:Int)=>rW t35 t36 zz) t37
end
def io(s:ah):Option Int:=
 if decide ((s.length:Int)>120)=true then
  some 3
 else
  (z6 s).bind λr2=>
  (sN r2).bind λo14=>
  if o14=true then
   some 3
  else
   (Sa r2 (some 1) none).bind λl16=>
   (Dn l16 (l16.length:Int) 0).bind λo21=>match o21 with
   |(.inl o21)=>
    some 3
   |(.inr o21)=>
    some 0
section
variable(e:af)(v:aH)
def HN:Option Bool:=
 if v.name=true then
  (io e.Name).bind λr3=>
  some (r3 !=0)
 else
  some false
end
section
variable(e:af)(i:Int)
def pw:Option (Int⊕(Unit⊕(Unit))):=
 if decide (i<(e.Params.length:Int))=true then
  (dh e.Params i).bind λx7=>
  (io x7.Name).bind λr8=>
  if(r8 !=0)=true then
   some (.inr (.inl ()))
  else
   some (.inl (dU (i+1)))
 else
  some (.inr (.inr ()))
def Br:Option (Unit⊕(Unit)):=loop (λ(zz:Int)=>pw e zz) i
end
section
variable(e:af)(i:Int)(k:Int)
def py:Option (Int⊕(Unit⊕(Unit))):=
 (dh e.Alts i).bind λx15=>
 if decide (k<(x15.Names.length:Int))=true then
  (dh e.Alts i).bind λx17=>
  (dh x17.Names k).bind λx18=>
  (io x18).bind λr19=>
  if(r19 !=0)=true then
   some (.inr (.inl ()))
  else
   some (.inl (dU (k+1)))
 else
  some (.inr (.inr ()))
def Bu:Option (Unit⊕(Unit)):=loop (λ(zz:Int)=>py e i zz) k
end
section
variable(e:af)(i:Int)
def px:Option (Int⊕(Unit⊕(Unit))):=
 if decide (i<(e.Alts.length:Int))=true then
  (dh e.Alts i).bind λx12=>
  (io x12.Con).bind λr13=>
  if(r13 !=0)=true then
   some (.inr (.inl ()))
  else
   (Bu e i 0).bind λo21=>match o21 with
   |(.inl o21)=>
    some (.inr (.inl ()))
   |(.inr o21)=>
    some (.inl (dU (i+1)))
 else
  some (.inr (.inr ()))
def Bt:Option (Unit⊕(Unit)):=loop (λ(zz:Int)=>px e zz) i
end
def Jy(e:af)(a:aH):Option Bool:=
 (HN e a).bind λo4=>
 if o4=true then
  some false
 else
  (Br e 0).bind λo10=>match o10 with
  |(.inl o10)=>
   some false
  | (.inr o10) =>
   (Bt e 0).bind λo22=>match o22 with
   |(.inl o22)=>
    some false
   |(.inr o22)=>
    some true
section
variable(v:waA)(t5:Int)(t6:Int)
def pp:Option (Int⊕(Unit⊕(Unit))):=
 if decide (t6<t5)=true then
  (dh v t6).bind λx2=>
  (HE v x2).bind λr3=>
  if(r3 !=t6)=true then
   some (.inr (.inl ()))
  else
   some (.inl (dU (t6+1)))
 else
  some (.inr (.inr ()))
def Cu:Option (Unit⊕(Unit)):=loop (λ(zz:Int)=>pp v t5 zz) t6
end
def mj(a:waA):Option Bool:=
 (Cu a (a.length:Int) 0).bind λo5=>match o5 with
 |(.inl o5)=>
  some false
 |(.inr o5)=>
  some true
section
variable(e:af)(params:waA)(i:Int)
def fO:Option ((waA×Int)⊕(waA)):=
 if decide (i<(e.Params.length:Int))=true then
  (dh e.Params i).bind λx2=>
  (app params ([x2.Name]:List ah)).bind λl3=>
  some (.inl (l3,dU (i+1)))
 else
  some (.inr params)
def tX:Option waA:=loop (λ(zz:waA×Int)=>fO e zz.1 zz.2) (params,i)
end
section
variable(e:af)(params:waA)(cons:waA)(i:Int)
def iq:Option ((waA×Int)⊕(Unit⊕(waA))):=
 if decide (i<(e.Alts.length:Int))=true then
  (dh e.Alts i).bind λx6=>
  (app cons ([x6.Con]:List ah)).bind λl7=>
  (dh e.Alts i).bind λx8=>
  (mj x8.Names).bind λr9=>
  if(!r9)=true then
   some (.inr (.inl ()))
  else
   some (.inl (l7,dU (i+1)))
 else
  some (.inr (.inr cons))
def ii:Option (Unit⊕(waA)):=loop (λ(zz:waA×Int)=>iq e zz.1 zz.2) (cons,i)
end
def Bq(e:af):Option Bool:=
 (tX e ([]:List ah) 0).bind λo4=>
 (ii e ([]:List ah) 0).bind λo11=>match o11 with
 |(.inl o11)=>
  some false
 | (.inr o11) =>
  (mj o4).bind λr12=>
  if r12=true then
   (mj o11).bind λr14=>
   some r14
  else
   some false
abbrev KQ:=(ae->Option Int)
section
variable(R165:KQ)(t7:waB)(t8:Int)(n:Int)(t9:Int)
def jw:Option ((Int×Int)⊕(Int)):=
 if decide (t9<t8)=true then
  (dh t7 t9).bind λx2=>
  (R165 x2).bind λr3=>
  some (.inl ((if r3>n then r3 else n),dU (t9+1)))
 else
  some (.inr n)
def vp:Option Int:=loop (λ(zz:Int×Int)=>jw R165 t7 t8 zz.1 zz.2) (n,t9)
end
def sR(R165:KQ)(t:ae):Option Int:=
 (vp R165 t.Args (t.Args.length:Int) 0 0).bind λo4=>
 some (dU (o4+1))
def yy:(ae->Option Int)->(ae)->Option Int:=λ(rec:ae->Option Int) (x:ae)=>sR (λt=>rec t) x
def z8(t:ae):Option Int:=oE yy t
abbrev MI:=(ae->Option Int)
def wv(s:ah)(capital:Bool):Option Bool:=
 (io s).bind λr1=>
 if(r1==0)=true then
  (jF s 0).bind λc3=>
  if decide (c3>=65)=true then
   (jF s 0).bind λc6=>
   some ((decide (c6<=90))==capital)
  else
   some (false==capital)
 else
  some false
section
variable(t:ae)
def ip:Option Bool:=
 if decide (t.Op<1)=true then
  some true
 else if decide (t.Op>6)=true then
  some true
 else if(!(t.Name==([]:ah)))=true then
  if (t.Op != 4) = true then
   if(t.Op !=5)=true then
    some true
   else if decide ((t.Args.length:Int)>0)=true then
    if(t.Op !=4)=true then
     if(t.Op !=6)=true then
      some true
     else if decide ((t.Names.length:Int)>0)=true then
      some (t.Op !=6)
     else
      some false
    else if decide ((t.Names.length:Int)>0)=true then
     some (t.Op !=6)
    else
     some false
   else if decide ((t.Names.length:Int)>0)=true then
    some (t.Op !=6)
   else
    some false
  else if decide ((t.Args.length:Int)>0)=true then
   if(t.Op !=4)=true then
    if(t.Op !=6)=true then
     some true
    else if decide ((t.Names.length:Int)>0)=true then
     some (t.Op !=6)
    else
     some false
   else if decide ((t.Names.length:Int)>0)=true then
    some (t.Op !=6)
   else
    some false
  else if decide ((t.Names.length:Int)>0)=true then
   some (t.Op !=6)
  else
   some false
 else if decide ((t.Args.length:Int)>0)=true then
  if(t.Op !=4)=true then
   if(t.Op !=6)=true then
    some true
   else if decide ((t.Names.length:Int)>0)=true then
    some (t.Op !=6)
   else
    some false
  else if decide ((t.Names.length:Int)>0)=true then
   some (t.Op !=6)
  else
   some false
 else if decide ((t.Names.length:Int)>0)=true then
  some (t.Op !=6)
 else
  some false
end
section
variable(t:ae)
def lH:Option Bool:=
 if(t.Op==4)=true then
  some (decide ((t.Args.length:Int)>6))
 else
  some false
end
section
variable(t:ae)
def jW:Option Bool:=
 if(t.Op==6)=true then
  if decide ((t.Args.length:Int)<2)=true then
   some true
  else if decide ((t.Args.length:Int)>7)=true then
   some true
  else if decide ((t.Names.length:Int)>0)=true then
   some ((t.Names.length:Int)!=(dU ((t.Args.length:Int) - 1)))
  else
   some false
 else
  some false
end
section
variable(t:ae)
def lI:Option Bool:=
 if(t.Op==4)=true then
  (wv t.Name true).bind λr65=>
  if(!r65)=true then
   some true
  else if(t.Op==5)=true then
   (wv t.Name false).bind λr70=>
   some (!r70)
  else
   some false
 else if(t.Op==5)=true then
  (wv t.Name false).bind λr73=>
  some (!r73)
 else
  some false
end
def nj(t:ae):Option Int:=
 (ip t).bind λo47=>
 if o47=true then
  some 1
 else
  (lH t).bind λo51=>
  if o51=true then
   some 13
  else
   (jW t).bind λo61=>
   if o61=true then
    some 13
   else
    (lI t).bind λo74=>
    if o74=true then
     some 3
    else
     some 0
section
variable(R166:MI)(t13:waB)(t14:Int)(t15:Int)
def zr:Option (Int⊕(Int⊕(Unit))):=
 if decide (t15<t14)=true then
  (dh t13 t15).bind λx4=>
  (R166 x4).bind λr5=>
  if(r5 !=0)=true then
   some (.inr (.inl r5))
  else
   some (.inl (dU (t15+1)))
 else
  some (.inr (.inr ()))
def oR:Option (Int⊕(Unit)):=loop (λ(zz:Int)=>zr R166 t13 t14 zz) t15
end
def j4(R166:MI)(t:ae):Option Int:=
 (nj t).bind λr1=>
 if(r1 !=0)=true then
  some r1
 else
  (oR R166 t.Args (t.Args.length:Int) 0).bind λo7=>match o7 with
  |(.inl o7)=>
   some o7
  |(.inr o7)=>
   some 0
def ww:(ae->Option Int)->(ae)->Option Int:=λ(rec:ae->Option Int) (x:ae)=>j4 (λt=>rec t) x
def Aa(t:ae):Option Int:=oE ww t
def ig(t:ae):Option Int:=
 (z8 t).bind λr1=>
 if decide (r1>40)=true then
  some 8
 else
  (Aa t).bind λr3=>
  some r3
abbrev wB:=(ae->ae->Option Bool)
section
variable(v:waA)(v2:waA)(i:Int)
def gw:Option (Int⊕(Unit⊕(Unit))):=
 if decide (i<(v.length:Int))=true then
  (dh v i).bind λx3=>
  (dh v2 i).bind λx4=>
  if(!(x3==x4))=true then
   some (.inr (.inl ()))
  else
   some (.inl (dU (i+1)))
 else
  some (.inr (.inr ()))
def Ab:Option (Unit⊕(Unit)):=loop (λ(zz:Int)=>gw v v2 zz) i
end
def zt(a:waA)(a2:waA):Option Bool:=
 if((a.length:Int)!=(a2.length:Int))=true then
  some false
 else
  (Ab a a2 0).bind λo6=>match o6 with
  |(.inl o6)=>
   some false
  |(.inr o6)=>
   some true
abbrev Bw:=(aa->aa->Option Bool)
abbrev Gv(R:Bw):Prop:=∀(a:aa) (a2:aa),OV 49 [.agg (ac a),.agg (ac a2)] (R a a2) (λr=>.bool r) []
noncomputable def qgl:Code:=f49.body.getD .skip
def qkq:List Nat:=[39]
theorem qia:ZF Pg qkq 49 f49 qgl:=zf call49 func49 rfl mixed
section
variable(v:aa)(v2:aa)
def Dx:Option Bool:=
 if(v.Op !=v2.Op)=true then
  some true
 else if(!(v.Name==v2.Name))=true then
  some true
 else if(v.N !=v2.N)=true then
  some true
 else
  some ((v.Kids.length:Int)!=(v2.Kids.length:Int))
theorem MD:OJ 0 (cA qgl 12) (Dx v v2) .normal (λo=>aZ 53 [(2,.eptr (ac v)),(3,.eptr (ac v2)),(33,.bool o)] [.dead,.dead] []) (aZ 53 [(2,.eptr (ac v)),(3,.eptr (ac v2))] [.dead,.dead] []):=qia.j<|
 have pp2:=λ{X Y Z} (r:PV _ X Y Z)=>tw (aQ v)<|tw (aQ v2)<|r;tf (λc1=>pp2<|tg 6 c1<|tE) λc1=>have pp4:=λ{X Y Z} (r:PV _ X Y Z)=>pp2<|tg 6 c1<|tw (cy v)<|tw (cy v2)<|r;tf (λc3=>pp4<|tg 13 c3<|tE) λc3=>have pp6:=λ{X Y Z} (r:PV _ X Y Z)=>pp4<|tg 13 c3<|tw (bM v)<|tw (bM v2)<|r;tf (λc5=>pp6<|tg 20 c5<|tE) λc5=>pp6<|tg 20 c5<|tw (aK v)<|cq (eL.ln v.Kids)<|tw (aK v2)<|cq (eL.ln v2.Kids)<|tE
end
section
variable(R172:Bw)(v:aa)(v2:aa)(t36:Int)(t37:Int)
def zq:aF:=aZ 53 [(2,.eptr (ac v)),(3,.eptr (ac v2)),(36,.int .i64 t36),(37,.int .i64 t37)] [.dead,.dead] []
def Gb(o:Unit⊕(Unit)):Exit:=match o with
 |(.inl _)=>.ret
 |(.inr _)=>.exit 0
def Gc(o:Unit⊕(Unit)):aF:=match o with
 |(.inl o)=>aZ 53 [(4,.bool false)] [.dead,.dead] []
 |(.inr o)=>aZ 53 [] [.dead,.dead] []
def rY:Option (Int⊕(Unit⊕(Unit))):=
 if decide (t37<t36)=true then
  (dh v.Kids t37).bind λx10=>
  (dh v2.Kids t37).bind λx11=>
  (R172 x10 x11).bind λr12=>
  if(!r12)=true then
   some (.inr (.inl ()))
  else
   some (.inl (dU (t37+1)))
 else
  some (.inr (.inr ()))
def Dy:Option (Unit⊕(Unit)):=loop (λ(zz:Int)=>rY R172 v v2 t36 zz) t37
theorem Lw(hR172:Gv R172):OL 0 (cA qgl 119) (rY R172 v v2 t36 t37) (λ(zz:Int)=>zq v v2 t36 zz) Gb Gc (zq v v2 t36 t37):=qia.l<|
 tF (tb λx10 bx10=>tb λx11 bx11=>tb λr12 br12=>Sq [0,1,0,7,15,0,32,0,224,480,1023,2047]<|tw (aK v)<|tv (eL.ia (k:=.i64) bx10)<|tv (bC x10)<|tw (aK v2)<|tv (eL.ia (k:=.i64) bx11)<|tv (bC x11)<|cJ (hR172 _ _ _ br12)<|tF tE<|tE)<|tE
theorem Dz(hR172:Gv R172):OK 0 (.loop (cA qgl 119)) (Dy R172 v v2 t36 t37) Gb Gc (zq v v2 t36 t37):=FA λ_=>Lw _ _ _ _ _ hR172
end
def Bn(R172:Bw)(a:aa)(a2:aa):Option Bool:=
 (Dx a a2).bind λo7=>
 if o7=true then
  some false
 else
  (Dy R172 a a2 (a.Kids.length:Int) 0).bind λo14=>match o14 with
  |(.inl o14)=>
   some false
  |(.inr o14)=>
   some true
theorem QA(R172:Bw)(hR172:Gv R172){a:aa}{a2:aa}:OV 49 [.agg (ac a),.agg (ac a2)] (Bn R172 a a2) (λr=>.bool r) []:=qia.v<|
 tb λo7 bo7=>te (eI a)<|te (eI a2)<|lB 1<|dm (MD a a2 _ bo7)<|tF tE<|tw (aK a)<|cq (eL.ln a.Kids)<|t2 (λo14 bo14=>dm (Dz R172 a a2 (a.Kids.length:Int) 0 hR172 _ bo14)<|tE) λo14 bo14=>dm (Dz R172 a a2 (a.Kids.length:Int) 0 hR172 _ bo14)<|tE
def Gw:((aa×aa)->Option Bool)->(aa×aa)->Option Bool:=λ(rec:(aa×aa)->Option Bool) (x:aa×aa)=>Bn (λa a2=>rec (a,a2)) x.1 x.2
def nh(a:aa)(a2:aa):Option Bool:=oE Gw (a,a2)
theorem oQ{a:aa}{a2:aa}:OV 49 [.agg (ac a),.agg (ac a2)] (nh a a2) (λr=>.bool r) []:=IJ λ_ h=>
 eE (F:=Gw) (M:=λ(x:aa×aa) (r:Bool)=>CC Pg GE 49 [.agg (ac x.1),.agg (ac x.2)] (.bool r) []) (λrec hrec x r h=>QA _ (λa a2=>IJ λr h=>hrec (a,a2) r h) _ h) h
section
variable(R170:wB)(v:waB)(v2:waB)(i:Int)
def gy:Option (Int⊕(Unit⊕(Unit))):=
 if decide (i<(v.length:Int))=true then
  (dh v i).bind λx3=>
  (dh v2 i).bind λx4=>
  (R170 x3 x4).bind λr5=>
  if(!r5)=true then
   some (.inr (.inl ()))
  else
   some (.inl (dU (i+1)))
 else
  some (.inr (.inr ()))
def Ac:Option (Unit⊕(Unit)):=loop (λ(zz:Int)=>gy R170 v v2 zz) i
end
def zu(R170:wB)(a:waB)(a2:waB):Option Bool:=
 if((a.length:Int)!=(a2.length:Int))=true then
  some false
 else
  (Ac R170 a a2 0).bind λo7=>match o7 with
  |(.inl o7)=>
   some false
  |(.inr o7)=>
   some true
section
variable(v:ae)(v2:ae)
def Cv:Option Bool:=
 if(v.Op !=v2.Op)=true then
  some true
 else if(!(v.Name==v2.Name))=true then
  some true
 else
  (zt v.Names v2.Names).bind λr5=>
  if(!r5)=true then
   some true
  else
   (nh v.Pred v2.Pred).bind λr8=>
   if(!r8)=true then
    some true
   else
    some ((v.Preds.length:Int)!=(v2.Preds.length:Int))
end
section
variable(v:ae)(v2:ae)(i:Int)
def fN:Option (Int⊕(Unit⊕(Unit))):=
 if decide (i<(v.Preds.length:Int))=true then
  (dh v.Preds i).bind λx14=>
  (dh v2.Preds i).bind λx15=>
  (nh x14 x15).bind λr16=>
  if(!r16)=true then
   some (.inr (.inl ()))
  else
   some (.inl (dU (i+1)))
 else
  some (.inr (.inr ()))
def Cw:Option (Unit⊕(Unit)):=loop (λ(zz:Int)=>fN v v2 zz) i
end
def wy(R170:wB)(a:ae)(a2:ae):Option Bool:=
 (Cv a a2).bind λo11=>
 if o11=true then
  some false
 else
  (Cw a a2 0).bind λo18=>match o18 with
  |(.inl o18)=>
   some false
  |(.inr o18)=>
   (zu R170 a.Args a2.Args).bind λr19=>
   some r19
def DE:((ae×ae)->Option Bool)->(ae×ae)->Option Bool:=λ(rec:(ae×ae)->Option Bool) (x:ae×ae)=>wy (λa a2=>rec (a,a2)) x.1 x.2
def HL(a:ae)(a2:ae):Option Bool:=oE DE (a,a2)
def MF(t:ae):Option Bool:=
 (HL t (⟨0,([]:ah),([]:List ae),([]:List ah),(⟨0,([]:ah),0,([]:List aa)⟩:aa),([]:List aa)⟩:ae)).bind λr1=>
 some r1
section
variable(e:af)(i:Int)
def pz:Option (Int⊕(Int⊕(Unit))):=
 if decide (i<(e.Types.length:Int))=true then
  (dh e.Types i).bind λx2=>
  (ig x2).bind λr3=>
  if(r3 !=0)=true then
   some (.inr (.inl r3))
  else
   some (.inl (dU (i+1)))
 else
  some (.inr (.inr ()))
def vw:Option (Int⊕(Unit)):=loop (λ(zz:Int)=>pz e zz) i
end
section
variable(e:af)(i:Int)
def Bv:Option (Unit⊕(Int)):=
 (dh e.Params i).bind λx7=>
 (MF x7.Type_).bind λr8=>
 if r8=true then
  some (.inl ())
 else
  (dh e.Params i).bind λx10=>
  (ig x10.Type_).bind λr11=>
  if(r11 !=0)=true then
   some (.inr r11)
  else
   some (.inl ())
end
section
variable(e:af)(i:Int)
def gz:Option (Int⊕(Int⊕(Unit))):=
 if decide (i<(e.Params.length:Int))=true then
  (Bv e i).bind λo13=>match o13 with
  |(.inl o13)=>
   some (.inl (dU (i+1)))
  |(.inr o13)=>
   some (.inr (.inl o13))
 else
  some (.inr (.inr ()))
def vA:Option (Int⊕(Unit)):=loop (λ(zz:Int)=>gz e zz) i
end
def EN(e:af):Option Int:=
 (vw e 0).bind λo5=>match o5 with
 |(.inl o5)=>
  some o5
 | (.inr o5) =>
  (vA e 0).bind λo14=>match o14 with
  |(.inl o14)=>
   some o14
  |(.inr o14)=>
   some 0
section
variable(e:af)(m:Bool)(m2:Bool)(m3:Int)(m4:Int)(m5:Bool)(m6:Bool)(m7:Bool)(m8:Bool)(m9:Bool)
def oS:Option Bool:=
 if(!m9)=true then
  some true
 else if(!m)=true then
  if(e.N !=0)=true then
   some true
  else if(!m2)=true then
   if(!(e.Name==([]:ah)))=true then
    some true
   else if(m4==0)=true then
    some (decide ((e.Kids.length:Int)>0))
   else
    some false
  else if(m4==0)=true then
   some (decide ((e.Kids.length:Int)>0))
  else
   some false
 else if(!m2)=true then
  if(!(e.Name==([]:ah)))=true then
   some true
  else if(m4==0)=true then
   some (decide ((e.Kids.length:Int)>0))
  else
   some false
 else if(m4==0)=true then
  some (decide ((e.Kids.length:Int)>0))
 else
  some false
end
section
variable(e:af)(m:Bool)(m2:Bool)(m3:Int)(m4:Int)(m5:Bool)(m6:Bool)(m7:Bool)(m8:Bool)(m9:Bool)
def sT:Option Bool:=
 if (!m5) = true then
  if decide ((e.Params.length:Int)>0)=true then
   some true
  else if(!m6)=true then
   if decide ((e.Alts.length:Int)>0)=true then
    some true
   else if(!m7)=true then
    some (decide ((e.Types.length:Int)>0))
   else
    some false
  else if(!m7)=true then
   some (decide ((e.Types.length:Int)>0))
  else
   some false
 else if(!m6)=true then
  if decide ((e.Alts.length:Int)>0)=true then
   some true
  else if(!m7)=true then
   some (decide ((e.Types.length:Int)>0))
  else
   some false
 else if(!m7)=true then
  some (decide ((e.Types.length:Int)>0))
 else
  some false
end
section
variable(e:af)(m:Bool)(m2:Bool)(m3:Int)(m4:Int)(m5:Bool)(m6:Bool)(m7:Bool)(m8:Bool)(m9:Bool)
def sU:Option Bool:=
 if (e.Op == 1) = true then
  (Dm e.N).bind λr50=>
  if(!r50)=true then
   some true
  else if(e.Op==2)=true then
   if(e.N !=0)=true then
    some (e.N !=1)
   else
    some false
  else
   some false
 else if(e.Op==2)=true then
  if(e.N !=0)=true then
   some (e.N !=1)
  else
   some false
 else
  some false
end
def lJ (e:af):Option Int :=
 (wA e.Op).bind λr1=>
 (oS e r1.n r1.name r1.most r1.ok).bind λo23=>
 if o23=true then
  some 1
 else
  (sT e r1.params r1.alts r1.types).bind λo44=>
  if o44=true then
   some 1
  else
   (wz e r1).bind λr46=>
   if(!r46)=true then
    some 13
   else
    (sU e).bind λo61=>
    if o61=true then
     some 2
    else
     (Jy e r1).bind λr63=>
     if(!r63)=true then
      some 3
     else
      (Bq e).bind λr65=>
      if(!r65)=true then
       some 4
      else
       (EN e).bind λr67=>
       some r67
section
variable(v:Int)(v2:waC)(i:Int)
def yA:Option Bool:=
 if decide (i<(v2.length:Int))=true then
  some (v==0)
 else
  some false
end
section
variable(R144:MJ)(v2:waC)(v:Int)(i:Int)
def iI:Option ((Int×Int)⊕(Int)):=
 (yA v v2 i).bind λo4=>
 if o4=true then
  (dh v2 i).bind λx6=>
  (R144 x6).bind λr7=>
  some (.inl (r7,dU (i+1)))
 else
  some (.inr v)
def sS:Option Int:=loop (λ(zz:Int×Int)=>iI R144 v2 zz.1 zz.2) (v,i)
end
def Gx(R144:MJ)(e:af):Option Int:=
 (lJ e).bind λr1=>
 (rj e).bind λr2=>
 (sS R144 r2 r1 0).bind λo8=>
 some o8
def MG:(af->Option Int)->(af)->Option Int:=λ(rec:af->Option Int) (x:af)=>Gx (λe=>rec e) x
def Sv(e:af):Option Int:=oE MG e
def wd(e:af):Option Int:=
 (EM e).bind λr1=>
 if decide (r1>400)=true then
  some 7
 else
  (Ps e).bind λr3=>
  if decide (r3>40)=true then
   some 8
  else
   (Sv e).bind λr5=>
   some r5
abbrev KP:=(aa->Option Int)
section
variable(R189:KP)(t7:waD)(t8:Int)(n:Int)(t9:Int)
def MC:Option ((Int×Int)⊕(Int)):=
 if decide (t9<t8)=true then
  (dh t7 t9).bind λx2=>
  (R189 x2).bind λr3=>
  some (.inl ((if r3>n then r3 else n),dU (t9+1)))
 else
  some (.inr n)
def HH:Option Int:=loop (λ(zz:Int×Int)=>MC R189 t7 t8 zz.1 zz.2) (n,t9)
end
def Dv(R189:KP)(p:aa):Option Int:=
 (HH R189 p.Kids (p.Kids.length:Int) 0 0).bind λo4=>
 some (dU (o4+1))
def Dw:(aa->Option Int)->(aa)->Option Int:=λ(rec:aa->Option Int) (x:aa)=>Dv (λp=>rec p) x
def EL(p:aa):Option Int:=oE Dw p
abbrev MH:=(aa->Option Int)
def z7(op:Int):Option Bool:=
 if(op==3)=true then
  some true
 else if(op==4)=true then
  some true
 else
  some (op==5)
section
variable(n:Int)(t5:Int)
def yq:Option Bool:=
 if(t5==1)=true then
  some (t5==1)
 else if(t5==2)=true then
  some (t5==2)
 else
  some (t5==3)
end
section
variable(n:Int)(t5:Int)
def yr:Option Bool:=
 if(t5==4)=true then
  some (t5==4)
 else
  some (t5==5)
end
section
variable(n:Int)(t5:Int)
def yt:Option Bool:=
 if(t5==9)=true then
  some (t5==9)
 else
  some (t5==14)
end
def ni(op:Int)(n:Int):Option Bool:=
 (yq op).bind λo3=>
 if o3=true then
  some (n==0)
 else
  (yr op).bind λo6=>
  if o6=true then
   if decide (n>=1)=true then
    some (decide (n<=24))
   else
    some false
  else
   (yt op).bind λo10=>
   if o10=true then
    some (n==1)
   else
    some (n==2)
def j3(p:aa):Option Bool:=
 if(p.Op==3)=true then
  if(p.Name==([118]:ah))=true then
   some true
  else
   (io p.Name).bind λr4=>
   some (r4==0)
 else if(p.Op==4)=true then
  if(p.Name==([116,97,103]:ah))=true then
   some true
  else if(p.Name==([118,97,108]:ah))=true then
   some true
  else
   (io p.Name).bind λr10=>
   some (r10==0)
 else if(p.Op==5)=true then
  (io p.Name).bind λr12=>
  some (r12==0)
 else
  some true
section
variable(p:aa)
def yu:Option Bool:=
 if(p.Op==1)=true then
  some true
 else
  some (p.Op==2)
end
section
variable(p:aa)(number:Bool)
def yw:Option Bool:=
 if decide (p.Op<1)=true then
  some true
 else if decide (p.Op>18)=true then
  some true
 else if(!(p.Name==([]:ah)))=true then
  (z7 p.Op).bind λr10=>
  if(!r10)=true then
   some true
  else if(p.N !=0)=true then
   if(!number)=true then
    some true
   else
    (ni p.Op (p.Kids.length:Int)).bind λr17=>
    some (!r17)
  else
   (ni p.Op (p.Kids.length:Int)).bind λr18=>
   some (!r18)
 else if(p.N !=0)=true then
  if(!number)=true then
   some true
  else
   (ni p.Op (p.Kids.length:Int)).bind λr23=>
   some (!r23)
 else
  (ni p.Op (p.Kids.length:Int)).bind λr24=>
  some (!r24)
end
section
variable(p:aa)
def lG:Option Bool:=
 if (p.Op == 1) = true then
  (Dm p.N).bind λr29=>
  if(!r29)=true then
   some true
  else if(p.Op==2)=true then
   if decide (p.N<0)=true then
    some true
   else
    some (decide (p.N>1))
  else
   some false
 else if(p.Op==2)=true then
  if decide (p.N<0)=true then
   some true
  else
   some (decide (p.N>1))
 else
  some false
end
section
variable(p:aa)
def yx:Option Bool:=
 if(p.Op==8)=true then
  (dh p.Kids 0).bind λx46=>
  some (x46.Op !=1)
 else
  some false
end
def lF(p:aa):Option Int:=
 (yu p).bind λo3=>
 (yw p o3).bind λo25=>
 if o25=true then
  some 1
 else
  (lG p).bind λo40=>
  if o40=true then
   some 2
  else
   (j3 p).bind λr42=>
   if(!r42)=true then
    some 3
   else
    (yx p).bind λo47=>
    if o47=true then
     some 6
    else
     some 0
section
variable(R190:MH)(t13:waD)(t14:Int)(t15:Int)
def iH:Option (Int⊕(Int⊕(Unit))):=
 if decide (t15<t14)=true then
  (dh t13 t15).bind λx4=>
  (R190 x4).bind λr5=>
  if(r5 !=0)=true then
   some (.inr (.inl r5))
  else
   some (.inl (dU (t15+1)))
 else
  some (.inr (.inr ()))
def sQ:Option (Int⊕(Unit)):=loop (λ(zz:Int)=>iH R190 t13 t14 zz) t15
end
def oA(R190:MH)(p:aa):Option Int:=
 (lF p).bind λr1=>
 if(r1 !=0)=true then
  some r1
 else
  (sQ R190 p.Kids (p.Kids.length:Int) 0).bind λo7=>match o7 with
  |(.inl o7)=>
   some o7
  |(.inr o7)=>
   some 0
def Bo:(aa->Option Int)->(aa)->Option Int:=λ(rec:aa->Option Int) (x:aa)=>oA (λp=>rec p) x
def HK(p:aa):Option Int:=oE Bo p
def ri(p:aa):Option Int:=
 (oP p).bind λr1=>
 if decide (r1>400)=true then
  some 7
 else
  (EL p).bind λr3=>
  if decide (r3>40)=true then
   some 8
  else
   (HK p).bind λr5=>
   some r5
noncomputable def qio:Code:=f145.body.getD .skip
def qgK:List Nat:=[]
theorem qhM:ZF Pg qgK 145 f145 qio:=zf call145 func145 rfl mixed
def ME:Option aa:=
 some (⟨2,([]:ah),1,([]:List aa)⟩:aa)
theorem KM:OV 145 [] ME (λr=>.agg (ac r)) [(3,28)]:=qhM.va<|
 tx N7<|Oq (QT 2 1) (QN 2 1)<|ty (bU (⟨2,([]:ah),1,([]:List aa)⟩:aa))<|Jn λq=>aI (Ya (⟨2,([]:ah),1,([]:List aa)⟩:aa)) q.2
abbrev jA:=(ae->ae->Option Bool)
abbrev pn(R:jA):Prop:=∀(a:ae) (a2:ae),OV 19 [.agg (aj a),.agg (aj a2)] (R a a2) (λr=>.bool r) []
noncomputable def qiO:Code:=f48.body.getD .skip
def qkp:List Nat:=[15]
theorem qjB:ZF Pg qkp 48 f48 qiO:=zf call48 func48 rfl mixed
section
variable(v:waA)(v2:waA)(t12:Int)(t13:Int)
def zn:aF:=aZ 26 [(0,sl cS v),(1,sl cS v2),(12,.int .i64 t12),(13,.int .i64 t13)] [] []
def F9(o:Unit⊕(Unit)):Exit:=match o with
 |(.inl _)=>.ret
 |(.inr _)=>.exit 0
def Ga(o:Unit⊕(Unit)):aF:=match o with
 |(.inl o)=>aZ 26 [(4,.bool false)] [] []
 |(.inr o)=>aZ 26 [] [] []
def zo:Option (Int⊕(Unit⊕(Unit))):=
 if decide (t13<t12)=true then
  (dh v t13).bind λx3=>
  (dh v2 t13).bind λx4=>
  if(!(x3==x4))=true then
   some (.inr (.inl ()))
  else
   some (.inl (dU (t13+1)))
 else
  some (.inr (.inr ()))
def Dq:Option (Unit⊕(Unit)):=loop (λ(zz:Int)=>zo v v2 t12 zz) t13
theorem Lq:OL 0 (cA qiO 119) (zo v v2 t12 t13) (λ(zz:Int)=>zn v v2 t12 zz) F9 Ga (zn v v2 t12 t13):=qjB.l<|
 tF (tb λx3 bx3=>tb λx4 bx4=>Sq [0,0,3,7,0,0,48,112,255]<|tv (kQ.ia (k:=.i64) bx3)<|tv (kb qct (.str x3) [])<|tv (kQ.ia (k:=.i64) bx4)<|tv (kb qct (.str x4) [])<|tF tE<|tE)<|tE
theorem Dr:OK 0 (.loop (cA qiO 119)) (Dq v v2 t12 t13) F9 Ga (zn v v2 t12 t13):=FA λ_=>Lq _ _ _ _
end
def Dp(a:waA)(a2:waA):Option Bool:=
 if((a.length:Int)!=(a2.length:Int))=true then
  some false
 else
  (Dq a a2 (a.length:Int) 0).bind λo6=>match o6 with
  |(.inl o6)=>
   some false
  |(.inr o6)=>
   some true
theorem Ds{a:waA}{a2:waA}:OV 48 [sl cS a,sl cS a2] (Dp a a2) (λr=>.bool r) []:=qjB.v<|
 cq (kQ.ln a)<|cq (kQ.ln a2)<|tF tE<|cq (kQ.ln a)<|t2 (λo6 bo6=>dm (Dr a a2 (a.length:Int) 0 _ bo6)<|tE) λo6 bo6=>dm (Dr a a2 (a.length:Int) 0 _ bo6)<|tE
noncomputable def qls:Code:=f91.body.getD .skip
def qkH:List Nat:=[]
theorem qk7:ZF Pg qkH 91 f91 qls:=zf call91 func91 rfl mixed
def DA(p:aa):Option Bool:=
 ME.bind λr1=>
 (nh p r1).bind λr2=>
 if r2=true then
  some true
 else
  (nh p (⟨0,([]:ah),0,([]:List aa)⟩:aa)).bind λr4=>
  some r4
theorem KN{p:aa}:OV 91 [.agg (ac p)] (DA p) (λr=>.bool r) []:=qk7.v<|
 tb λr1 br1=>tb λr2 br2=>te (eI p)<|tf (λc3=>Sq [0,0,3,7,15,15,63,127,255]<|tv (bC p)<|cJ (KM _ br1)<|cJ (oQ _ br2)<|tg 4 c3<|tE) λc3=>tb λr4 br4=>Sq [0,0,3,7,15,15,63,127,255]<|tv (bC p)<|cJ (KM _ br1)<|cJ (oQ _ br2)<|tg 4 c3<|tv (bC p)<|Oq (MS) (MP)<|cJ (oQ _ br4)<|tE
noncomputable def qll:Code:=f50.body.getD .skip
def qkr:List Nat:=[]
theorem qk0:ZF Pg qkr 50 f50 qll:=zf call50 func50 rfl mixed
def HP(a:aa)(a2:aa):Option Bool:=
 (DA a).bind λr1=>
 if r1=true then
  (DA a2).bind λr4=>
  if r4=true then
   some true
  else
   (nh a a2).bind λr7=>
   some r7
 else
  (nh a a2).bind λr8=>
  some r8
theorem Sw{a:aa}{a2:aa}:OV 50 [.agg (ac a),.agg (ac a2)] (HP a a2) (λr=>.bool r) []:=qk0.v<|
 tb λr1 br1=>te (eI a)<|te (eI a2)<|have pp3:=λ{X Y Z} (r:PV _ X Y Z)=>tv (bC a)<|cJ (KN _ br1)<|r;tf (λc2=>tb λr4 br4=>have pp6:=λ{X Y Z} (r:PV _ X Y Z)=>pp3<|tg 3 c2<|tv (bC a2)<|cJ (KN _ br4)<|r;tf (λc5=>pp6<|tg 7 c5<|tE) λc5=>tb λr7 br7=>pp6<|tg 7 c5<|tv (bC a)<|tv (bC a2)<|cJ (oQ _ br7)<|tE) λc2=>tb λr8 br8=>pp3<|tg 3 c2<|tv (bC a)<|tv (bC a2)<|cJ (oQ _ br8)<|tE
noncomputable def qiP:Code:=f51.body.getD .skip
def qks:List Nat:=[15]
theorem qjC:ZF Pg qks 51 f51 qiP:=zf call51 func51 rfl mixed
section
variable(R223:jA)(v:waB)(v2:waB)(t12:Int)(t13:Int)
def oB:aF:=aZ 27 [(0,sl aj v),(1,sl aj v2),(12,.int .i64 t12),(13,.int .i64 t13)] [] []
def wJ(o:Unit⊕(Unit)):Exit:=match o with
 |(.inl _)=>.ret
 |(.inr _)=>.exit 0
def wK(o:Unit⊕(Unit)):aF:=match o with
 |(.inl o)=>aZ 27 [(4,.bool false)] [] []
 |(.inr o)=>aZ 27 [] [] []
def j5:Option (Int⊕(Unit⊕(Unit))):=
 if decide (t13<t12)=true then
  (dh v t13).bind λx3=>
  (dh v2 t13).bind λx4=>
  (R223 x3 x4).bind λr5=>
  if(!r5)=true then
   some (.inr (.inl ()))
  else
   some (.inl (dU (t13+1)))
 else
  some (.inr (.inr ()))
def mq:Option (Unit⊕(Unit)):=loop (λ(zz:Int)=>j5 R223 v v2 t12 zz) t13
theorem DK(hR223:pn R223):OL 0 (cA qiP 119) (j5 R223 v v2 t12 t13) (λ(zz:Int)=>oB v v2 t12 zz) wJ wK (oB v v2 t12 t13):=qjC.l<|
 tF (tb λx3 bx3=>tb λx4 bx4=>tb λr5 br5=>Sq [0,0,3,7,0,0,48,112,255,511]<|tv (dy.ia (k:=.i64) bx3)<|tv (cC x3)<|tv (dy.ia (k:=.i64) bx4)<|tv (cC x4)<|cJ (hR223 _ _ _ br5)<|tF tE<|tE)<|tE
theorem uH(hR223:pn R223):OK 0 (.loop (cA qiP 119)) (mq R223 v v2 t12 t13) wJ wK (oB v v2 t12 t13):=FA λ_=>DK _ _ _ _ _ hR223
end
def nn(R223:jA)(a:waB)(a2:waB):Option Bool:=
 if((a.length:Int)!=(a2.length:Int))=true then
  some false
 else
  (mq R223 a a2 (a.length:Int) 0).bind λo7=>match o7 with
  |(.inl o7)=>
   some false
  |(.inr o7)=>
   some true
theorem Ad(R223:jA)(hR223:pn R223){a:waB}{a2:waB}:OV 51 [sl aj a,sl aj a2] (nn R223 a a2) (λr=>.bool r) []:=qjC.v<|
 cq (dy.ln a)<|cq (dy.ln a2)<|tF tE<|cq (dy.ln a)<|t2 (λo7 bo7=>dm (uH R223 a a2 (a.length:Int) 0 hR223 _ bo7)<|tE) λo7 bo7=>dm (uH R223 a a2 (a.length:Int) 0 hR223 _ bo7)<|tE
end Go.Proofs.YtibglelmlnfojaaGreatDoor
