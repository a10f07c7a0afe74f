/- PROVED: a part of the proof. Conditions: none. -/
import Derived.Test.YtbaamopmfmpfaaaGreatDoorPkC10
noncomputable section
namespace Go.Proofs.YtbaamopmfmpfaaaGreatDoor
open Go Go.Proofs.Tryz
set_option linter.unusedVariables false
set_option maxRecDepth 100000
noncomputable def Xl:Code:=f30.body.getD .skip
def TK:List Nat:=[119]
section
variable(most:Int)(e:bL)(n:Int)(i:Int)
def Lz:az:=aY 120 [(1,.int .i64 most),(2,.eptr (aP e)),(5,.int .i64 n),(6,.int .i64 i)] [.dead] []
def vJ(o:Bool):az:=aY 120 [(1,.int .i64 most),(2,.eptr (aP e)),(5,.int .i64 n),(6,.int .i64 i),(28,.bool o)] [.dead] []
def G1:Option Bool:=
 if(decide (i<(e.Params.length:Int)))=true then
  some (decide (n<=most))
 else
  some false
theorem Jq{x:Bool}(h:G1 most e n i=some x):aT Pg GE 0 (cA Xl 476) (EX .normal (vJ most e n i x)) (Lz most e n i):=by
 have p4:=fun{sc F} (r:PS sc F)=>sv (jZ e)<|sv (j0 e)<|cz (U0.ln e.Params)<|r
 rcases aZ h with⟨c3,h⟩|⟨c3,h⟩
 ·obtain rfl:=lf h
  exact cw TK (p4<|sg 6 c3<|eF .normal (vJ most e n i (decide (n<=most))))<|by kernel_rfl
 ·obtain rfl:=lf h
  exact cw TK (p4<|sg 6 c3<|eF .normal (vJ most e n i false))<|by kernel_rfl
end
section
variable(most:Int)(e:bL)(n:Int)(i:Int)
def mq:az:=aY 120 [(1,.int .i64 most),(2,.eptr (aP e)),(5,.int .i64 n),(6,.int .i64 i)] [.dead] []
def vN(o:Int):az:=aY 120 [(1,.int .i64 most),(2,.eptr (aP e)),(5,.int .i64 o)] [.dead] []
def Cu:Option ((Int×Int)⊕(Int)):=
 (G1 most e n i).bind fun o5=>
 if o5=true then
  (cR e.Params i).bind fun x8=>
  (qu .i64 (x8.Name.length:Int) 50).bind fun q9=>
  (cR e.Params i).bind fun x10=>
  (BB ([x10.Type_]:List ae) most).bind fun r11=>
  some (.inl (aR ((aR ((aR (n+1))+q9))+r11),aR (i+1)))
 else
  some (.inr n)
def G4:Option Int:=loop (fun(zz:Int×Int)=>Cu most e zz.1 zz.2) (n,i)
theorem HM{y:(Int×Int)⊕(Int)}(h:Cu most e n i=some y):aT Pg GE 0 (cA Xl 119) (LQ (fun(zz:Int×Int)=>mq most e zz.1 zz.2) (fun _=>.exit 0) (vN most e) y) (mq most e n i):=by
 obtain⟨o5,bo5,h⟩:=aB h
 have p7:=fun{sc F} (r:PS sc F)=>nD 1<|di (Jq most e n i bo5)<|r
 rcases aZ h with⟨c6,h⟩|⟨c6,h⟩
 ·obtain⟨x8,bx8,h⟩:=aB h
  obtain⟨q9,bq9,h⟩:=aB h
  obtain⟨x10,bx10,h⟩:=aB h
  obtain⟨r11,br11,h⟩:=aB h
  obtain rfl:=lf h
  exact rU TK (p7<|sg 0 c6<|qX [0,1,0,4,0,28,60,124,252,508,1023,0,2048,0,14336,30720,63488,129024,0,522240,1048575,2097151]<|sv (jZ e)<|sv (j0 e)<|sv (U0.ia (k:=.i64) bx8)<|sv (y2 x8)<|sv (CS x8)<|cz (gI underlying9 x8.Name)<|sv (yX (P:=Pg) (t:=3) bq9)<|sv (jZ e)<|sv (j0 e)<|sv (U0.ia (k:=.i64) bx10)<|sv (y3 x10)<|sv (AY x10)<|sv (cX.mk' (v:=lE) gm ([x10.Type_]:List ae) 1 (by kernel_rfl))<|bT (Ed br11)<|eF .normal (mq most e (aR ((aR ((aR (n+1))+q9))+r11)) (aR (i+1))))<|by kernel_rfl
 ·obtain rfl:=lf h
  have z:=p7<|sg 0 c6<|eF (.exit 0) (vN most e n)
  exact i7 TK (by intro hx;cases hx) z<|by kernel_rfl
theorem Jt{x:Int}(h:G4 most e n i=some x):aT Pg GE 0 (.loop (cA Xl 119)) (EX (.exit 0) (vN most e x)) (mq most e n i):=
 aT.loop (S:=fun(zz:Int×Int)=>mq most e zz.1 zz.2) (ex:=(fun _=>.exit 0)) (s:=(n,i)) h fun zz y hy=>HM most e zz.1 zz.2 hy
end
section
variable(most:Int)(e:bL)(n:Int)(i:Int)
def LA:az:=aY 120 [(1,.int .i64 most),(2,.eptr (aP e)),(5,.int .i64 n),(7,.int .i64 i)] [.dead] []
def vK(o:Bool):az:=aY 120 [(1,.int .i64 most),(2,.eptr (aP e)),(5,.int .i64 n),(7,.int .i64 i),(61,.bool o)] [.dead] []
def G2:Option Bool:=
 if(decide (i<(e.Kids.length:Int)))=true then
  some (decide (n<=most))
 else
  some false
theorem Jr{x:Bool}(h:G2 most e n i=some x):aT Pg GE 0 (cA Xl 988) (EX .normal (vK most e n i x)) (LA most e n i):=by
 have p14:=fun{sc F} (r:PS sc F)=>sv (qo e)<|sv (qr e)<|cz (Yq.ln e.Kids)<|r
 rcases aZ h with⟨c13,h⟩|⟨c13,h⟩
 ·obtain rfl:=lf h
  exact cw TK (p14<|sg 6 c13<|eF .normal (vK most e n i (decide (n<=most))))<|by kernel_rfl
 ·obtain rfl:=lf h
  exact cw TK (p14<|sg 6 c13<|eF .normal (vK most e n i false))<|by kernel_rfl
end
section
variable(R8:tC)(most:Int)(e:bL)(n:Int)(i:Int)
def mr:az:=aY 120 [(1,.int .i64 most),(2,.eptr (aP e)),(5,.int .i64 n),(7,.int .i64 i)] [.dead] []
def vO(o:Int):az:=aY 120 [(1,.int .i64 most),(2,.eptr (aP e)),(5,.int .i64 o)] [.dead] []
def Cv:Option ((Int×Int)⊕(Int)):=
 (G2 most e n i).bind fun o15=>
 if o15=true then
  (cR e.Kids i).bind fun x18=>
  (R8 x18 (aR (most - n))).bind fun r19=>
  some (.inl (aR (n+r19),aR (i+1)))
 else
  some (.inr n)
def G5:Option Int:=loop (fun(zz:Int×Int)=>Cv R8 most e zz.1 zz.2) (n,i)
theorem HN(hR8:sV R8){y:(Int×Int)⊕(Int)}(h:Cv R8 most e n i=some y):aT Pg GE 0 (cA Xl 247) (LQ (fun(zz:Int×Int)=>mr most e zz.1 zz.2) (fun _=>.exit 2) (vO most e) y) (mr most e n i):=by
 obtain⟨o15,bo15,h⟩:=aB h
 have p17:=fun{sc F} (r:PS sc F)=>nD 1<|di (Jr most e n i bo15)<|r
 rcases aZ h with⟨c16,h⟩|⟨c16,h⟩
 ·obtain⟨x18,bx18,h⟩:=aB h
  obtain⟨r19,br19,h⟩:=aB h
  obtain rfl:=lf h
  exact rU TK (p17<|sg 0 c16<|sv (qo e)<|sv (qr e)<|sv (Yq.ia (k:=.i64) bx18)<|sv (Qj x18)<|bT (hR8 _ _ _ br19)<|eF .normal (mr most e (aR (n+r19)) (aR (i+1))))<|by kernel_rfl
 ·obtain rfl:=lf h
  have z:=p17<|sg 0 c16<|eF (.exit 2) (vO most e n)
  exact i7 TK (by intro hx;cases hx) z<|by kernel_rfl
theorem Ju(hR8:sV R8){x:Int}(h:G5 R8 most e n i=some x):aT Pg GE 0 (.loop (cA Xl 247)) (EX (.exit 2) (vO most e x)) (mr most e n i):=
 aT.loop (S:=fun(zz:Int×Int)=>mr most e zz.1 zz.2) (ex:=(fun _=>.exit 2)) (s:=(n,i)) h fun zz y hy=>HN R8 most e zz.1 zz.2 hR8 hy
end
section
variable(most:Int)(e:bL)(n:Int)(i:Int)
def LB:az:=aY 120 [(1,.int .i64 most),(2,.eptr (aP e)),(5,.int .i64 n),(8,.int .i64 i)] [.dead] []
def vM(o:Bool):az:=aY 120 [(1,.int .i64 most),(2,.eptr (aP e)),(5,.int .i64 n),(8,.int .i64 i),(84,.bool o)] [.dead] []
def G3:Option Bool:=
 if(decide (i<(e.Alts.length:Int)))=true then
  some (decide (n<=most))
 else
  some false
theorem Js{x:Bool}(h:G3 most e n i=some x):aT Pg GE 0 (cA Xl 2012) (EX .normal (vM most e n i x)) (LB most e n i):=by
 have p22:=fun{sc F} (r:PS sc F)=>sv (ik e)<|sv (il e)<|cz (Sx.ln e.Alts)<|r
 rcases aZ h with⟨c21,h⟩|⟨c21,h⟩
 ·obtain rfl:=lf h
  exact cw TK (p22<|sg 6 c21<|eF .normal (vM most e n i (decide (n<=most))))<|by kernel_rfl
 ·obtain rfl:=lf h
  exact cw TK (p22<|sg 6 c21<|eF .normal (vM most e n i false))<|by kernel_rfl
end
section
variable(R8:tC)(most:Int)(e:bL)(n:Int)(i:Int)
def ms:az:=aY 120 [(1,.int .i64 most),(2,.eptr (aP e)),(5,.int .i64 n),(8,.int .i64 i)] [.dead] []
def vP(o:Int):az:=aY 120 [(5,.int .i64 o)] [.dead] []
def Cw:Option ((Int×Int)⊕(Int)):=
 (G3 most e n i).bind fun o23=>
 if o23=true then
  (cR e.Alts i).bind fun x26=>
  (qu .i64 (x26.Con.length:Int) 50).bind fun q27=>
  (cR e.Alts i).bind fun x28=>
  (Mt x28.Names most).bind fun r29=>
  (cR e.Alts i).bind fun x30=>
  (R8 x30.Body (aR (most - (aR ((aR ((aR (n+1))+q27))+r29))))).bind fun r31=>
  some (.inl (aR ((aR ((aR ((aR (n+1))+q27))+r29))+r31),aR (i+1)))
 else
  some (.inr n)
def G6:Option Int:=loop (fun(zz:Int×Int)=>Cw R8 most e zz.1 zz.2) (n,i)
theorem HO(hR8:sV R8){y:(Int×Int)⊕(Int)}(h:Cw R8 most e n i=some y):aT Pg GE 0 (cA Xl 503) (LQ (fun(zz:Int×Int)=>ms most e zz.1 zz.2) (fun _=>.exit 4) vP y) (ms most e n i):=by
 obtain⟨o23,bo23,h⟩:=aB h
 have p25:=fun{sc F} (r:PS sc F)=>nD 1<|di (Js most e n i bo23)<|r
 rcases aZ h with⟨c24,h⟩|⟨c24,h⟩
 ·obtain⟨x26,bx26,h⟩:=aB h
  obtain⟨q27,bq27,h⟩:=aB h
  obtain⟨x28,bx28,h⟩:=aB h
  obtain⟨r29,br29,h⟩:=aB h
  obtain⟨x30,bx30,h⟩:=aB h
  obtain⟨r31,br31,h⟩:=aB h
  obtain rfl:=lf h
  exact rU TK (p25<|sg 0 c24<|qX [0,1,0,4,0,28,60,124,252,508,1023,0,2048,0,14336,30720,63488,0,260096,524287,1048575]<|sv (ik e)<|sv (il e)<|sv (Sx.ia (k:=.i64) bx26)<|sv (LP x26)<|sv (Qg x26)<|cz (gI underlying9 x26.Con)<|sv (yX (P:=Pg) (t:=3) bq27)<|sv (ik e)<|sv (il e)<|sv (Sx.ia (k:=.i64) bx28)<|sv (CL x28)<|sv (EQ x28)<|bT (NR br29)<|sv (ik e)<|sv (il e)<|sv (Sx.ia (k:=.i64) bx30)<|sv (CM x30)<|sv (ER x30)<|bT (hR8 _ _ _ br31)<|eF .normal (ms most e (aR ((aR ((aR ((aR (n+1))+q27))+r29))+r31)) (aR (i+1))))<|by kernel_rfl
 ·obtain rfl:=lf h
  have z:=p25<|sg 0 c24<|eF (.exit 4) (vP n)
  exact i7 TK (by intro hx;cases hx) z<|by kernel_rfl
theorem Jv(hR8:sV R8){x:Int}(h:G6 R8 most e n i=some x):aT Pg GE 0 (.loop (cA Xl 503)) (EX (.exit 4) (vP x)) (ms most e n i):=
 aT.loop (S:=fun(zz:Int×Int)=>ms most e zz.1 zz.2) (ex:=(fun _=>.exit 4)) (s:=(n,i)) h fun zz y hy=>HO R8 most e zz.1 zz.2 hR8 hy
end
def xM(R8:tC)(e:bL)(most:Int):Option Int:=
 (qu .i64 (e.Name.length:Int) 50).bind fun q1=>
 (BB e.Types most).bind fun r2=>
 (G4 most e (aR ((aR (1+q1))+r2)) 0).bind fun o12=>
 (G5 R8 most e o12 0).bind fun o20=>
 (G6 R8 most e o20 0).bind fun o32=>
 some o32
theorem NQ(R8:tC)(hR8:sV R8){e:bL}{most:Int}{r:Int}(h:xM R8 e most=some r):CC Pg GE 30 [.agg (aP e),.int .i64 most] (.int .i64 r) []:=by
 obtain⟨q1,bq1,h⟩:=aB h
 obtain⟨r2,br2,h⟩:=aB h
 obtain⟨o12,bo12,h⟩:=aB h
 obtain⟨o20,bo20,h⟩:=aB h
 obtain⟨o32,bo32,h⟩:=aB h
 obtain rfl:=lf h
 have z:=se (Qw e)<|qX [0,1,3,7,15,0,32,0,224,511,1023]<|sv (CO e)<|sv (ET e)<|cz (gI underlying9 e.Name)<|sv (yX (P:=Pg) (t:=3) bq1)<|sv (CP e)<|sv (CR e)<|bT (Ed br2)<|di (Jt most e (aR ((aR (1+q1))+r2)) 0 bo12)<|di (Ju R8 most e o12 0 hR8 bo20)<|di (Jv R8 most e o20 0 hR8 bo32)<|en (aI (rP (.int .i64 o32))<|trivial)
 exact cn TK call30 func30 (c:=Xl) rfl (aI (wP e) (aI trivial trivial)) z<|by kernel_rfl
def C7:((bL×Int)->Option Int)->(bL×Int)->Option Int:=fun(rec:(bL×Int)->Option Int) (x:bL×Int)=>xM (fun e most=>rec (e,most)) x.1 x.2
def Ea(e:bL)(most:Int):Option Int:=oG C7 (e,most)
theorem PA{e:bL}{most:Int}{r:Int}(h:Ea e most=some r):CC Pg GE 30 [.agg (aP e),.int .i64 most] (.int .i64 r) []:=
 cU (F:=C7) (M:=fun(x:bL×Int) (r:Int)=>CC Pg GE 30 [.agg (aP x.1),.int .i64 x.2] (.int .i64 r) []) (fun rec hrec x r h=>NQ _ (fun e most r h=>hrec (e,most) r h) h) h
noncomputable def b8:Code:=Tryz.f8.body.getD .skip
def A8:List Nat:=[]
def pB(t:ae):Option Bool:=
 (Ea (⟨0,([]:ag),0,([]:List bL),([]:List nF),([]:List rf),([t]:List ae)⟩:bL) 150).bind fun r1=>
 some (decide (r1<=150))
theorem Em{t:ae}{r:Bool}(h:pB t=some r):CC Pg GE 8 [.agg (af t)] (.bool r) []:=by
 obtain⟨r1,br1,h⟩:=aB h
 obtain rfl:=lf h
 have z:=se (cF t)<|sv (bw t)<|sv (cX.mk' (v:=lE) gm ([t]:List ae) 1 (by kernel_rfl))<|sb (Rw ([t]:List ae)) (Rr ([t]:List ae))<|bT (PA br1)<|en (aI (rP (.bool (decide (r1<=150))))<|trivial)
 exact cn A8 call8 func8 (c:=b8) rfl (aI (av t) trivial) z<|by kernel_rfl
noncomputable def b9:Code:=Tryz.f9.body.getD .skip
def A9:List Nat:=[]
section
variable(v:waA)(i:Int)
def NX:az:=aY 20 [(0,sl cS v),(3,.int .i64 i)] [] []
def yg(o:Bool):az:=aY 20 [(0,sl cS v),(3,.int .i64 i),(19,.bool o)] [] []
def Df:Option Bool:=
 if(decide (i>=30))=true then
  some true
 else
  (cR v i).bind fun x3=>
  some (decide ((x3.length:Int)>100))
theorem LH{x:Bool}(h:Df v i=some x):aT Pg GE 0 (cA b9 890) (EX .normal (yg v i x)) (NX v i):=by
 rcases aZ h with⟨c2,h⟩|⟨c2,h⟩
 ·obtain rfl:=lf h
  exact cw A9 (sg 3 c2<|eF .normal (yg v i true))<|by kernel_rfl
 ·obtain⟨x3,bx3,h⟩:=aB h
  obtain rfl:=lf h
  exact cw A9 (sg 3 c2<|sv (bJ.ia (k:=.i64) bx3)<|sv (im Mo (.str x3) [])<|cz (gI underlying9 x3)<|eF .normal (yg v i (decide ((x3.length:Int)>100))))<|by kernel_rfl
end
section
variable(v:waA)(i:Int)
def ol:az:=aY 20 [(0,sl cS v),(3,.int .i64 i)] [] []
def om(o:Unit⊕(Unit)):Exit:=match o with
 |(.inl _)=>.ret
 |(.inr _)=>.exit 0
def ls(o:Unit⊕(Unit)):az:=match o with
 |(.inl o)=>aY 20 [(2,.bool false)] [] []
 |(.inr o)=>aY 20 [] [] []
def lr:Option (Int⊕(Unit⊕(Unit))):=
 if(decide (i<(v.length:Int)))=true then
  (Df v i).bind fun o4=>
  if o4=true then
   some (.inr (.inl ()))
  else
   some (.inl (aR (i+1)))
 else
  some (.inr (.inr ()))
def Dg:Option (Unit⊕(Unit)):=loop (fun(zz:Int)=>lr v zz) i
theorem JM{y:Int⊕(Unit⊕(Unit))}(h:lr v i=some y):aT Pg GE 0 (cA b9 55) (LQ (fun(zz:Int)=>ol v zz) om ls y) (ol v i):=by
 rcases aZ h with⟨c1,h⟩|⟨c1,h⟩
 ·obtain⟨o4,bo4,h⟩:=aB h
  have p6:=fun{sc F} (r:PS sc F)=>cz (bJ.ln v)<|sg 0 c1<|nD 1<|di (LH v i bo4)<|r
  rcases aZ h with⟨c5,h⟩|⟨c5,h⟩
  ·obtain rfl:=lf h
   have z:=p6<|sg 0 c5<|eF (om (.inl ())) (ls (.inl ()))
   exact i7 A9 (by intro hx;cases hx) z<|by kernel_rfl
  ·obtain rfl:=lf h
   exact rU A9 (p6<|sg 0 c5<|eF .normal (ol v (aR (i+1))))<|by kernel_rfl
 ·obtain rfl:=lf h
  have z:=cz (bJ.ln v)<|sg 0 c1<|eF (om (.inr ())) (ls (.inr ()))
  exact i7 A9 (by intro hx;cases hx) z<|by kernel_rfl
theorem CA{x:Unit⊕(Unit)}(h:Dg v i=some x):aT Pg GE 0 (.loop (cA b9 55)) (EX (om x) (ls x)) (ol v i):=
 aT.loop (S:=fun(zz:Int)=>ol v zz) (ex:=om) (s:=i) h fun zz y hy=>JM v zz hy
end
def El(a:waA):Option Bool:=
 (Dg a 0).bind fun o7=>match o7 with
 |(.inl o7)=>
  some false
 |(.inr o7)=>
  some true
theorem Rg{a:waA}{r:Bool}(h:El a=some r):CC Pg GE 9 [sl cS a] (.bool r) []:=by
 obtain⟨o7,bo7,h⟩:=aB h
 rcases o7 with o7|o7
 ·obtain rfl:=lf h
  have z:=di (e:=.ret) (s1:=ls (.inl o7)) (CA a 0 bo7)<|en (aI (rP (.bool false))<|trivial)
  exact cn A9 call9 func9 (c:=b9) rfl (aI (aq gG a) trivial) z<|by kernel_rfl
 ·obtain rfl:=lf h
  have z:=di (e:=.exit 0) (s1:=ls (.inr o7)) (CA a 0 bo7)<|en (aI (rP (.bool true))<|trivial)
  exact cn A9 call9 func9 (c:=b9) rfl (aI (aq gG a) trivial) z<|by kernel_rfl
abbrev uM:=(ae->Option Int)
abbrev zy(R:uM):Prop:=∀(t:ae) (r:Int),R t=some r->CC Pg GE 60 [.agg (af t)] (.int .i64 r) []
noncomputable def qcB:Code:=f60.body.getD .skip
def qcm:List Nat:=[]
section
variable(R16:uM)(t7:waC)(t8:Int)(n:Int)(t9:Int)
def kn:az:=aY 20 [(3,.int .i64 n),(7,sl af t7),(8,.int .i64 t8),(9,.int .i64 t9)] [.dead] []
def tb(o:Int):az:=aY 20 [(3,.int .i64 o)] [.dead] []
def z6:Option ((Int×Int)⊕(Int)):=
 if(decide (t9<t8))=true then
  (cR t7 t9).bind fun x2=>
  (R16 x2).bind fun r3=>
  some (.inl ((if r3>n then r3 else n),aR (t9+1)))
 else
  some (.inr n)
def xK:Option Int:=loop (fun(zz:Int×Int)=>z6 R16 t7 t8 zz.1 zz.2) (n,t9)
theorem FO(hR16:zy R16){y:(Int×Int)⊕(Int)}(h:z6 R16 t7 t8 n t9=some y):aT Pg GE 0 (cA qcB 119) (LQ (fun(zz:Int×Int)=>kn t7 t8 zz.1 zz.2) (fun _=>.exit 0) tb y) (kn t7 t8 n t9):=by
 rcases aZ h with⟨c1,h⟩|⟨c1,h⟩
 ·obtain⟨x2,bx2,h⟩:=aB h
  obtain⟨r3,br3,h⟩:=aB h
  obtain rfl:=lf h
  have z:=sg 0 c1<|sv (cX.ia (k:=.i64) bx2)<|sv (bw x2)<|sx Bn<|sx (iT x2)<|sv (dj x2 [])<|bT (hR16 _ _ br3)<|zn 0 .normal (kn t7 t8 (if r3>n then r3 else n) (aR (t9+1))) rfl (eg (aI trivial (aI (up (aq av t7)) (aI trivial (aI trivial trivial))))) (aI trivial trivial)
  exact dS (A:=qcm) mixed z<|by kernel_rfl
 ·obtain rfl:=lf h
  have z:=sg 0 c1<|eF (.exit 0) (tb n)
  exact i7 qcm (by intro hx;cases hx) z<|by kernel_rfl
theorem HK(hR16:zy R16){x:Int}(h:xK R16 t7 t8 n t9=some x):aT Pg GE 0 (.loop (cA qcB 119)) (EX (.exit 0) (tb x)) (kn t7 t8 n t9):=
 aT.loop (S:=fun(zz:Int×Int)=>kn t7 t8 zz.1 zz.2) (ex:=(fun _=>.exit 0)) (s:=(n,t9)) h fun zz y hy=>FO R16 t7 t8 zz.1 zz.2 hR16 hy
end
def uG(R16:uM)(t:ae):Option Int:=
 (xK R16 t.Args (t.Args.length:Int) 0 0).bind fun o4=>
 some (aR (o4+1))
theorem Lu(R16:uM)(hR16:zy R16){t:ae}{r:Int}(h:uG R16 t=some r):CC Pg GE 60 [.agg (af t)] (.int .i64 r) []:=by
 obtain⟨o4,bo4,h⟩:=aB h
 obtain rfl:=lf h
 have z:=se (cF t)<|sv (aW t)<|sv (aX t)<|cz (cX.ln t.Args)<|di (HK R16 t.Args (t.Args.length:Int) 0 0 hR16 bo4)<|en (aI (rP (.int .i64 (aR (o4+1))))<|trivial)
 exact cn qcm call60 func60 (c:=qcB) rfl (aI (av t) trivial) z<|by kernel_rfl
def zZ:(ae->Option Int)->(ae)->Option Int:=fun(rec:ae->Option Int) (x:ae)=>uG (fun t=>rec t) x
def FM(t:ae):Option Int:=oG zZ t
theorem NO{t:ae}{r:Int}(h:FM t=some r):CC Pg GE 60 [.agg (af t)] (.int .i64 r) []:=
 cU (F:=zZ) (M:=fun(x:ae) (r:Int)=>CC Pg GE 60 [.agg (af x)] (.int .i64 r) []) (fun rec hrec x r h=>Lu _ (fun t r h=>hrec t r h) h) h
abbrev yb:=(ae->Option Int)
abbrev C1(R:yb):Prop:=∀(t:ae) (r:Int),R t=some r->CC Pg GE 61 [.agg (af t)] (.int .i64 r) []
noncomputable def Zx:Code:=f126.body.getD .skip
def Xq:List Nat:=[10,15,25]
section
variable(s:ag)(t7:Int)(out:waA)(begin:Int)(t8:Int)
def iD:az:=aY 31 [(0,.str s),(3,sl cS out),(4,.int .i64 begin),(7,.int .i64 t7),(8,.int .i64 t8)] [] [((3,0),9)]
def sZ(o:waA×Int):az:=aY 31 [(0,.str s),(3,sl cS o.1),(4,.int .i64 o.2)] [] [((3,0),9)]
def iE:Option ((waA×Int×Int)⊕((waA×Int))):=
 if(decide (t8<t7))=true then
  (sG s t8).bind fun c2=>
  if(c2==46)=true then
   (Ld s (some begin) (some t8)).bind fun s5=>
   (app out ([s5]:List ag)).bind fun l6=>
   some (.inl (l6,aR (t8+1),aR (t8+1)))
  else
   some (.inl (out,begin,aR (t8+1)))
 else
  some (.inr (out,begin))
def xE:Option ((waA×Int)):=loop (fun(zz:waA×Int×Int)=>iE s t7 zz.1 zz.2.1 zz.2.2) (out,begin,t8)
theorem FH{y:(waA×Int×Int)⊕((waA×Int))}(h:iE s t7 out begin t8=some y):aT Pg GE 0 (cA Zx 247) (LQ (fun(zz:waA×Int×Int)=>iD s t7 zz.1 zz.2.1 zz.2.2) (fun _=>.exit 0) (sZ s) y) (iD s t7 out begin t8):=by
 rcases aZ h with⟨c1,h⟩|⟨c1,h⟩
 ·obtain⟨c2,bc2,h⟩:=aB h
  have p4:=fun{sc F} (r:PS sc F)=>sg 0 c1<|sv (po (k:=.i64) underlying9 bc2)<|r
  rcases aZ h with⟨c3,h⟩|⟨c3,h⟩
  ·obtain⟨s5,bs5,h⟩:=aB h
   obtain⟨l6,bl6,h⟩:=aB h
   obtain rfl:=lf h
   exact rU Xq (p4<|sg 0 c3<|sv (Zb underlying9 bs5)<|sv (bJ.mk' (v:=PVal.str) KI ([s5]:List ag) 1 (by kernel_rfl))<|sv (bJ.ap bl6)<|eF .normal (iD s t7 l6 (aR (t8+1)) (aR (t8+1))))<|by kernel_rfl
  ·obtain rfl:=lf h
   exact rU Xq (p4<|sg 0 c3<|eF .normal (iD s t7 out begin (aR (t8+1))))<|by kernel_rfl
 ·obtain rfl:=lf h
  have z:=sg 0 c1<|eF (.exit 0) (sZ s (out,begin))
  exact i7 Xq (by intro hx;cases hx) z<|by kernel_rfl
theorem HF{x:(waA×Int)}(h:xE s t7 out begin t8=some x):aT Pg GE 0 (.loop (cA Zx 247)) (EX (.exit 0) (sZ s x)) (iD s t7 out begin t8):=
 aT.loop (S:=fun(zz:waA×Int×Int)=>iD s t7 zz.1 zz.2.1 zz.2.2) (ex:=(fun _=>.exit 0)) (s:=(out,begin,t8)) h fun zz y hy=>FH s t7 zz.1 zz.2.1 zz.2.2 hy
end
def Bx(s:ag):Option waA:=
 (xE s (s.length:Int) ([]:List ag) 0 0).bind fun o7=>
 (Ld s (some o7.2) none).bind fun s8=>
 (app o7.1 ([s8]:List ag)).bind fun l9=>
 some l9
theorem NG{s:ag}{r:waA}(h:Bx s=some r):CC Pg GE 126 [.str s] (sl cS r) [(0,9)]:=by
 obtain⟨o7,bo7,h⟩:=aB h
 obtain⟨s8,bs8,h⟩:=aB h
 obtain⟨l9,bl9,h⟩:=aB h
 obtain rfl:=lf h
 have z:=cz (gI underlying9 s)<|di (HF s (s.length:Int) ([]:List ag) 0 0 bo7)<|sv (Zb underlying9 bs8)<|sv (bJ.mk' (v:=PVal.str) KI ([s8]:List ag) 1 (by kernel_rfl))<|sv (bJ.ap bl9)<|en (aI (rP (sl cS l9))<|(aq gG l9))
 exact cn Xq call126 func126 (c:=Zx) rfl (aI trivial trivial) z<|by kernel_rfl
noncomputable def qaT:Code:=f102.body.getD .skip
def qau:List Nat:=[]
def lc(c:Int):Option Bool:=
 if(decide (c>=97))=true then
  some (decide (c<=122))
 else
  some false
theorem lh{c:Int}{r:Bool}(h:lc c=some r):CC Pg GE 102 [.int .u8 c] (.bool r) []:=by
 rcases aZ h with⟨c1,h⟩|⟨c1,h⟩
 ·obtain rfl:=lf h
  have z:=sg 3 c1<|en (aI (rP (.bool (decide (c<=122))))<|trivial)
  exact cn qau call102 func102 (c:=qaT) rfl (aI trivial trivial) z<|by kernel_rfl
 ·obtain rfl:=lf h
  have z:=sg 3 c1<|en (aI (rP (.bool false))<|trivial)
  exact cn qau call102 func102 (c:=qaT) rfl (aI trivial trivial) z<|by kernel_rfl
noncomputable def qcv:Code:=f116.body.getD .skip
def qch:List Nat:=[]
def D6:Option waA:=
 some ([([97,110,100]:ag),([97,115,115,117,109,101]:ag),([98,111,111,108]:ag),([98,111,117,110,100]:ag),([99,97,115,101]:ag),([99,101,108,108]:ag),([99,108,97,115,115]:ag),([100,97,116,97]:ag),([100,101,102]:ag),([100,105,118]:ag),([101,108,115,101]:ag),([101,110,100]:ag),([102,97,108,115,101]:ag),([102,111,114,97,108,108]:ag),([102,117,110]:ag),([103,101,116]:ag),([105,102]:ag),([105,110]:ag),([105,110,115,116]:ag),([105,110,116]:ag),([105,110,118,97,114,105,97,110,116]:ag),([108,101,116]:ag),([109,97,116,99,104]:ag),([109,101,97,115,117,114,101]:ag),([109,101,116,114,105,99]:ag),([109,111,100]:ag),([109,117]:ag),([110,101,119]:ag),([110,111,116]:ag),([111,102]:ag),([111,114]:ag),([113,117,97,108]:ag),([114,101,102,108,101,99,116]:ag),([115,101,116]:ag),([116,104,101,110]:ag),([116,114,117,101]:ag),([117,115,101]:ag),([118]:ag),([118,97,108]:ag),([116,97,103]:ag),([119,104,101,114,101]:ag),([119,105,116,104]:ag)]:List ag)
theorem HD{r:waA}(h:D6=some r):CC Pg GE 116 [] (sl cS r) [(0,9)]:=by
 obtain rfl:=lf h
 have z:=sv (bJ.mk' (v:=PVal.str) KI ([([97,110,100]:ag),([97,115,115,117,109,101]:ag),([98,111,111,108]:ag),([98,111,117,110,100]:ag),([99,97,115,101]:ag),([99,101,108,108]:ag),([99,108,97,115,115]:ag),([100,97,116,97]:ag),([100,101,102]:ag),([100,105,118]:ag),([101,108,115,101]:ag),([101,110,100]:ag),([102,97,108,115,101]:ag),([102,111,114,97,108,108]:ag),([102,117,110]:ag),([103,101,116]:ag),([105,102]:ag),([105,110]:ag),([105,110,115,116]:ag),([105,110,116]:ag),([105,110,118,97,114,105,97,110,116]:ag),([108,101,116]:ag),([109,97,116,99,104]:ag),([109,101,97,115,117,114,101]:ag),([109,101,116,114,105,99]:ag),([109,111,100]:ag),([109,117]:ag),([110,101,119]:ag),([110,111,116]:ag),([111,102]:ag),([111,114]:ag),([113,117,97,108]:ag),([114,101,102,108,101,99,116]:ag),([115,101,116]:ag),([116,104,101,110]:ag),([116,114,117,101]:ag),([117,115,101]:ag),([118]:ag),([118,97,108]:ag),([116,97,103]:ag),([119,104,101,114,101]:ag),([119,105,116,104]:ag)]:List ag) 42 (by kernel_rfl))<|en (aI (rP (sl cS ([([97,110,100]:ag),([97,115,115,117,109,101]:ag),([98,111,111,108]:ag),([98,111,117,110,100]:ag),([99,97,115,101]:ag),([99,101,108,108]:ag),([99,108,97,115,115]:ag),([100,97,116,97]:ag),([100,101,102]:ag),([100,105,118]:ag),([101,108,115,101]:ag),([101,110,100]:ag),([102,97,108,115,101]:ag),([102,111,114,97,108,108]:ag),([102,117,110]:ag),([103,101,116]:ag),([105,102]:ag),([105,110]:ag),([105,110,115,116]:ag),([105,110,116]:ag),([105,110,118,97,114,105,97,110,116]:ag),([108,101,116]:ag),([109,97,116,99,104]:ag),([109,101,97,115,117,114,101]:ag),([109,101,116,114,105,99]:ag),([109,111,100]:ag),([109,117]:ag),([110,101,119]:ag),([110,111,116]:ag),([111,102]:ag),([111,114]:ag),([113,117,97,108]:ag),([114,101,102,108,101,99,116]:ag),([115,101,116]:ag),([116,104,101,110]:ag),([116,114,117,101]:ag),([117,115,101]:ag),([118]:ag),([118,97,108]:ag),([116,97,103]:ag),([119,104,101,114,101]:ag),([119,105,116,104]:ag)]:List ag)))<|(aq gG ([([97,110,100]:ag),([97,115,115,117,109,101]:ag),([98,111,111,108]:ag),([98,111,117,110,100]:ag),([99,97,115,101]:ag),([99,101,108,108]:ag),([99,108,97,115,115]:ag),([100,97,116,97]:ag),([100,101,102]:ag),([100,105,118]:ag),([101,108,115,101]:ag),([101,110,100]:ag),([102,97,108,115,101]:ag),([102,111,114,97,108,108]:ag),([102,117,110]:ag),([103,101,116]:ag),([105,102]:ag),([105,110]:ag),([105,110,115,116]:ag),([105,110,116]:ag),([105,110,118,97,114,105,97,110,116]:ag),([108,101,116]:ag),([109,97,116,99,104]:ag),([109,101,97,115,117,114,101]:ag),([109,101,116,114,105,99]:ag),([109,111,100]:ag),([109,117]:ag),([110,101,119]:ag),([110,111,116]:ag),([111,102]:ag),([111,114]:ag),([113,117,97,108]:ag),([114,101,102,108,101,99,116]:ag),([115,101,116]:ag),([116,104,101,110]:ag),([116,114,117,101]:ag),([117,115,101]:ag),([118]:ag),([118,97,108]:ag),([116,97,103]:ag),([119,104,101,114,101]:ag),([119,105,116,104]:ag)]:List ag)))
 exact cn qch call116 func116 (c:=qcv) rfl trivial z<|by kernel_rfl
noncomputable def qb7:Code:=f83.body.getD .skip
def qaI:List Nat:=[10,17]
section
variable(v:waA)(s:ag)(t7:Int)(t8:Int)
def mc:az:=aY 19 [(0,sl cS v),(1,.str s),(7,.int .i64 t7),(8,.int .i64 t8)] [] []
def mf(o:Int⊕(Unit)):Exit:=match o with
 |(.inl _)=>.ret
 |(.inr _)=>.exit 0
def jK(o:Int⊕(Unit)):az:=match o with
 |(.inl o)=>aY 19 [(4,.int .i64 o)] [] []
 |(.inr o)=>aY 19 [] [] []
def me:Option (Int⊕(Int⊕(Unit))):=
 if(decide (t8<t7))=true then
  (cR v t8).bind fun x2=>
  if(x2==s)=true then
   some (.inr (.inl t8))
  else
   some (.inl (aR (t8+1)))
 else
  some (.inr (.inr ()))
def zH:Option (Int⊕(Unit)):=loop (fun(zz:Int)=>me v s t7 zz) t8
theorem HA{y:Int⊕(Int⊕(Unit))}(h:me v s t7 t8=some y):aT Pg GE 0 (cA qb7 55) (LQ (fun(zz:Int)=>mc v s t7 zz) mf jK y) (mc v s t7 t8):=by
 rcases aZ h with⟨c1,h⟩|⟨c1,h⟩
 ·obtain⟨x2,bx2,h⟩:=aB h
  have p4:=fun{sc F} (r:PS sc F)=>sg 0 c1<|sv (bJ.ia (k:=.i64) bx2)<|sv (im Mo (.str x2) [])<|r
  rcases aZ h with⟨c3,h⟩|⟨c3,h⟩
  ·obtain rfl:=lf h
   have z:=p4<|sg 0 c3<|eF (mf (.inl t8)) (jK (.inl t8))
   exact i7 qaI (by intro hx;cases hx) z<|by kernel_rfl
  ·obtain rfl:=lf h
   exact rU qaI (p4<|sg 0 c3<|eF .normal (mc v s t7 (aR (t8+1))))<|by kernel_rfl
 ·obtain rfl:=lf h
  have z:=sg 0 c1<|eF (mf (.inr ())) (jK (.inr ()))
  exact i7 qaI (by intro hx;cases hx) z<|by kernel_rfl
theorem zI{x:Int⊕(Unit)}(h:zH v s t7 t8=some x):aT Pg GE 0 (.loop (cA qb7 55)) (EX (mf x) (jK x)) (mc v s t7 t8):=
 aT.loop (S:=fun(zz:Int)=>mc v s t7 zz) (ex:=mf) (s:=t8) h fun zz y hy=>HA v s t7 zz hy
end
def wC(a:waA)(s:ag):Option Int:=
 (zH a s (a.length:Int) 0).bind fun o5=>match o5 with
 |(.inl o5)=>
  some o5
 |(.inr o5)=>
  some (-1)
theorem G0{a:waA}{s:ag}{r:Int}(h:wC a s=some r):CC Pg GE 83 [sl cS a,.str s] (.int .i64 r) []:=by
 obtain⟨o5,bo5,h⟩:=aB h
 rcases o5 with o5|o5
 ·obtain rfl:=lf h
  have z:=cz (bJ.ln a)<|di (e:=.ret) (s1:=jK (.inl o5)) (zI a s (a.length:Int) 0 bo5)<|en (aI (rP (.int .i64 o5))<|trivial)
  exact cn qaI call83 func83 (c:=qb7) rfl (aI (aq gG a) (aI trivial trivial)) z<|by kernel_rfl
 ·obtain rfl:=lf h
  have z:=cz (bJ.ln a)<|di (e:=.exit 0) (s1:=jK (.inr o5)) (zI a s (a.length:Int) 0 bo5)<|en (aI (rP (.int .i64 (-1)))<|trivial)
  exact cn qaI call83 func83 (c:=qb7) rfl (aI (aq gG a) (aI trivial trivial)) z<|by kernel_rfl
noncomputable def qct:Code:=f103.body.getD .skip
def qcf:List Nat:=[]
def uy(s:ag):Option Bool:=
 D6.bind fun r1=>
 (wC r1 s).bind fun r2=>
 some (decide (r2>=0))
theorem I6{s:ag}{r:Bool}(h:uy s=some r):CC Pg GE 103 [.str s] (.bool r) []:=by
 obtain⟨r1,br1,h⟩:=aB h
 obtain⟨r2,br2,h⟩:=aB h
 obtain rfl:=lf h
 have z:=bT (HD br1)<|bT (G0 br2)<|en (aI (rP (.bool (decide (r2>=0))))<|trivial)
 exact cn qcf call103 func103 (c:=qct) rfl (aI trivial trivial) z<|by kernel_rfl
noncomputable def qaU:Code:=f104.body.getD .skip
def qav:List Nat:=[]
def pw(c:Int):Option Bool:=
 if(decide (c>=48))=true then
  some (decide (c<=57))
 else
  some false
theorem sa{c:Int}{r:Bool}(h:pw c=some r):CC Pg GE 104 [.int .u8 c] (.bool r) []:=by
 rcases aZ h with⟨c1,h⟩|⟨c1,h⟩
 ·obtain rfl:=lf h
  have z:=sg 3 c1<|en (aI (rP (.bool (decide (c<=57))))<|trivial)
  exact cn qav call104 func104 (c:=qaU) rfl (aI trivial trivial) z<|by kernel_rfl
 ·obtain rfl:=lf h
  have z:=sg 3 c1<|en (aI (rP (.bool false))<|trivial)
  exact cn qav call104 func104 (c:=qaU) rfl (aI trivial trivial) z<|by kernel_rfl
noncomputable def ZE:Code:=f87.body.getD .skip
def TN:List Nat:=[26]
section
variable(s:ag)
def I3:az:=aY 46 [(0,.str s)] [] []
def kg(o:Bool):az:=aY 46 [(0,.str s),(21,.bool o)] [] []
def xA:Option Bool:=
 if(decide ((s.length:Int)<1))=true then
  some true
 else
  if(decide ((s.length:Int)>24))=true then
   some true
  else
   (sG s 0).bind fun c4=>
   (lc c4).bind fun r5=>
   if(!r5)=true then
    some true
   else
    (uy s).bind fun r8=>
    some r8
theorem Hw{x:Bool}(h:xA s=some x):aT Pg GE 0 (cA ZE 12) (EX .normal (kg s x)) (I3 s):=by
 rcases aZ h with⟨c1,h⟩|⟨c1,h⟩
 ·obtain rfl:=lf h
  exact cw TN (cz (gI underlying9 s)<|sg 4 c1<|eF .normal (kg s true))<|by kernel_rfl
 ·have p3:=fun{sc F} (r:PS sc F)=>cz (gI underlying9 s)<|sg 4 c1<|cz (gI underlying9 s)<|r
  rcases aZ h with⟨c2,h⟩|⟨c2,h⟩
  ·obtain rfl:=lf h
   exact cw TN (p3<|sg 9 c2<|eF .normal (kg s true))<|by kernel_rfl
  ·obtain⟨c4,bc4,h⟩:=aB h
   obtain⟨r5,br5,h⟩:=aB h
   have p7:=fun{sc F} (r:PS sc F)=>p3<|sg 9 c2<|sv (po (k:=.i64) underlying9 bc4)<|bT (lh br5)<|r
   rcases aZ h with⟨c6,h⟩|⟨c6,h⟩
   ·obtain rfl:=lf h
    exact cw TN (p7<|sg 15 c6<|eF .normal (kg s true))<|by kernel_rfl
   ·obtain⟨r8,br8,h⟩:=aB h
    obtain rfl:=lf h
    exact cw TN (p7<|sg 15 c6<|bT (I6 br8)<|eF .normal (kg s r8))<|by kernel_rfl
end
section
variable(s:ag)(i:Int)(t23:Int)
def I4:az:=aY 46 [(0,.str s),(3,.int .i64 i),(23,.int .i64 t23),(24,.int .i64 i)] [] []
def n7(o:Bool):az:=aY 46 [(0,.str s),(23,.int .i64 t23),(24,.int .i64 i),(44,.bool o)] [] []
def nZ:Option Bool:=
 (sG s i).bind fun c13=>
 (lc c13).bind fun r14=>
 if(!r14)=true then
  (sG s i).bind fun c17=>
  (pw c17).bind fun r18=>
  if(!r18)=true then
   (sG s i).bind fun c21=>
   some (c21 !=95)
  else
   some false
 else
  some false
theorem Hx{x:Bool}(h:nZ s i=some x):aT Pg GE 0 (cA ZE 7670) (EX .normal (n7 s i t23 x)) (I4 s i t23):=by
 obtain⟨c13,bc13,h⟩:=aB h
 obtain⟨r14,br14,h⟩:=aB h
 have p16:=fun{sc F} (r:PS sc F)=>sv (po (k:=.i64) underlying9 bc13)<|bT (lh br14)<|r
 rcases aZ h with⟨c15,h⟩|⟨c15,h⟩
 ·obtain⟨c17,bc17,h⟩:=aB h
  obtain⟨r18,br18,h⟩:=aB h
  have p20:=fun{sc F} (r:PS sc F)=>p16<|sg 6 c15<|sv (po (k:=.i64) underlying9 bc17)<|bT (sa br18)<|r
  rcases aZ h with⟨c19,h⟩|⟨c19,h⟩
  ·obtain⟨c21,bc21,h⟩:=aB h
   obtain rfl:=lf h
   exact cw TN (p20<|sg 13 c19<|sv (po (k:=.i64) underlying9 bc21)<|eF .normal (n7 s i t23 (c21 !=95)))<|by kernel_rfl
  ·obtain rfl:=lf h
   exact cw TN (p20<|sg 13 c19<|eF .normal (n7 s i t23 false))<|by kernel_rfl
 ·obtain rfl:=lf h
  exact cw TN (p16<|sg 6 c15<|eF .normal (n7 s i t23 false))<|by kernel_rfl
end
section
variable(s:ag)(t23:Int)(t24:Int)
def kh:az:=aY 46 [(0,.str s),(23,.int .i64 t23),(24,.int .i64 t24)] [] []
def ki(o:Unit⊕(Unit)):Exit:=match o with
 |(.inl _)=>.ret
 |(.inr _)=>.exit 0
def iB(o:Unit⊕(Unit)):az:=match o with
 |(.inl o)=>aY 46 [(2,.int .i64 3)] [] []
 |(.inr o)=>aY 46 [] [] []
def zE:Option (Int⊕(Unit⊕(Unit))):=
 if(decide (t24<t23))=true then
  (nZ s t24).bind fun o22=>
  if o22=true then
   some (.inr (.inl ()))
  else
   some (.inl (aR (t24+1)))
 else
  some (.inr (.inr ()))
def xB:Option (Unit⊕(Unit)):=loop (fun(zz:Int)=>zE s t23 zz) t24
theorem FD{y:Int⊕(Unit⊕(Unit))}(h:zE s t23 t24=some y):aT Pg GE 0 (cA ZE 119) (LQ (fun(zz:Int)=>kh s t23 zz) ki iB y) (kh s t23 t24):=by
 rcases aZ h with⟨c12,h⟩|⟨c12,h⟩
 ·obtain⟨o22,bo22,h⟩:=aB h
  have p24:=fun{sc F} (r:PS sc F)=>sg 0 c12<|nD 2<|di (Hx s t24 t23 bo22)<|r
  rcases aZ h with⟨c23,h⟩|⟨c23,h⟩
  ·obtain rfl:=lf h
   have z:=p24<|sg 0 c23<|eF (ki (.inl ())) (iB (.inl ()))
   exact i7 TN (by intro hx;cases hx) z<|by kernel_rfl
  ·obtain rfl:=lf h
   exact rU TN (p24<|sg 0 c23<|eF .normal (kh s t23 (aR (t24+1))))<|by kernel_rfl
 ·obtain rfl:=lf h
  have z:=sg 0 c12<|eF (ki (.inr ())) (iB (.inr ()))
  exact i7 TN (by intro hx;cases hx) z<|by kernel_rfl
theorem yV{x:Unit⊕(Unit)}(h:xB s t23 t24=some x):aT Pg GE 0 (.loop (cA ZE 119)) (EX (ki x) (iB x)) (kh s t23 t24):=
 aT.loop (S:=fun(zz:Int)=>kh s t23 zz) (ex:=ki) (s:=t24) h fun zz y hy=>FD s t23 zz hy
end
def pu(s:ag):Option Int:=
 (xA s).bind fun o9=>
 if o9=true then
  some 3
 else
  (xB s (s.length:Int) 0).bind fun o25=>match o25 with
  |(.inl o25)=>
   some 3
  |(.inr o25)=>
   some 0
theorem D5{s:ag}{r:Int}(h:pu s=some r):CC Pg GE 87 [.str s] (.int .i64 r) []:=by
 obtain⟨o9,bo9,h⟩:=aB h
 have p11:=fun{sc F} (r:PS sc F)=>nD 2<|di (Hw s bo9)<|r
 rcases aZ h with⟨c10,h⟩|⟨c10,h⟩
 ·obtain rfl:=lf h
  have z:=p11<|sg 0 c10<|en (aI (rP (.int .i64 3))<|trivial)
  exact cn TN call87 func87 (c:=ZE) rfl (aI trivial trivial) z<|by kernel_rfl
 ·obtain⟨o25,bo25,h⟩:=aB h
  rcases o25 with o25|o25
  ·obtain rfl:=lf h
   have z:=p11<|sg 0 c10<|cz (gI underlying9 s)<|di (e:=.ret) (s1:=iB (.inl o25)) (yV s (s.length:Int) 0 bo25)<|en (aI (rP (.int .i64 3))<|trivial)
   exact cn TN call87 func87 (c:=ZE) rfl (aI trivial trivial) z<|by kernel_rfl
  ·obtain rfl:=lf h
   have z:=p11<|sg 0 c10<|cz (gI underlying9 s)<|di (e:=.exit 0) (s1:=iB (.inr o25)) (yV s (s.length:Int) 0 bo25)<|en (aI (rP (.int .i64 0))<|trivial)
   exact cn TN call87 func87 (c:=ZE) rfl (aI trivial trivial) z<|by kernel_rfl
noncomputable def qaY:Code:=f145.body.getD .skip
def qaz:List Nat:=[]
def nI(c:Int):Option Bool:=
 if(decide (c>=65))=true then
  some (decide (c<=90))
 else
  some false
theorem sY{c:Int}{r:Bool}(h:nI c=some r):CC Pg GE 145 [.int .u8 c] (.bool r) []:=by
 rcases aZ h with⟨c1,h⟩|⟨c1,h⟩
 ·obtain rfl:=lf h
  have z:=sg 3 c1<|en (aI (rP (.bool (decide (c<=90))))<|trivial)
  exact cn qaz call145 func145 (c:=qaY) rfl (aI trivial trivial) z<|by kernel_rfl
 ·obtain rfl:=lf h
  have z:=sg 3 c1<|en (aI (rP (.bool false))<|trivial)
  exact cn qaz call145 func145 (c:=qaY) rfl (aI trivial trivial) z<|by kernel_rfl
noncomputable def Rk:Code:=f127.body.getD .skip
def B6:List Nat:=[38]
section
variable(s:ag)
def I7:az:=aY 59 [(0,.str s)] [] []
def ff(o:Bool):az:=aY 59 [(0,.str s),(33,.bool o)] [] []
def xC:Option Bool:=
 if(decide ((s.length:Int)<1))=true then
  some true
 else
  if(decide ((s.length:Int)>24))=true then
   some true
  else
   (sG s 0).bind fun c4=>
   (nI c4).bind fun r5=>
   if(!r5)=true then
    some true
   else
    if(s==([73,110,116]:ag))=true then
     some true
    else
     if(s==([66,111,111,108]:ag))=true then
      some true
     else
      if(s==([67,101,108,108]:ag))=true then
       some true
      else
       some (s==([70,117,110]:ag))
theorem HB{x:Bool}(h:xC s=some x):aT Pg GE 0 (cA Rk 12) (EX .normal (ff s x)) (I7 s):=by
 rcases aZ h with⟨c1,h⟩|⟨c1,h⟩
 ·obtain rfl:=lf h
  exact cw B6 (cz (gI underlying9 s)<|sg 4 c1<|eF .normal (ff s true))<|by kernel_rfl
 ·have p3:=fun{sc F} (r:PS sc F)=>cz (gI underlying9 s)<|sg 4 c1<|cz (gI underlying9 s)<|r
  rcases aZ h with⟨c2,h⟩|⟨c2,h⟩
  ·obtain rfl:=lf h
   exact cw B6 (p3<|sg 9 c2<|eF .normal (ff s true))<|by kernel_rfl
  ·obtain⟨c4,bc4,h⟩:=aB h
   obtain⟨r5,br5,h⟩:=aB h
   have p7:=fun{sc F} (r:PS sc F)=>p3<|sg 9 c2<|sv (po (k:=.i64) underlying9 bc4)<|bT (sY br5)<|r
   rcases aZ h with⟨c6,h⟩|⟨c6,h⟩
   ·obtain rfl:=lf h
    exact cw B6 (p7<|sg 15 c6<|eF .normal (ff s true))<|by kernel_rfl
   ·have p9:=fun{sc F} (r:PS sc F)=>p7<|sg 15 c6<|r
    rcases aZ h with⟨c8,h⟩|⟨c8,h⟩
    ·obtain rfl:=lf h
     exact cw B6 (p9<|sg 19 c8<|eF .normal (ff s true))<|by kernel_rfl
    ·have p11:=fun{sc F} (r:PS sc F)=>p9<|sg 19 c8<|r
     rcases aZ h with⟨c10,h⟩|⟨c10,h⟩
     ·obtain rfl:=lf h
      exact cw B6 (p11<|sg 23 c10<|eF .normal (ff s true))<|by kernel_rfl
     ·have p13:=fun{sc F} (r:PS sc F)=>p11<|sg 23 c10<|r
      rcases aZ h with⟨c12,h⟩|⟨c12,h⟩
      ·obtain rfl:=lf h
       exact cw B6 (p13<|sg 27 c12<|eF .normal (ff s true))<|by kernel_rfl
      ·obtain rfl:=lf h
       exact cw B6 (p13<|sg 27 c12<|eF .normal (ff s (s==([70,117,110]:ag))))<|by kernel_rfl
end
section
variable(s:ag)(i:Int)(t35:Int)
def I8:az:=aY 59 [(0,.str s),(3,.int .i64 i),(35,.int .i64 t35),(36,.int .i64 i)] [] []
def n9(o:Bool):az:=aY 59 [(0,.str s),(35,.int .i64 t35),(36,.int .i64 i),(57,.bool o)] [] []
def n8:Option Bool:=
 (sG s i).bind fun c18=>
 (lc c18).bind fun r19=>
 if(!r19)=true then
  (sG s i).bind fun c22=>
  (nI c22).bind fun r23=>
  if(!r23)=true then
   (sG s i).bind fun c26=>
   (pw c26).bind fun r27=>
   some (!r27)
  else
   some false
 else
  some false
theorem HC{x:Bool}(h:n8 s i=some x):aT Pg GE 0 (cA Rk 7670) (EX .normal (n9 s i t35 x)) (I8 s i t35):=by
 obtain⟨c18,bc18,h⟩:=aB h
 obtain⟨r19,br19,h⟩:=aB h
 have p21:=fun{sc F} (r:PS sc F)=>sv (po (k:=.i64) underlying9 bc18)<|bT (lh br19)<|r
 rcases aZ h with⟨c20,h⟩|⟨c20,h⟩
 ·obtain⟨c22,bc22,h⟩:=aB h
  obtain⟨r23,br23,h⟩:=aB h
  have p25:=fun{sc F} (r:PS sc F)=>p21<|sg 6 c20<|sv (po (k:=.i64) underlying9 bc22)<|bT (sY br23)<|r
  rcases aZ h with⟨c24,h⟩|⟨c24,h⟩
  ·obtain⟨c26,bc26,h⟩:=aB h
   obtain⟨r27,br27,h⟩:=aB h
   obtain rfl:=lf h
   exact cw B6 (p25<|sg 13 c24<|sv (po (k:=.i64) underlying9 bc26)<|bT (sa br27)<|eF .normal (n9 s i t35 (!r27)))<|by kernel_rfl
  ·obtain rfl:=lf h
   exact cw B6 (p25<|sg 13 c24<|eF .normal (n9 s i t35 false))<|by kernel_rfl
 ·obtain rfl:=lf h
  exact cw B6 (p21<|sg 6 c20<|eF .normal (n9 s i t35 false))<|by kernel_rfl
end
section
variable(s:ag)(t35:Int)(t36:Int)
def kj:az:=aY 59 [(0,.str s),(35,.int .i64 t35),(36,.int .i64 t36)] [] []
def kk(o:Unit⊕(Unit)):Exit:=match o with
 |(.inl _)=>.ret
 |(.inr _)=>.exit 0
def iC(o:Unit⊕(Unit)):az:=match o with
 |(.inl o)=>aY 59 [(2,.int .i64 3)] [] []
 |(.inr o)=>aY 59 [] [] []
def zJ:Option (Int⊕(Unit⊕(Unit))):=
 if(decide (t36<t35))=true then
  (n8 s t36).bind fun o28=>
  if o28=true then
   some (.inr (.inl ()))
  else
   some (.inl (aR (t36+1)))
 else
  some (.inr (.inr ()))
def xD:Option (Unit⊕(Unit)):=loop (fun(zz:Int)=>zJ s t35 zz) t36
theorem FF{y:Int⊕(Unit⊕(Unit))}(h:zJ s t35 t36=some y):aT Pg GE 0 (cA Rk 119) (LQ (fun(zz:Int)=>kj s t35 zz) kk iC y) (kj s t35 t36):=by
 rcases aZ h with⟨c17,h⟩|⟨c17,h⟩
 ·obtain⟨o28,bo28,h⟩:=aB h
  have p30:=fun{sc F} (r:PS sc F)=>sg 0 c17<|nD 2<|di (HC s t36 t35 bo28)<|r
  rcases aZ h with⟨c29,h⟩|⟨c29,h⟩
  ·obtain rfl:=lf h
   have z:=p30<|sg 0 c29<|eF (kk (.inl ())) (iC (.inl ()))
   exact i7 B6 (by intro hx;cases hx) z<|by kernel_rfl
  ·obtain rfl:=lf h
   exact rU B6 (p30<|sg 0 c29<|eF .normal (kj s t35 (aR (t36+1))))<|by kernel_rfl
 ·obtain rfl:=lf h
  have z:=sg 0 c17<|eF (kk (.inr ())) (iC (.inr ()))
  exact i7 B6 (by intro hx;cases hx) z<|by kernel_rfl
theorem yW{x:Unit⊕(Unit)}(h:xD s t35 t36=some x):aT Pg GE 0 (.loop (cA Rk 119)) (EX (kk x) (iC x)) (kj s t35 t36):=
 aT.loop (S:=fun(zz:Int)=>kj s t35 zz) (ex:=kk) (s:=t36) h fun zz y hy=>FF s t35 zz hy
end
def Bw(s:ag):Option Int:=
 (xC s).bind fun o14=>
 if o14=true then
  some 3
 else
  (xD s (s.length:Int) 0).bind fun o31=>match o31 with
  |(.inl o31)=>
   some 3
  |(.inr o31)=>
   some 0
theorem NF{s:ag}{r:Int}(h:Bw s=some r):CC Pg GE 127 [.str s] (.int .i64 r) []:=by
 obtain⟨o14,bo14,h⟩:=aB h
 have p16:=fun{sc F} (r:PS sc F)=>nD 2<|di (HB s bo14)<|r
 rcases aZ h with⟨c15,h⟩|⟨c15,h⟩
 ·obtain rfl:=lf h
  have z:=p16<|sg 0 c15<|en (aI (rP (.int .i64 3))<|trivial)
  exact cn B6 call127 func127 (c:=Rk) rfl (aI trivial trivial) z<|by kernel_rfl
 ·obtain⟨o31,bo31,h⟩:=aB h
  rcases o31 with o31|o31
  ·obtain rfl:=lf h
   have z:=p16<|sg 0 c15<|cz (gI underlying9 s)<|di (e:=.ret) (s1:=iC (.inl o31)) (yW s (s.length:Int) 0 bo31)<|en (aI (rP (.int .i64 3))<|trivial)
   exact cn B6 call127 func127 (c:=Rk) rfl (aI trivial trivial) z<|by kernel_rfl
  ·obtain rfl:=lf h
   have z:=p16<|sg 0 c15<|cz (gI underlying9 s)<|di (e:=.exit 0) (s1:=iC (.inr o31)) (yW s (s.length:Int) 0 bo31)<|en (aI (rP (.int .i64 0))<|trivial)
   exact cn B6 call127 func127 (c:=Rk) rfl (aI trivial trivial) z<|by kernel_rfl
end Go.Proofs.YtbaamopmfmpfaaaGreatDoor
