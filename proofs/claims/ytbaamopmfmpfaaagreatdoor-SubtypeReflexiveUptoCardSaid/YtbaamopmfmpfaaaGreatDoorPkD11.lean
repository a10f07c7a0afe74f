/- PROVED: a part of the proof. Conditions: none. -/
import Derived.Test.YtbaamopmfmpfaaaGreatDoorPkD10
noncomputable section
namespace Go.Proofs.YtbaamopmfmpfaaaGreatDoor
open Go Go.Proofs.Tryz
set_option linter.unusedVariables false
set_option maxRecDepth 100000
noncomputable def Xa:Code:=f30.body.getD .skip
def Tw:List Nat:=[119]
section
variable(most:Int)(e:bH)(n:Int)(i:Int)
def Lp:az:=aW 120 [(1,.int .i64 most),(2,.eptr (aN e)),(5,.int .i64 n),(6,.int .i64 i)] [.dead] []
def vN(o:Bool):az:=aW 120 [(1,.int .i64 most),(2,.eptr (aN e)),(5,.int .i64 n),(6,.int .i64 i),(28,.bool o)] [.dead] []
def GU:Option Bool:=
 if(decide (i<(e.Params.length:Int)))=true then
  some (decide (n<=most))
 else
  some false
theorem Je{x:Bool}(h:GU most e n i=some x):aQ Pg GE 0 (cA Xa 476) (EX .normal (vN most e n i x)) (Lp most e n i):=by
 have p4:=fun{sc F} (r:PS sc F)=>sv (j3 e)<|sv (j4 e)<|cw (UN.ln e.Params)<|r
 rcases aX h with⟨c3,h⟩|⟨c3,h⟩
 ·obtain rfl:=lf h
  exact ct Tw (p4<|sg 6 c3<|eF .normal (vN most e n i (decide (n<=most))))<|by kernel_rfl
 ·obtain rfl:=lf h
  exact ct Tw (p4<|sg 6 c3<|eF .normal (vN most e n i false))<|by kernel_rfl
end
section
variable(most:Int)(e:bH)(n:Int)(i:Int)
def mC:az:=aW 120 [(1,.int .i64 most),(2,.eptr (aN e)),(5,.int .i64 n),(6,.int .i64 i)] [.dead] []
def vQ(o:Int):az:=aW 120 [(1,.int .i64 most),(2,.eptr (aN e)),(5,.int .i64 o)] [.dead] []
def Cn:Option ((Int×Int)⊕(Int)):=
 (GU most e n i).bind fun o5=>
 if o5=true then
  (cH e.Params i).bind fun x8=>
  (qu .i64 (x8.Name.length:Int) 50).bind fun q9=>
  (cH e.Params i).bind fun x10=>
  (Bn ([x10.Type_]:List ae) most).bind fun r11=>
  some (.inl (aO ((aO ((aO (n+1))+q9))+r11),aO (i+1)))
 else
  some (.inr n)
def GX:Option Int:=loop (fun(zz:Int×Int)=>Cn most e zz.1 zz.2) (n,i)
theorem HD{y:(Int×Int)⊕(Int)}(h:Cn most e n i=some y):aQ Pg GE 0 (cA Xa 119) (LQ (fun(zz:Int×Int)=>mC most e zz.1 zz.2) (fun _=>.exit 0) (vQ most e) y) (mC most e n i):=by
 obtain⟨o5,bo5,h⟩:=aA h
 have p7:=fun{sc F} (r:PS sc F)=>oe 1<|di (Je most e n i bo5)<|r
 rcases aX h with⟨c6,h⟩|⟨c6,h⟩
 ·obtain⟨x8,bx8,h⟩:=aA h
  obtain⟨q9,bq9,h⟩:=aA h
  obtain⟨x10,bx10,h⟩:=aA h
  obtain⟨r11,br11,h⟩:=aA h
  obtain rfl:=lf h
  exact rF Tw (p7<|sg 0 c6<|ra [0,1,0,4,0,28,60,124,252,508,1023,0,2048,0,14336,30720,63488,129024,0,522240,1048575,2097151]<|sv (j3 e)<|sv (j4 e)<|sv (UN.ia (k:=.i64) bx8)<|sv (yJ x8)<|sv (CN x8)<|cw (gG underlying9 x8.Name)<|sv (yG (P:=Pg) (t:=3) bq9)<|sv (j3 e)<|sv (j4 e)<|sv (UN.ia (k:=.i64) bx10)<|sv (yK x10)<|sv (AI x10)<|sv (cQ.mk' (v:=lO) gi ([x10.Type_]:List ae) 1 (by kernel_rfl))<|bP (D6 br11)<|eF .normal (mC most e (aO ((aO ((aO (n+1))+q9))+r11)) (aO (i+1))))<|by kernel_rfl
 ·obtain rfl:=lf h
  have z:=p7<|sg 0 c6<|eF (.exit 0) (vQ most e n)
  exact iW Tw (by intro hx;cases hx) z<|by kernel_rfl
theorem Jh{x:Int}(h:GX most e n i=some x):aQ Pg GE 0 (.loop (cA Xa 119)) (EX (.exit 0) (vQ most e x)) (mC most e n i):=
 aQ.loop (S:=fun(zz:Int×Int)=>mC most e zz.1 zz.2) (ex:=(fun _=>.exit 0)) (s:=(n,i)) h fun zz y hy=>HD most e zz.1 zz.2 hy
end
section
variable(most:Int)(e:bH)(n:Int)(i:Int)
def Lq:az:=aW 120 [(1,.int .i64 most),(2,.eptr (aN e)),(5,.int .i64 n),(7,.int .i64 i)] [.dead] []
def vO(o:Bool):az:=aW 120 [(1,.int .i64 most),(2,.eptr (aN e)),(5,.int .i64 n),(7,.int .i64 i),(61,.bool o)] [.dead] []
def GV:Option Bool:=
 if(decide (i<(e.Kids.length:Int)))=true then
  some (decide (n<=most))
 else
  some false
theorem Jf{x:Bool}(h:GV most e n i=some x):aQ Pg GE 0 (cA Xa 988) (EX .normal (vO most e n i x)) (Lq most e n i):=by
 have p14:=fun{sc F} (r:PS sc F)=>sv (qv e)<|sv (qx e)<|cw (Yf.ln e.Kids)<|r
 rcases aX h with⟨c13,h⟩|⟨c13,h⟩
 ·obtain rfl:=lf h
  exact ct Tw (p14<|sg 6 c13<|eF .normal (vO most e n i (decide (n<=most))))<|by kernel_rfl
 ·obtain rfl:=lf h
  exact ct Tw (p14<|sg 6 c13<|eF .normal (vO most e n i false))<|by kernel_rfl
end
section
variable(R8:tG)(most:Int)(e:bH)(n:Int)(i:Int)
def mD:az:=aW 120 [(1,.int .i64 most),(2,.eptr (aN e)),(5,.int .i64 n),(7,.int .i64 i)] [.dead] []
def vR(o:Int):az:=aW 120 [(1,.int .i64 most),(2,.eptr (aN e)),(5,.int .i64 o)] [.dead] []
def Co:Option ((Int×Int)⊕(Int)):=
 (GV most e n i).bind fun o15=>
 if o15=true then
  (cH e.Kids i).bind fun x18=>
  (R8 x18 (aO (most - n))).bind fun r19=>
  some (.inl (aO (n+r19),aO (i+1)))
 else
  some (.inr n)
def GY:Option Int:=loop (fun(zz:Int×Int)=>Co R8 most e zz.1 zz.2) (n,i)
theorem HE(hR8:sZ R8){y:(Int×Int)⊕(Int)}(h:Co R8 most e n i=some y):aQ Pg GE 0 (cA Xa 247) (LQ (fun(zz:Int×Int)=>mD most e zz.1 zz.2) (fun _=>.exit 2) (vR most e) y) (mD most e n i):=by
 obtain⟨o15,bo15,h⟩:=aA h
 have p17:=fun{sc F} (r:PS sc F)=>oe 1<|di (Jf most e n i bo15)<|r
 rcases aX h with⟨c16,h⟩|⟨c16,h⟩
 ·obtain⟨x18,bx18,h⟩:=aA h
  obtain⟨r19,br19,h⟩:=aA h
  obtain rfl:=lf h
  exact rF Tw (p17<|sg 0 c16<|sv (qv e)<|sv (qx e)<|sv (Yf.ia (k:=.i64) bx18)<|sv (P7 x18)<|bP (hR8 _ _ _ br19)<|eF .normal (mD most e (aO (n+r19)) (aO (i+1))))<|by kernel_rfl
 ·obtain rfl:=lf h
  have z:=p17<|sg 0 c16<|eF (.exit 2) (vR most e n)
  exact iW Tw (by intro hx;cases hx) z<|by kernel_rfl
theorem Ji(hR8:sZ R8){x:Int}(h:GY R8 most e n i=some x):aQ Pg GE 0 (.loop (cA Xa 247)) (EX (.exit 2) (vR most e x)) (mD most e n i):=
 aQ.loop (S:=fun(zz:Int×Int)=>mD most e zz.1 zz.2) (ex:=(fun _=>.exit 2)) (s:=(n,i)) h fun zz y hy=>HE R8 most e zz.1 zz.2 hR8 hy
end
section
variable(most:Int)(e:bH)(n:Int)(i:Int)
def Lr:az:=aW 120 [(1,.int .i64 most),(2,.eptr (aN e)),(5,.int .i64 n),(8,.int .i64 i)] [.dead] []
def vP(o:Bool):az:=aW 120 [(1,.int .i64 most),(2,.eptr (aN e)),(5,.int .i64 n),(8,.int .i64 i),(84,.bool o)] [.dead] []
def GW:Option Bool:=
 if(decide (i<(e.Alts.length:Int)))=true then
  some (decide (n<=most))
 else
  some false
theorem Jg{x:Bool}(h:GW most e n i=some x):aQ Pg GE 0 (cA Xa 2012) (EX .normal (vP most e n i x)) (Lr most e n i):=by
 have p22:=fun{sc F} (r:PS sc F)=>sv (ik e)<|sv (il e)<|cw (Sl.ln e.Alts)<|r
 rcases aX h with⟨c21,h⟩|⟨c21,h⟩
 ·obtain rfl:=lf h
  exact ct Tw (p22<|sg 6 c21<|eF .normal (vP most e n i (decide (n<=most))))<|by kernel_rfl
 ·obtain rfl:=lf h
  exact ct Tw (p22<|sg 6 c21<|eF .normal (vP most e n i false))<|by kernel_rfl
end
section
variable(R8:tG)(most:Int)(e:bH)(n:Int)(i:Int)
def mE:az:=aW 120 [(1,.int .i64 most),(2,.eptr (aN e)),(5,.int .i64 n),(8,.int .i64 i)] [.dead] []
def vS(o:Int):az:=aW 120 [(5,.int .i64 o)] [.dead] []
def Cp:Option ((Int×Int)⊕(Int)):=
 (GW most e n i).bind fun o23=>
 if o23=true then
  (cH e.Alts i).bind fun x26=>
  (qu .i64 (x26.Con.length:Int) 50).bind fun q27=>
  (cH e.Alts i).bind fun x28=>
  (Ml x28.Names most).bind fun r29=>
  (cH e.Alts i).bind fun x30=>
  (R8 x30.Body (aO (most - (aO ((aO ((aO (n+1))+q27))+r29))))).bind fun r31=>
  some (.inl (aO ((aO ((aO ((aO (n+1))+q27))+r29))+r31),aO (i+1)))
 else
  some (.inr n)
def GZ:Option Int:=loop (fun(zz:Int×Int)=>Cp R8 most e zz.1 zz.2) (n,i)
theorem HF(hR8:sZ R8){y:(Int×Int)⊕(Int)}(h:Cp R8 most e n i=some y):aQ Pg GE 0 (cA Xa 503) (LQ (fun(zz:Int×Int)=>mE most e zz.1 zz.2) (fun _=>.exit 4) vS y) (mE most e n i):=by
 obtain⟨o23,bo23,h⟩:=aA h
 have p25:=fun{sc F} (r:PS sc F)=>oe 1<|di (Jg most e n i bo23)<|r
 rcases aX h with⟨c24,h⟩|⟨c24,h⟩
 ·obtain⟨x26,bx26,h⟩:=aA h
  obtain⟨q27,bq27,h⟩:=aA h
  obtain⟨x28,bx28,h⟩:=aA h
  obtain⟨r29,br29,h⟩:=aA h
  obtain⟨x30,bx30,h⟩:=aA h
  obtain⟨r31,br31,h⟩:=aA h
  obtain rfl:=lf h
  exact rF Tw (p25<|sg 0 c24<|ra [0,1,0,4,0,28,60,124,252,508,1023,0,2048,0,14336,30720,63488,0,260096,524287,1048575]<|sv (ik e)<|sv (il e)<|sv (Sl.ia (k:=.i64) bx26)<|sv (LE x26)<|sv (P4 x26)<|cw (gG underlying9 x26.Con)<|sv (yG (P:=Pg) (t:=3) bq27)<|sv (ik e)<|sv (il e)<|sv (Sl.ia (k:=.i64) bx28)<|sv (CE x28)<|sv (EF x28)<|bP (NG br29)<|sv (ik e)<|sv (il e)<|sv (Sl.ia (k:=.i64) bx30)<|sv (CF x30)<|sv (EG x30)<|bP (hR8 _ _ _ br31)<|eF .normal (mE most e (aO ((aO ((aO ((aO (n+1))+q27))+r29))+r31)) (aO (i+1))))<|by kernel_rfl
 ·obtain rfl:=lf h
  have z:=p25<|sg 0 c24<|eF (.exit 4) (vS n)
  exact iW Tw (by intro hx;cases hx) z<|by kernel_rfl
theorem Jj(hR8:sZ R8){x:Int}(h:GZ R8 most e n i=some x):aQ Pg GE 0 (.loop (cA Xa 503)) (EX (.exit 4) (vS x)) (mE most e n i):=
 aQ.loop (S:=fun(zz:Int×Int)=>mE most e zz.1 zz.2) (ex:=(fun _=>.exit 4)) (s:=(n,i)) h fun zz y hy=>HF R8 most e zz.1 zz.2 hR8 hy
end
def xv(R8:tG)(e:bH)(most:Int):Option Int:=
 (qu .i64 (e.Name.length:Int) 50).bind fun q1=>
 (Bn e.Types most).bind fun r2=>
 (GX most e (aO ((aO (1+q1))+r2)) 0).bind fun o12=>
 (GY R8 most e o12 0).bind fun o20=>
 (GZ R8 most e o20 0).bind fun o32=>
 some o32
theorem NF(R8:tG)(hR8:sZ R8){e:bH}{most:Int}{r:Int}(h:xv R8 e most=some r):CC Pg GE 30 [.agg (aN e),.int .i64 most] (.int .i64 r) []:=by
 obtain⟨q1,bq1,h⟩:=aA h
 obtain⟨r2,br2,h⟩:=aA h
 obtain⟨o12,bo12,h⟩:=aA h
 obtain⟨o20,bo20,h⟩:=aA h
 obtain⟨o32,bo32,h⟩:=aA h
 obtain rfl:=lf h
 have z:=se (Qk e)<|ra [0,1,3,7,15,0,32,0,224,511,1023]<|sv (CI e)<|sv (EI e)<|cw (gG underlying9 e.Name)<|sv (yG (P:=Pg) (t:=3) bq1)<|sv (CJ e)<|sv (CM e)<|bP (D6 br2)<|di (Jh most e (aO ((aO (1+q1))+r2)) 0 bo12)<|di (Ji R8 most e o12 0 hR8 bo20)<|di (Jj R8 most e o20 0 hR8 bo32)<|en (aI (rP (.int .i64 o32))<|trivial)
 exact ck Tw call30 func30 (c:=Xa) rfl (aI (wF e) (aI trivial trivial)) z<|by kernel_rfl
def C1:((bH×Int)->Option Int)->(bH×Int)->Option Int:=fun(rec:(bH×Int)->Option Int) (x:bH×Int)=>xv (fun e most=>rec (e,most)) x.1 x.2
def D3(e:bH)(most:Int):Option Int:=oP C1 (e,most)
theorem Pr{e:bH}{most:Int}{r:Int}(h:D3 e most=some r):CC Pg GE 30 [.agg (aN e),.int .i64 most] (.int .i64 r) []:=
 cR (F:=C1) (M:=fun(x:bH×Int) (r:Int)=>CC Pg GE 30 [.agg (aN x.1),.int .i64 x.2] (.int .i64 r) []) (fun rec hrec x r h=>NF _ (fun e most r h=>hrec (e,most) r h) h) h
noncomputable def b8:Code:=Tryz.f8.body.getD .skip
def A8:List Nat:=[]
def Br(t:ae):Option Bool:=
 (D3 (⟨0,([]:ag),0,([]:List bH),([]:List nJ),([]:List rj),([t]:List ae)⟩:bH) 150).bind fun r1=>
 some (decide (r1<=150))
theorem NP{t:ae}{r:Bool}(h:Br t=some r):CC Pg GE 8 [.agg (af t)] (.bool r) []:=by
 obtain⟨r1,br1,h⟩:=aA h
 obtain rfl:=lf h
 have z:=se (co t)<|sv (aZ t)<|sv (cQ.mk' (v:=lO) gi ([t]:List ae) 1 (by kernel_rfl))<|sb (Rk ([t]:List ae)) (Rg ([t]:List ae))<|bP (Pr br1)<|en (aI (rP (.bool (decide (r1<=150))))<|trivial)
 exact ck A8 call8 func8 (c:=b8) rfl (aI (av t) trivial) z<|by kernel_rfl
noncomputable def b9:Code:=Tryz.f9.body.getD .skip
def A9:List Nat:=[]
section
variable(v:waB)(i:Int)
def NN:az:=aW 20 [(0,sl cS v),(3,.int .i64 i)] [] []
def xM(o:Bool):az:=aW 20 [(0,sl cS v),(3,.int .i64 i),(19,.bool o)] [] []
def C7:Option Bool:=
 if(decide (i>=30))=true then
  some true
 else
  (cH v i).bind fun x3=>
  some (decide ((x3.length:Int)>100))
theorem Lx{x:Bool}(h:C7 v i=some x):aQ Pg GE 0 (cA b9 890) (EX .normal (xM v i x)) (NN v i):=by
 rcases aX h with⟨c2,h⟩|⟨c2,h⟩
 ·obtain rfl:=lf h
  exact ct A9 (sg 3 c2<|eF .normal (xM v i true))<|by kernel_rfl
 ·obtain⟨x3,bx3,h⟩:=aA h
  obtain rfl:=lf h
  exact ct A9 (sg 3 c2<|sv (bR.ia (k:=.i64) bx3)<|sv (iY Nd (.str x3) [])<|cw (gG underlying9 x3)<|eF .normal (xM v i (decide ((x3.length:Int)>100))))<|by kernel_rfl
end
section
variable(v:waB)(i:Int)
def oC:az:=aW 20 [(0,sl cS v),(3,.int .i64 i)] [] []
def oD(o:Unit⊕(Unit)):Exit:=match o with
 |(.inl _)=>.ret
 |(.inr _)=>.exit 0
def lF(o:Unit⊕(Unit)):az:=match o with
 |(.inl o)=>aW 20 [(2,.bool false)] [] []
 |(.inr o)=>aW 20 [] [] []
def lE:Option (Int⊕(Unit⊕(Unit))):=
 if(decide (i<(v.length:Int)))=true then
  (C7 v i).bind fun o4=>
  if o4=true then
   some (.inr (.inl ()))
  else
   some (.inl (aO (i+1)))
 else
  some (.inr (.inr ()))
def C8:Option (Unit⊕(Unit)):=loop (fun(zz:Int)=>lE v zz) i
theorem Jz{y:Int⊕(Unit⊕(Unit))}(h:lE v i=some y):aQ Pg GE 0 (cA b9 55) (LQ (fun(zz:Int)=>oC v zz) oD lF y) (oC v i):=by
 rcases aX h with⟨c1,h⟩|⟨c1,h⟩
 ·obtain⟨o4,bo4,h⟩:=aA h
  have p6:=fun{sc F} (r:PS sc F)=>cw (bR.ln v)<|sg 0 c1<|oe 1<|di (Lx v i bo4)<|r
  rcases aX h with⟨c5,h⟩|⟨c5,h⟩
  ·obtain rfl:=lf h
   have z:=p6<|sg 0 c5<|eF (oD (.inl ())) (lF (.inl ()))
   exact iW A9 (by intro hx;cases hx) z<|by kernel_rfl
  ·obtain rfl:=lf h
   exact rF A9 (p6<|sg 0 c5<|eF .normal (oC v (aO (i+1))))<|by kernel_rfl
 ·obtain rfl:=lf h
  have z:=cw (bR.ln v)<|sg 0 c1<|eF (oD (.inr ())) (lF (.inr ()))
  exact iW A9 (by intro hx;cases hx) z<|by kernel_rfl
theorem Ct{x:Unit⊕(Unit)}(h:C8 v i=some x):aQ Pg GE 0 (.loop (cA b9 55)) (EX (oD x) (lF x)) (oC v i):=
 aQ.loop (S:=fun(zz:Int)=>oC v zz) (ex:=oD) (s:=i) h fun zz y hy=>Jz v zz hy
end
def IA(a:waB):Option Bool:=
 (C8 a 0).bind fun o7=>match o7 with
 |(.inl o7)=>
  some false
 |(.inr o7)=>
  some true
theorem Q4{a:waB}{r:Bool}(h:IA a=some r):CC Pg GE 9 [sl cS a] (.bool r) []:=by
 obtain⟨o7,bo7,h⟩:=aA h
 rcases o7 with o7|o7
 ·obtain rfl:=lf h
  have z:=di (e:=.ret) (s1:=lF (.inl o7)) (Ct a 0 bo7)<|en (aI (rP (.bool false))<|trivial)
  exact ck A9 call9 func9 (c:=b9) rfl (aI (aq iu a) trivial) z<|by kernel_rfl
 ·obtain rfl:=lf h
  have z:=di (e:=.exit 0) (s1:=lF (.inr o7)) (Ct a 0 bo7)<|en (aI (rP (.bool true))<|trivial)
  exact ck A9 call9 func9 (c:=b9) rfl (aI (aq iu a) trivial) z<|by kernel_rfl
abbrev uQ:=(ae->Option Int)
abbrev zh(R:uQ):Prop:=∀(t:ae) (r:Int),R t=some r->CC Pg GE 60 [.agg (af t)] (.int .i64 r) []
noncomputable def qcu:Code:=f60.body.getD .skip
def qce:List Nat:=[]
section
variable(R16:uQ)(t7:waC)(t8:Int)(n:Int)(t9:Int)
def kq:az:=aW 20 [(3,.int .i64 n),(7,sl af t7),(8,.int .i64 t8),(9,.int .i64 t9)] [.dead] []
def tg(o:Int):az:=aW 20 [(3,.int .i64 o)] [.dead] []
def zL:Option ((Int×Int)⊕(Int)):=
 if(decide (t9<t8))=true then
  (cH t7 t9).bind fun x2=>
  (R16 x2).bind fun r3=>
  some (.inl ((if r3>n then r3 else n),aO (t9+1)))
 else
  some (.inr n)
def xt:Option Int:=loop (fun(zz:Int×Int)=>zL R16 t7 t8 zz.1 zz.2) (n,t9)
theorem FD(hR16:zh R16){y:(Int×Int)⊕(Int)}(h:zL R16 t7 t8 n t9=some y):aQ Pg GE 0 (cA qcu 119) (LQ (fun(zz:Int×Int)=>kq t7 t8 zz.1 zz.2) (fun _=>.exit 0) tg y) (kq t7 t8 n t9):=by
 rcases aX h with⟨c1,h⟩|⟨c1,h⟩
 ·obtain⟨x2,bx2,h⟩:=aA h
  obtain⟨r3,br3,h⟩:=aA h
  obtain rfl:=lf h
  have z:=sg 0 c1<|sv (cQ.ia (k:=.i64) bx2)<|sv (aZ x2)<|sx A6<|sx (iX x2)<|sv (dj x2 [])<|bP (hR16 _ _ br3)<|y4 0 .normal (kq t7 t8 (if r3>n then r3 else n) (aO (t9+1))) rfl (eh (aI trivial (aI (up (aq av t7)) (aI trivial (aI trivial trivial))))) (aI trivial trivial)
  exact dV (A:=qce) mixed z<|by kernel_rfl
 ·obtain rfl:=lf h
  have z:=sg 0 c1<|eF (.exit 0) (tg n)
  exact iW qce (by intro hx;cases hx) z<|by kernel_rfl
theorem HB(hR16:zh R16){x:Int}(h:xt R16 t7 t8 n t9=some x):aQ Pg GE 0 (.loop (cA qcu 119)) (EX (.exit 0) (tg x)) (kq t7 t8 n t9):=
 aQ.loop (S:=fun(zz:Int×Int)=>kq t7 t8 zz.1 zz.2) (ex:=(fun _=>.exit 0)) (s:=(n,t9)) h fun zz y hy=>FD R16 t7 t8 zz.1 zz.2 hR16 hy
end
def uK(R16:uQ)(t:ae):Option Int:=
 (xt R16 t.Args (t.Args.length:Int) 0 0).bind fun o4=>
 some (aO (o4+1))
theorem Lk(R16:uQ)(hR16:zh R16){t:ae}{r:Int}(h:uK R16 t=some r):CC Pg GE 60 [.agg (af t)] (.int .i64 r) []:=by
 obtain⟨o4,bo4,h⟩:=aA h
 obtain rfl:=lf h
 have z:=se (co t)<|sv (aT t)<|sv (aU t)<|cw (cQ.ln t.Args)<|di (HB R16 t.Args (t.Args.length:Int) 0 0 hR16 bo4)<|en (aI (rP (.int .i64 (aO (o4+1))))<|trivial)
 exact ck qce call60 func60 (c:=qcu) rfl (aI (av t) trivial) z<|by kernel_rfl
def zK:(ae->Option Int)->(ae)->Option Int:=fun(rec:ae->Option Int) (x:ae)=>uK (fun t=>rec t) x
def FC(t:ae):Option Int:=oP zK t
theorem ND{t:ae}{r:Int}(h:FC t=some r):CC Pg GE 60 [.agg (af t)] (.int .i64 r) []:=
 cR (F:=zK) (M:=fun(x:ae) (r:Int)=>CC Pg GE 60 [.agg (af x)] (.int .i64 r) []) (fun rec hrec x r h=>Lk _ (fun t r h=>hrec t r h) h) h
abbrev xJ:=(ae->Option Int)
abbrev CW(R:xJ):Prop:=∀(t:ae) (r:Int),R t=some r->CC Pg GE 61 [.agg (af t)] (.int .i64 r) []
noncomputable def Zl:Code:=f126.body.getD .skip
def Xf:List Nat:=[10,15,25]
section
variable(s:ag)(t7:Int)(out:waB)(begin:Int)(t8:Int)
def iE:az:=aW 31 [(0,.str s),(3,sl cS out),(4,.int .i64 begin),(7,.int .i64 t7),(8,.int .i64 t8)] [] [((3,0),9)]
def tc(o:waB×Int):az:=aW 31 [(0,.str s),(3,sl cS o.1),(4,.int .i64 o.2)] [] [((3,0),9)]
def iF:Option ((waB×Int×Int)⊕((waB×Int))):=
 if(decide (t8<t7))=true then
  (sK s t8).bind fun c2=>
  if(c2==46)=true then
   (K3 s (some begin) (some t8)).bind fun s5=>
   (app out ([s5]:List ag)).bind fun l6=>
   some (.inl (l6,aO (t8+1),aO (t8+1)))
  else
   some (.inl (out,begin,aO (t8+1)))
 else
  some (.inr (out,begin))
def xm:Option ((waB×Int)):=loop (fun(zz:waB×Int×Int)=>iF s t7 zz.1 zz.2.1 zz.2.2) (out,begin,t8)
theorem Fw{y:(waB×Int×Int)⊕((waB×Int))}(h:iF s t7 out begin t8=some y):aQ Pg GE 0 (cA Zl 247) (LQ (fun(zz:waB×Int×Int)=>iE s t7 zz.1 zz.2.1 zz.2.2) (fun _=>.exit 0) (tc s) y) (iE s t7 out begin t8):=by
 rcases aX h with⟨c1,h⟩|⟨c1,h⟩
 ·obtain⟨c2,bc2,h⟩:=aA h
  have p4:=fun{sc F} (r:PS sc F)=>sg 0 c1<|sv (pz (k:=.i64) underlying9 bc2)<|r
  rcases aX h with⟨c3,h⟩|⟨c3,h⟩
  ·obtain⟨s5,bs5,h⟩:=aA h
   obtain⟨l6,bl6,h⟩:=aA h
   obtain rfl:=lf h
   exact rF Xf (p4<|sg 0 c3<|sv (YZ underlying9 bs5)<|sv (bR.mk' (v:=PVal.str) L9 ([s5]:List ag) 1 (by kernel_rfl))<|sv (bR.ap bl6)<|eF .normal (iE s t7 l6 (aO (t8+1)) (aO (t8+1))))<|by kernel_rfl
  ·obtain rfl:=lf h
   exact rF Xf (p4<|sg 0 c3<|eF .normal (iE s t7 out begin (aO (t8+1))))<|by kernel_rfl
 ·obtain rfl:=lf h
  have z:=sg 0 c1<|eF (.exit 0) (tc s (out,begin))
  exact iW Xf (by intro hx;cases hx) z<|by kernel_rfl
theorem Hw{x:(waB×Int)}(h:xm s t7 out begin t8=some x):aQ Pg GE 0 (.loop (cA Zl 247)) (EX (.exit 0) (tc s x)) (iE s t7 out begin t8):=
 aQ.loop (S:=fun(zz:waB×Int×Int)=>iE s t7 zz.1 zz.2.1 zz.2.2) (ex:=(fun _=>.exit 0)) (s:=(out,begin,t8)) h fun zz y hy=>Fw s t7 zz.1 zz.2.1 zz.2.2 hy
end
def Bj(s:ag):Option waB:=
 (xm s (s.length:Int) ([]:List ag) 0 0).bind fun o7=>
 (K3 s (some o7.2) none).bind fun s8=>
 (app o7.1 ([s8]:List ag)).bind fun l9=>
 some l9
theorem Nv{s:ag}{r:waB}(h:Bj s=some r):CC Pg GE 126 [.str s] (sl cS r) [(0,9)]:=by
 obtain⟨o7,bo7,h⟩:=aA h
 obtain⟨s8,bs8,h⟩:=aA h
 obtain⟨l9,bl9,h⟩:=aA h
 obtain rfl:=lf h
 have z:=cw (gG underlying9 s)<|di (Hw s (s.length:Int) ([]:List ag) 0 0 bo7)<|sv (YZ underlying9 bs8)<|sv (bR.mk' (v:=PVal.str) L9 ([s8]:List ag) 1 (by kernel_rfl))<|sv (bR.ap bl9)<|en (aI (rP (sl cS l9))<|(aq iu l9))
 exact ck Xf call126 func126 (c:=Zl) rfl (aI trivial trivial) z<|by kernel_rfl
noncomputable def qaJ:Code:=f102.body.getD .skip
def qak:List Nat:=[]
def ls(c:Int):Option Bool:=
 if(decide (c>=97))=true then
  some (decide (c<=122))
 else
  some false
theorem lu{c:Int}{r:Bool}(h:ls c=some r):CC Pg GE 102 [.int .u8 c] (.bool r) []:=by
 rcases aX h with⟨c1,h⟩|⟨c1,h⟩
 ·obtain rfl:=lf h
  have z:=sg 3 c1<|en (aI (rP (.bool (decide (c<=122))))<|trivial)
  exact ck qak call102 func102 (c:=qaJ) rfl (aI trivial trivial) z<|by kernel_rfl
 ·obtain rfl:=lf h
  have z:=sg 3 c1<|en (aI (rP (.bool false))<|trivial)
  exact ck qak call102 func102 (c:=qaJ) rfl (aI trivial trivial) z<|by kernel_rfl
noncomputable def qcn:Code:=f116.body.getD .skip
def qb8:List Nat:=[]
def DZ:Option waB:=
 some ([([97,110,100]:ag),([97,115,115,117,109,101]:ag),([98,111,111,108]:ag),([98,111,117,110,100]:ag),([99,97,115,101]:ag),([99,101,108,108]:ag),([99,108,97,115,115]:ag),([100,97,116,97]:ag),([100,101,102]:ag),([100,105,118]:ag),([101,108,115,101]:ag),([101,110,100]:ag),([102,97,108,115,101]:ag),([102,111,114,97,108,108]:ag),([102,117,110]:ag),([103,101,116]:ag),([105,102]:ag),([105,110]:ag),([105,110,115,116]:ag),([105,110,116]:ag),([105,110,118,97,114,105,97,110,116]:ag),([108,101,116]:ag),([109,97,116,99,104]:ag),([109,101,97,115,117,114,101]:ag),([109,101,116,114,105,99]:ag),([109,111,100]:ag),([109,117]:ag),([110,101,119]:ag),([110,111,116]:ag),([111,102]:ag),([111,114]:ag),([113,117,97,108]:ag),([114,101,102,108,101,99,116]:ag),([115,101,116]:ag),([116,104,101,110]:ag),([116,114,117,101]:ag),([117,115,101]:ag),([118]:ag),([118,97,108]:ag),([116,97,103]:ag),([119,104,101,114,101]:ag),([119,105,116,104]:ag)]:List ag)
theorem Hu{r:waB}(h:DZ=some r):CC Pg GE 116 [] (sl cS r) [(0,9)]:=by
 obtain rfl:=lf h
 have z:=sv (bR.mk' (v:=PVal.str) L9 ([([97,110,100]:ag),([97,115,115,117,109,101]:ag),([98,111,111,108]:ag),([98,111,117,110,100]:ag),([99,97,115,101]:ag),([99,101,108,108]:ag),([99,108,97,115,115]:ag),([100,97,116,97]:ag),([100,101,102]:ag),([100,105,118]:ag),([101,108,115,101]:ag),([101,110,100]:ag),([102,97,108,115,101]:ag),([102,111,114,97,108,108]:ag),([102,117,110]:ag),([103,101,116]:ag),([105,102]:ag),([105,110]:ag),([105,110,115,116]:ag),([105,110,116]:ag),([105,110,118,97,114,105,97,110,116]:ag),([108,101,116]:ag),([109,97,116,99,104]:ag),([109,101,97,115,117,114,101]:ag),([109,101,116,114,105,99]:ag),([109,111,100]:ag),([109,117]:ag),([110,101,119]:ag),([110,111,116]:ag),([111,102]:ag),([111,114]:ag),([113,117,97,108]:ag),([114,101,102,108,101,99,116]:ag),([115,101,116]:ag),([116,104,101,110]:ag),([116,114,117,101]:ag),([117,115,101]:ag),([118]:ag),([118,97,108]:ag),([116,97,103]:ag),([119,104,101,114,101]:ag),([119,105,116,104]:ag)]:List ag) 42 (by kernel_rfl))<|en (aI (rP (sl cS ([([97,110,100]:ag),([97,115,115,117,109,101]:ag),([98,111,111,108]:ag),([98,111,117,110,100]:ag),([99,97,115,101]:ag),([99,101,108,108]:ag),([99,108,97,115,115]:ag),([100,97,116,97]:ag),([100,101,102]:ag),([100,105,118]:ag),([101,108,115,101]:ag),([101,110,100]:ag),([102,97,108,115,101]:ag),([102,111,114,97,108,108]:ag),([102,117,110]:ag),([103,101,116]:ag),([105,102]:ag),([105,110]:ag),([105,110,115,116]:ag),([105,110,116]:ag),([105,110,118,97,114,105,97,110,116]:ag),([108,101,116]:ag),([109,97,116,99,104]:ag),([109,101,97,115,117,114,101]:ag),([109,101,116,114,105,99]:ag),([109,111,100]:ag),([109,117]:ag),([110,101,119]:ag),([110,111,116]:ag),([111,102]:ag),([111,114]:ag),([113,117,97,108]:ag),([114,101,102,108,101,99,116]:ag),([115,101,116]:ag),([116,104,101,110]:ag),([116,114,117,101]:ag),([117,115,101]:ag),([118]:ag),([118,97,108]:ag),([116,97,103]:ag),([119,104,101,114,101]:ag),([119,105,116,104]:ag)]:List ag)))<|(aq iu ([([97,110,100]:ag),([97,115,115,117,109,101]:ag),([98,111,111,108]:ag),([98,111,117,110,100]:ag),([99,97,115,101]:ag),([99,101,108,108]:ag),([99,108,97,115,115]:ag),([100,97,116,97]:ag),([100,101,102]:ag),([100,105,118]:ag),([101,108,115,101]:ag),([101,110,100]:ag),([102,97,108,115,101]:ag),([102,111,114,97,108,108]:ag),([102,117,110]:ag),([103,101,116]:ag),([105,102]:ag),([105,110]:ag),([105,110,115,116]:ag),([105,110,116]:ag),([105,110,118,97,114,105,97,110,116]:ag),([108,101,116]:ag),([109,97,116,99,104]:ag),([109,101,97,115,117,114,101]:ag),([109,101,116,114,105,99]:ag),([109,111,100]:ag),([109,117]:ag),([110,101,119]:ag),([110,111,116]:ag),([111,102]:ag),([111,114]:ag),([113,117,97,108]:ag),([114,101,102,108,101,99,116]:ag),([115,101,116]:ag),([116,104,101,110]:ag),([116,114,117,101]:ag),([117,115,101]:ag),([118]:ag),([118,97,108]:ag),([116,97,103]:ag),([119,104,101,114,101]:ag),([119,105,116,104]:ag)]:List ag)))
 exact ck qb8 call116 func116 (c:=qcn) rfl trivial z<|by kernel_rfl
noncomputable def qbY:Code:=f83.body.getD .skip
def qay:List Nat:=[10,17]
section
variable(v:waB)(s:ag)(t7:Int)(t8:Int)
def mn:az:=aW 19 [(0,sl cS v),(1,.str s),(7,.int .i64 t7),(8,.int .i64 t8)] [] []
def mq(o:Int⊕(Unit)):Exit:=match o with
 |(.inl _)=>.ret
 |(.inr _)=>.exit 0
def jQ(o:Int⊕(Unit)):az:=match o with
 |(.inl o)=>aW 19 [(4,.int .i64 o)] [] []
 |(.inr o)=>aW 19 [] [] []
def mo:Option (Int⊕(Int⊕(Unit))):=
 if(decide (t8<t7))=true then
  (cH v t8).bind fun x2=>
  if(x2==s)=true then
   some (.inr (.inl t8))
  else
   some (.inl (aO (t8+1)))
 else
  some (.inr (.inr ()))
def zq:Option (Int⊕(Unit)):=loop (fun(zz:Int)=>mo v s t7 zz) t8
theorem Hr{y:Int⊕(Int⊕(Unit))}(h:mo v s t7 t8=some y):aQ Pg GE 0 (cA qbY 55) (LQ (fun(zz:Int)=>mn v s t7 zz) mq jQ y) (mn v s t7 t8):=by
 rcases aX h with⟨c1,h⟩|⟨c1,h⟩
 ·obtain⟨x2,bx2,h⟩:=aA h
  have p4:=fun{sc F} (r:PS sc F)=>sg 0 c1<|sv (bR.ia (k:=.i64) bx2)<|sv (iY Nd (.str x2) [])<|r
  rcases aX h with⟨c3,h⟩|⟨c3,h⟩
  ·obtain rfl:=lf h
   have z:=p4<|sg 0 c3<|eF (mq (.inl t8)) (jQ (.inl t8))
   exact iW qay (by intro hx;cases hx) z<|by kernel_rfl
  ·obtain rfl:=lf h
   exact rF qay (p4<|sg 0 c3<|eF .normal (mn v s t7 (aO (t8+1))))<|by kernel_rfl
 ·obtain rfl:=lf h
  have z:=sg 0 c1<|eF (mq (.inr ())) (jQ (.inr ()))
  exact iW qay (by intro hx;cases hx) z<|by kernel_rfl
theorem zr{x:Int⊕(Unit)}(h:zq v s t7 t8=some x):aQ Pg GE 0 (.loop (cA qbY 55)) (EX (mq x) (jQ x)) (mn v s t7 t8):=
 aQ.loop (S:=fun(zz:Int)=>mn v s t7 zz) (ex:=mq) (s:=t8) h fun zz y hy=>Hr v s t7 zz hy
end
def wx(a:waB)(s:ag):Option Int:=
 (zq a s (a.length:Int) 0).bind fun o5=>match o5 with
 |(.inl o5)=>
  some o5
 |(.inr o5)=>
  some (-1)
theorem GT{a:waB}{s:ag}{r:Int}(h:wx a s=some r):CC Pg GE 83 [sl cS a,.str s] (.int .i64 r) []:=by
 obtain⟨o5,bo5,h⟩:=aA h
 rcases o5 with o5|o5
 ·obtain rfl:=lf h
  have z:=cw (bR.ln a)<|di (e:=.ret) (s1:=jQ (.inl o5)) (zr a s (a.length:Int) 0 bo5)<|en (aI (rP (.int .i64 o5))<|trivial)
  exact ck qay call83 func83 (c:=qbY) rfl (aI (aq iu a) (aI trivial trivial)) z<|by kernel_rfl
 ·obtain rfl:=lf h
  have z:=cw (bR.ln a)<|di (e:=.exit 0) (s1:=jQ (.inr o5)) (zr a s (a.length:Int) 0 bo5)<|en (aI (rP (.int .i64 (-1)))<|trivial)
  exact ck qay call83 func83 (c:=qbY) rfl (aI (aq iu a) (aI trivial trivial)) z<|by kernel_rfl
noncomputable def qcl:Code:=f103.body.getD .skip
def qb6:List Nat:=[]
def uB(s:ag):Option Bool:=
 DZ.bind fun r1=>
 (wx r1 s).bind fun r2=>
 some (decide (r2>=0))
theorem IU{s:ag}{r:Bool}(h:uB s=some r):CC Pg GE 103 [.str s] (.bool r) []:=by
 obtain⟨r1,br1,h⟩:=aA h
 obtain⟨r2,br2,h⟩:=aA h
 obtain rfl:=lf h
 have z:=bP (Hu br1)<|bP (GT br2)<|en (aI (rP (.bool (decide (r2>=0))))<|trivial)
 exact ck qb6 call103 func103 (c:=qcl) rfl (aI trivial trivial) z<|by kernel_rfl
noncomputable def qaK:Code:=f104.body.getD .skip
def qal:List Nat:=[]
def pE(c:Int):Option Bool:=
 if(decide (c>=48))=true then
  some (decide (c<=57))
 else
  some false
theorem sh{c:Int}{r:Bool}(h:pE c=some r):CC Pg GE 104 [.int .u8 c] (.bool r) []:=by
 rcases aX h with⟨c1,h⟩|⟨c1,h⟩
 ·obtain rfl:=lf h
  have z:=sg 3 c1<|en (aI (rP (.bool (decide (c<=57))))<|trivial)
  exact ck qal call104 func104 (c:=qaK) rfl (aI trivial trivial) z<|by kernel_rfl
 ·obtain rfl:=lf h
  have z:=sg 3 c1<|en (aI (rP (.bool false))<|trivial)
  exact ck qal call104 func104 (c:=qaK) rfl (aI trivial trivial) z<|by kernel_rfl
noncomputable def Zs:Code:=f87.body.getD .skip
def Tz:List Nat:=[26]
section
variable(s:ag)
def IR:az:=aW 46 [(0,.str s)] [] []
def kj(o:Bool):az:=aW 46 [(0,.str s),(21,.bool o)] [] []
def xi:Option Bool:=
 if(decide ((s.length:Int)<1))=true then
  some true
 else
  if(decide ((s.length:Int)>24))=true then
   some true
  else
   (sK s 0).bind fun c4=>
   (ls c4).bind fun r5=>
   if(!r5)=true then
    some true
   else
    (uB s).bind fun r8=>
    some r8
theorem Hn{x:Bool}(h:xi s=some x):aQ Pg GE 0 (cA Zs 12) (EX .normal (kj s x)) (IR s):=by
 rcases aX h with⟨c1,h⟩|⟨c1,h⟩
 ·obtain rfl:=lf h
  exact ct Tz (cw (gG underlying9 s)<|sg 4 c1<|eF .normal (kj s true))<|by kernel_rfl
 ·have p3:=fun{sc F} (r:PS sc F)=>cw (gG underlying9 s)<|sg 4 c1<|cw (gG underlying9 s)<|r
  rcases aX h with⟨c2,h⟩|⟨c2,h⟩
  ·obtain rfl:=lf h
   exact ct Tz (p3<|sg 9 c2<|eF .normal (kj s true))<|by kernel_rfl
  ·obtain⟨c4,bc4,h⟩:=aA h
   obtain⟨r5,br5,h⟩:=aA h
   have p7:=fun{sc F} (r:PS sc F)=>p3<|sg 9 c2<|sv (pz (k:=.i64) underlying9 bc4)<|bP (lu br5)<|r
   rcases aX h with⟨c6,h⟩|⟨c6,h⟩
   ·obtain rfl:=lf h
    exact ct Tz (p7<|sg 15 c6<|eF .normal (kj s true))<|by kernel_rfl
   ·obtain⟨r8,br8,h⟩:=aA h
    obtain rfl:=lf h
    exact ct Tz (p7<|sg 15 c6<|bP (IU br8)<|eF .normal (kj s r8))<|by kernel_rfl
end
section
variable(s:ag)(i:Int)(t23:Int)
def IS:az:=aW 46 [(0,.str s),(3,.int .i64 i),(23,.int .i64 t23),(24,.int .i64 i)] [] []
def ol(o:Bool):az:=aW 46 [(0,.str s),(23,.int .i64 t23),(24,.int .i64 i),(44,.bool o)] [] []
def oh:Option Bool:=
 (sK s i).bind fun c13=>
 (ls c13).bind fun r14=>
 if(!r14)=true then
  (sK s i).bind fun c17=>
  (pE c17).bind fun r18=>
  if(!r18)=true then
   (sK s i).bind fun c21=>
   some (c21 !=95)
  else
   some false
 else
  some false
theorem Ho{x:Bool}(h:oh s i=some x):aQ Pg GE 0 (cA Zs 7670) (EX .normal (ol s i t23 x)) (IS s i t23):=by
 obtain⟨c13,bc13,h⟩:=aA h
 obtain⟨r14,br14,h⟩:=aA h
 have p16:=fun{sc F} (r:PS sc F)=>sv (pz (k:=.i64) underlying9 bc13)<|bP (lu br14)<|r
 rcases aX h with⟨c15,h⟩|⟨c15,h⟩
 ·obtain⟨c17,bc17,h⟩:=aA h
  obtain⟨r18,br18,h⟩:=aA h
  have p20:=fun{sc F} (r:PS sc F)=>p16<|sg 6 c15<|sv (pz (k:=.i64) underlying9 bc17)<|bP (sh br18)<|r
  rcases aX h with⟨c19,h⟩|⟨c19,h⟩
  ·obtain⟨c21,bc21,h⟩:=aA h
   obtain rfl:=lf h
   exact ct Tz (p20<|sg 13 c19<|sv (pz (k:=.i64) underlying9 bc21)<|eF .normal (ol s i t23 (c21 !=95)))<|by kernel_rfl
  ·obtain rfl:=lf h
   exact ct Tz (p20<|sg 13 c19<|eF .normal (ol s i t23 false))<|by kernel_rfl
 ·obtain rfl:=lf h
  exact ct Tz (p16<|sg 6 c15<|eF .normal (ol s i t23 false))<|by kernel_rfl
end
section
variable(s:ag)(t23:Int)(t24:Int)
def kk:az:=aW 46 [(0,.str s),(23,.int .i64 t23),(24,.int .i64 t24)] [] []
def kl(o:Unit⊕(Unit)):Exit:=match o with
 |(.inl _)=>.ret
 |(.inr _)=>.exit 0
def iC(o:Unit⊕(Unit)):az:=match o with
 |(.inl o)=>aW 46 [(2,.int .i64 3)] [] []
 |(.inr o)=>aW 46 [] [] []
def zn:Option (Int⊕(Unit⊕(Unit))):=
 if(decide (t24<t23))=true then
  (oh s t24).bind fun o22=>
  if o22=true then
   some (.inr (.inl ()))
  else
   some (.inl (aO (t24+1)))
 else
  some (.inr (.inr ()))
def xj:Option (Unit⊕(Unit)):=loop (fun(zz:Int)=>zn s t23 zz) t24
theorem Ft{y:Int⊕(Unit⊕(Unit))}(h:zn s t23 t24=some y):aQ Pg GE 0 (cA Zs 119) (LQ (fun(zz:Int)=>kk s t23 zz) kl iC y) (kk s t23 t24):=by
 rcases aX h with⟨c12,h⟩|⟨c12,h⟩
 ·obtain⟨o22,bo22,h⟩:=aA h
  have p24:=fun{sc F} (r:PS sc F)=>sg 0 c12<|oe 2<|di (Ho s t24 t23 bo22)<|r
  rcases aX h with⟨c23,h⟩|⟨c23,h⟩
  ·obtain rfl:=lf h
   have z:=p24<|sg 0 c23<|eF (kl (.inl ())) (iC (.inl ()))
   exact iW Tz (by intro hx;cases hx) z<|by kernel_rfl
  ·obtain rfl:=lf h
   exact rF Tz (p24<|sg 0 c23<|eF .normal (kk s t23 (aO (t24+1))))<|by kernel_rfl
 ·obtain rfl:=lf h
  have z:=sg 0 c12<|eF (kl (.inr ())) (iC (.inr ()))
  exact iW Tz (by intro hx;cases hx) z<|by kernel_rfl
theorem yD{x:Unit⊕(Unit)}(h:xj s t23 t24=some x):aQ Pg GE 0 (.loop (cA Zs 119)) (EX (kl x) (iC x)) (kk s t23 t24):=
 aQ.loop (S:=fun(zz:Int)=>kk s t23 zz) (ex:=kl) (s:=t24) h fun zz y hy=>Ft s t23 zz hy
end
def pD(s:ag):Option Int:=
 (xi s).bind fun o9=>
 if o9=true then
  some 3
 else
  (xj s (s.length:Int) 0).bind fun o25=>match o25 with
  |(.inl o25)=>
   some 3
  |(.inr o25)=>
   some 0
theorem DY{s:ag}{r:Int}(h:pD s=some r):CC Pg GE 87 [.str s] (.int .i64 r) []:=by
 obtain⟨o9,bo9,h⟩:=aA h
 have p11:=fun{sc F} (r:PS sc F)=>oe 2<|di (Hn s bo9)<|r
 rcases aX h with⟨c10,h⟩|⟨c10,h⟩
 ·obtain rfl:=lf h
  have z:=p11<|sg 0 c10<|en (aI (rP (.int .i64 3))<|trivial)
  exact ck Tz call87 func87 (c:=Zs) rfl (aI trivial trivial) z<|by kernel_rfl
 ·obtain⟨o25,bo25,h⟩:=aA h
  rcases o25 with o25|o25
  ·obtain rfl:=lf h
   have z:=p11<|sg 0 c10<|cw (gG underlying9 s)<|di (e:=.ret) (s1:=iC (.inl o25)) (yD s (s.length:Int) 0 bo25)<|en (aI (rP (.int .i64 3))<|trivial)
   exact ck Tz call87 func87 (c:=Zs) rfl (aI trivial trivial) z<|by kernel_rfl
  ·obtain rfl:=lf h
   have z:=p11<|sg 0 c10<|cw (gG underlying9 s)<|di (e:=.exit 0) (s1:=iC (.inr o25)) (yD s (s.length:Int) 0 bo25)<|en (aI (rP (.int .i64 0))<|trivial)
   exact ck Tz call87 func87 (c:=Zs) rfl (aI trivial trivial) z<|by kernel_rfl
noncomputable def qaO:Code:=f145.body.getD .skip
def qap:List Nat:=[]
def nN(c:Int):Option Bool:=
 if(decide (c>=65))=true then
  some (decide (c<=90))
 else
  some false
theorem tb{c:Int}{r:Bool}(h:nN c=some r):CC Pg GE 145 [.int .u8 c] (.bool r) []:=by
 rcases aX h with⟨c1,h⟩|⟨c1,h⟩
 ·obtain rfl:=lf h
  have z:=sg 3 c1<|en (aI (rP (.bool (decide (c<=90))))<|trivial)
  exact ck qap call145 func145 (c:=qaO) rfl (aI trivial trivial) z<|by kernel_rfl
 ·obtain rfl:=lf h
  have z:=sg 3 c1<|en (aI (rP (.bool false))<|trivial)
  exact ck qap call145 func145 (c:=qaO) rfl (aI trivial trivial) z<|by kernel_rfl
noncomputable def Q8:Code:=f127.body.getD .skip
def BX:List Nat:=[38]
section
variable(s:ag)
def IV:az:=aW 59 [(0,.str s)] [] []
def fg(o:Bool):az:=aW 59 [(0,.str s),(33,.bool o)] [] []
def xk:Option Bool:=
 if(decide ((s.length:Int)<1))=true then
  some true
 else
  if(decide ((s.length:Int)>24))=true then
   some true
  else
   (sK s 0).bind fun c4=>
   (nN c4).bind fun r5=>
   if(!r5)=true then
    some true
   else
    if(s==([73,110,116]:ag))=true then
     some true
    else
     if(s==([66,111,111,108]:ag))=true then
      some true
     else
      if(s==([67,101,108,108]:ag))=true then
       some true
      else
       some (s==([70,117,110]:ag))
theorem Hs{x:Bool}(h:xk s=some x):aQ Pg GE 0 (cA Q8 12) (EX .normal (fg s x)) (IV s):=by
 rcases aX h with⟨c1,h⟩|⟨c1,h⟩
 ·obtain rfl:=lf h
  exact ct BX (cw (gG underlying9 s)<|sg 4 c1<|eF .normal (fg s true))<|by kernel_rfl
 ·have p3:=fun{sc F} (r:PS sc F)=>cw (gG underlying9 s)<|sg 4 c1<|cw (gG underlying9 s)<|r
  rcases aX h with⟨c2,h⟩|⟨c2,h⟩
  ·obtain rfl:=lf h
   exact ct BX (p3<|sg 9 c2<|eF .normal (fg s true))<|by kernel_rfl
  ·obtain⟨c4,bc4,h⟩:=aA h
   obtain⟨r5,br5,h⟩:=aA h
   have p7:=fun{sc F} (r:PS sc F)=>p3<|sg 9 c2<|sv (pz (k:=.i64) underlying9 bc4)<|bP (tb br5)<|r
   rcases aX h with⟨c6,h⟩|⟨c6,h⟩
   ·obtain rfl:=lf h
    exact ct BX (p7<|sg 15 c6<|eF .normal (fg s true))<|by kernel_rfl
   ·have p9:=fun{sc F} (r:PS sc F)=>p7<|sg 15 c6<|r
    rcases aX h with⟨c8,h⟩|⟨c8,h⟩
    ·obtain rfl:=lf h
     exact ct BX (p9<|sg 19 c8<|eF .normal (fg s true))<|by kernel_rfl
    ·have p11:=fun{sc F} (r:PS sc F)=>p9<|sg 19 c8<|r
     rcases aX h with⟨c10,h⟩|⟨c10,h⟩
     ·obtain rfl:=lf h
      exact ct BX (p11<|sg 23 c10<|eF .normal (fg s true))<|by kernel_rfl
     ·have p13:=fun{sc F} (r:PS sc F)=>p11<|sg 23 c10<|r
      rcases aX h with⟨c12,h⟩|⟨c12,h⟩
      ·obtain rfl:=lf h
       exact ct BX (p13<|sg 27 c12<|eF .normal (fg s true))<|by kernel_rfl
      ·obtain rfl:=lf h
       exact ct BX (p13<|sg 27 c12<|eF .normal (fg s (s==([70,117,110]:ag))))<|by kernel_rfl
end
section
variable(s:ag)(i:Int)(t35:Int)
def IW:az:=aW 59 [(0,.str s),(3,.int .i64 i),(35,.int .i64 t35),(36,.int .i64 i)] [] []
def oo(o:Bool):az:=aW 59 [(0,.str s),(35,.int .i64 t35),(36,.int .i64 i),(57,.bool o)] [] []
def om:Option Bool:=
 (sK s i).bind fun c18=>
 (ls c18).bind fun r19=>
 if(!r19)=true then
  (sK s i).bind fun c22=>
  (nN c22).bind fun r23=>
  if(!r23)=true then
   (sK s i).bind fun c26=>
   (pE c26).bind fun r27=>
   some (!r27)
  else
   some false
 else
  some false
theorem Ht{x:Bool}(h:om s i=some x):aQ Pg GE 0 (cA Q8 7670) (EX .normal (oo s i t35 x)) (IW s i t35):=by
 obtain⟨c18,bc18,h⟩:=aA h
 obtain⟨r19,br19,h⟩:=aA h
 have p21:=fun{sc F} (r:PS sc F)=>sv (pz (k:=.i64) underlying9 bc18)<|bP (lu br19)<|r
 rcases aX h with⟨c20,h⟩|⟨c20,h⟩
 ·obtain⟨c22,bc22,h⟩:=aA h
  obtain⟨r23,br23,h⟩:=aA h
  have p25:=fun{sc F} (r:PS sc F)=>p21<|sg 6 c20<|sv (pz (k:=.i64) underlying9 bc22)<|bP (tb br23)<|r
  rcases aX h with⟨c24,h⟩|⟨c24,h⟩
  ·obtain⟨c26,bc26,h⟩:=aA h
   obtain⟨r27,br27,h⟩:=aA h
   obtain rfl:=lf h
   exact ct BX (p25<|sg 13 c24<|sv (pz (k:=.i64) underlying9 bc26)<|bP (sh br27)<|eF .normal (oo s i t35 (!r27)))<|by kernel_rfl
  ·obtain rfl:=lf h
   exact ct BX (p25<|sg 13 c24<|eF .normal (oo s i t35 false))<|by kernel_rfl
 ·obtain rfl:=lf h
  exact ct BX (p21<|sg 6 c20<|eF .normal (oo s i t35 false))<|by kernel_rfl
end
section
variable(s:ag)(t35:Int)(t36:Int)
def km:az:=aW 59 [(0,.str s),(35,.int .i64 t35),(36,.int .i64 t36)] [] []
def kn(o:Unit⊕(Unit)):Exit:=match o with
 |(.inl _)=>.ret
 |(.inr _)=>.exit 0
def iD(o:Unit⊕(Unit)):az:=match o with
 |(.inl o)=>aW 59 [(2,.int .i64 3)] [] []
 |(.inr o)=>aW 59 [] [] []
def zu:Option (Int⊕(Unit⊕(Unit))):=
 if(decide (t36<t35))=true then
  (om s t36).bind fun o28=>
  if o28=true then
   some (.inr (.inl ()))
  else
   some (.inl (aO (t36+1)))
 else
  some (.inr (.inr ()))
def xl:Option (Unit⊕(Unit)):=loop (fun(zz:Int)=>zu s t35 zz) t36
theorem Fv{y:Int⊕(Unit⊕(Unit))}(h:zu s t35 t36=some y):aQ Pg GE 0 (cA Q8 119) (LQ (fun(zz:Int)=>km s t35 zz) kn iD y) (km s t35 t36):=by
 rcases aX h with⟨c17,h⟩|⟨c17,h⟩
 ·obtain⟨o28,bo28,h⟩:=aA h
  have p30:=fun{sc F} (r:PS sc F)=>sg 0 c17<|oe 2<|di (Ht s t36 t35 bo28)<|r
  rcases aX h with⟨c29,h⟩|⟨c29,h⟩
  ·obtain rfl:=lf h
   have z:=p30<|sg 0 c29<|eF (kn (.inl ())) (iD (.inl ()))
   exact iW BX (by intro hx;cases hx) z<|by kernel_rfl
  ·obtain rfl:=lf h
   exact rF BX (p30<|sg 0 c29<|eF .normal (km s t35 (aO (t36+1))))<|by kernel_rfl
 ·obtain rfl:=lf h
  have z:=sg 0 c17<|eF (kn (.inr ())) (iD (.inr ()))
  exact iW BX (by intro hx;cases hx) z<|by kernel_rfl
theorem yE{x:Unit⊕(Unit)}(h:xl s t35 t36=some x):aQ Pg GE 0 (.loop (cA Q8 119)) (EX (kn x) (iD x)) (km s t35 t36):=
 aQ.loop (S:=fun(zz:Int)=>km s t35 zz) (ex:=kn) (s:=t36) h fun zz y hy=>Fv s t35 zz hy
end
def Bi(s:ag):Option Int:=
 (xk s).bind fun o14=>
 if o14=true then
  some 3
 else
  (xl s (s.length:Int) 0).bind fun o31=>match o31 with
  |(.inl o31)=>
   some 3
  |(.inr o31)=>
   some 0
theorem Nu{s:ag}{r:Int}(h:Bi s=some r):CC Pg GE 127 [.str s] (.int .i64 r) []:=by
 obtain⟨o14,bo14,h⟩:=aA h
 have p16:=fun{sc F} (r:PS sc F)=>oe 2<|di (Hs s bo14)<|r
 rcases aX h with⟨c15,h⟩|⟨c15,h⟩
 ·obtain rfl:=lf h
  have z:=p16<|sg 0 c15<|en (aI (rP (.int .i64 3))<|trivial)
  exact ck BX call127 func127 (c:=Q8) rfl (aI trivial trivial) z<|by kernel_rfl
 ·obtain⟨o31,bo31,h⟩:=aA h
  rcases o31 with o31|o31
  ·obtain rfl:=lf h
   have z:=p16<|sg 0 c15<|cw (gG underlying9 s)<|di (e:=.ret) (s1:=iD (.inl o31)) (yE s (s.length:Int) 0 bo31)<|en (aI (rP (.int .i64 3))<|trivial)
   exact ck BX call127 func127 (c:=Q8) rfl (aI trivial trivial) z<|by kernel_rfl
  ·obtain rfl:=lf h
   have z:=p16<|sg 0 c15<|cw (gG underlying9 s)<|di (e:=.exit 0) (s1:=iD (.inr o31)) (yE s (s.length:Int) 0 bo31)<|en (aI (rP (.int .i64 0))<|trivial)
   exact ck BX call127 func127 (c:=Q8) rfl (aI trivial trivial) z<|by kernel_rfl
end Go.Proofs.YtbaamopmfmpfaaaGreatDoor
