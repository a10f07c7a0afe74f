/- PROVED: a part of the proof. Conditions: none. -/
import Derived.Test.YtkdahfeiedaahaaGreatDoorPkA9
import Derived.Test.YtkdahfeiedaahaaGreatDoorPkA10
noncomputable section
namespace Go.Proofs.YtkdahfeiedaahaaGreatDoor
open Go Go.Proofs.Tryz
set_option linter.unusedVariables false
set_option maxRecDepth 100000
abbrev yL:=(af->Int->Option Int)
abbrev yq(R:yL):Prop:=∀(e:af) (most:Int) (r:Int),R e most=some r->CC Pg GE 46 [.agg (ac e),.int .i64 most] (.int .i64 r) []
abbrev zZ:=(waB->Int->Option Int)
abbrev Dn(R:zZ):Prop:=∀(a:waB) (most:Int) (r:Int),R a most=some r->CC Pg GE 95 [sl aj a,.int .i64 most] (.int .i64 r) []
abbrev zY:=(waF->Int->Option Int)
abbrev Dm(R:zY):Prop:=∀(a:waF) (most:Int) (r:Int),R a most=some r->CC Pg GE 132 [sl ay a,.int .i64 most] (.int .i64 r) []
noncomputable def XP:Code:=f132.body.getD .skip
def VP:List Nat:=[39]
section
variable(v:waF)(most:Int)(n:Int)(i:Int)
def Mv:aB:=aZ 40 [(0,sl ay v),(1,.int .i64 most),(5,.int .i64 n),(6,.int .i64 i)] [] []
def yH(o:Bool):aB:=aZ 40 [(0,sl ay v),(1,.int .i64 most),(5,.int .i64 n),(6,.int .i64 i),(15,.bool o)] [] []
def xy:Option Bool:=
 if(decide (i<(v.length:Int)))=true then
  some (decide (n<=most))
 else
  some false
theorem K6{x:Bool}(h:xy v most n i=some x):aU Pg GE 0 (cA XP 476) (EX .normal (yH v most n i x)) (Mv v most n i):=by
 rcases aH h with⟨c1,h⟩|⟨c1,h⟩
 ·obtain rfl:=lf h
  exact aY VP (bF (qn.ln v)<|sg 5 c1<|eF .normal (yH v most n i (decide (n<=most))))<|by kernel_rfl
 ·obtain rfl:=lf h
  exact aY VP (bF (qn.ln v)<|sg 5 c1<|eF .normal (yH v most n i false))<|by kernel_rfl
end
section
variable(R5:zY)(v:waF)(most:Int)(n:Int)(i:Int)
def oZ:aB:=aZ 40 [(0,sl ay v),(1,.int .i64 most),(5,.int .i64 n),(6,.int .i64 i)] [] []
def yI(o:Int):aB:=aZ 40 [(5,.int .i64 o)] [] []
def ly:Option ((Int×Int)⊕(Int)):=
 (xy v most n i).bind fun o2=>
 if o2=true then
  (fy v i).bind fun x5=>
  (qu .i64 (x5.Name.length:Int) 50).bind fun q6=>
  (fy v i).bind fun x7=>
  (R5 x7.Kids (bN (most - (bN ((bN (n+1))+q6))))).bind fun r8=>
  some (.inl (bN ((bN ((bN (n+1))+q6))+r8),bN (i+1)))
 else
  some (.inr n)
def Cb:Option Int:=loop (fun(zz:Int×Int)=>ly R5 v most zz.1 zz.2) (n,i)
theorem I4(hR5:Dm R5){y:(Int×Int)⊕(Int)}(h:ly R5 v most n i=some y):aU Pg GE 0 (cA XP 119) (LQ (fun(zz:Int×Int)=>oZ v most zz.1 zz.2) (fun _=>.exit 0) yI y) (oZ v most n i):=by
 obtain⟨o2,bo2,h⟩:=aG h
 have p4:=fun{sc F} (r:PS sc F)=>nN 1<|cK (K6 v most n i bo2)<|r
 rcases aH h with⟨c3,h⟩|⟨c3,h⟩
 ·obtain⟨x5,bx5,h⟩:=aG h
  obtain⟨q6,bq6,h⟩:=aG h
  obtain⟨x7,bx7,h⟩:=aG h
  obtain⟨r8,br8,h⟩:=aG h
  obtain rfl:=lf h
  exact wv VP (p4<|sg 0 c3<|sv (qn.ia (k:=.i64) bx5)<|sv (qV x5)<|sv (tj x5)<|bF (gU underlying9 x5.Name)<|sv (OZ (P:=Pg) (t:=3) bq6)<|sv (qn.ia (k:=.i64) bx7)<|sv (gY x7)<|sv (g5 x7)<|cm (hR5 _ _ _ br8)<|eF .normal (oZ v most (bN ((bN ((bN (n+1))+q6))+r8)) (bN (i+1))))<|by kernel_rfl
 ·obtain rfl:=lf h
  have z:=p4<|sg 0 c3<|eF (.exit 0) (yI n)
  exact gu VP (by intro hx;cases hx) z<|by kernel_rfl
theorem K7(hR5:Dm R5){x:Int}(h:Cb R5 v most n i=some x):aU Pg GE 0 (.loop (cA XP 119)) (EX (.exit 0) (yI x)) (oZ v most n i):=
 aU.loop (S:=fun(zz:Int×Int)=>oZ v most zz.1 zz.2) (ex:=(fun _=>.exit 0)) (s:=(n,i)) h fun zz y hy=>I4 R5 v most zz.1 zz.2 hR5 hy
end
def zT(R5:zY)(a:waF)(most:Int):Option Int:=
 (Cb R5 a most 0 0).bind fun o9=>
 some o9
theorem Od(R5:zY)(hR5:Dm R5){a:waF}{most:Int}{r:Int}(h:zT R5 a most=some r):CC Pg GE 132 [sl ay a,.int .i64 most] (.int .i64 r) []:=by
 obtain⟨o9,bo9,h⟩:=aG h
 obtain rfl:=lf h
 have z:=cK (K7 R5 a most 0 0 hR5 bo9)<|en (aI (rP (.int .i64 o9))<|trivial)
 exact bI VP call132 func132 (c:=XP) rfl (aI (aw cb a) (aI trivial trivial)) z<|by kernel_rfl
def DR:((waF×Int)->Option Int)->(waF×Int)->Option Int:=fun(rec:(waF×Int)->Option Int) (x:waF×Int)=>zT (fun a most=>rec (a,most)) x.1 x.2
def I3(a:waF)(most:Int):Option Int:=sS DR (a,most)
theorem P8{a:waF}{most:Int}{r:Int}(h:I3 a most=some r):CC Pg GE 132 [sl ay a,.int .i64 most] (.int .i64 r) []:=
 eg (F:=DR) (M:=fun(x:waF×Int) (r:Int)=>CC Pg GE 132 [sl ay x.1,.int .i64 x.2] (.int .i64 r) []) (fun rec hrec x r h=>Od _ (fun a most r h=>hrec (a,most) r h) h) h
noncomputable def qbz:Code:=f95.body.getD .skip
def qak:List Nat:=[61]
section
variable(v:waB)(most:Int)(n:Int)(i:Int)
def Mx:aB:=aZ 62 [(0,sl aj v),(1,.int .i64 most),(5,.int .i64 n),(6,.int .i64 i)] [] []
def yJ(o:Bool):aB:=aZ 62 [(0,sl aj v),(1,.int .i64 most),(5,.int .i64 n),(6,.int .i64 i),(15,.bool o)] [] []
def xC:Option Bool:=
 if(decide (i<(v.length:Int)))=true then
  some (decide (n<=most))
 else
  some false
theorem K8{x:Bool}(h:xC v most n i=some x):aU Pg GE 0 (cA qbz 476) (EX .normal (yJ v most n i x)) (Mx v most n i):=by
 rcases aH h with⟨c1,h⟩|⟨c1,h⟩
 ·obtain rfl:=lf h
  exact aY qak (bF (db.ln v)<|sg 5 c1<|eF .normal (yJ v most n i (decide (n<=most))))<|by kernel_rfl
 ·obtain rfl:=lf h
  exact aY qak (bF (db.ln v)<|sg 5 c1<|eF .normal (yJ v most n i false))<|by kernel_rfl
end
section
variable(R4:zZ)(v:waB)(most:Int)(n:Int)(i:Int)
def pg:aB:=aZ 62 [(0,sl aj v),(1,.int .i64 most),(5,.int .i64 n),(6,.int .i64 i)] [] []
def yK(o:Int):aB:=aZ 62 [(5,.int .i64 o)] [] []
def lB:Option ((Int×Int)⊕(Int)):=
 (xC v most n i).bind fun o2=>
 if o2=true then
  (fy v i).bind fun x5=>
  (qu .i64 (x5.Name.length:Int) 50).bind fun q6=>
  (fy v i).bind fun x7=>
  (fy v i).bind fun x8=>
  (fy v i).bind fun x9=>
  (app ([x8.Pred]:List az) x9.Preds).bind fun l10=>
  (I3 l10 most).bind fun r11=>
  (fy v i).bind fun x12=>
  (R4 x12.Args (bN (most - (bN ((bN ((bN ((bN (n+1))+q6))+(x7.Names.length:Int)))+r11))))).bind fun r13=>
  some (.inl (bN ((bN ((bN ((bN ((bN (n+1))+q6))+(x7.Names.length:Int)))+r11))+r13),bN (i+1)))
 else
  some (.inr n)
def Cc:Option Int:=loop (fun(zz:Int×Int)=>lB R4 v most zz.1 zz.2) (n,i)
theorem I7(hR4:Dn R4){y:(Int×Int)⊕(Int)}(h:lB R4 v most n i=some y):aU Pg GE 0 (cA qbz 119) (LQ (fun(zz:Int×Int)=>pg v most zz.1 zz.2) (fun _=>.exit 0) yK y) (pg v most n i):=by
 obtain⟨o2,bo2,h⟩:=aG h
 have p4:=fun{sc F} (r:PS sc F)=>nN 1<|cK (K8 v most n i bo2)<|r
 rcases aH h with⟨c3,h⟩|⟨c3,h⟩
 ·obtain⟨x5,bx5,h⟩:=aG h
  obtain⟨q6,bq6,h⟩:=aG h
  obtain⟨x7,bx7,h⟩:=aG h
  obtain⟨x8,bx8,h⟩:=aG h
  obtain⟨x9,bx9,h⟩:=aG h
  obtain⟨l10,bl10,h⟩:=aG h
  obtain⟨r11,br11,h⟩:=aG h
  obtain⟨x12,bx12,h⟩:=aG h
  obtain⟨r13,br13,h⟩:=aG h
  obtain rfl:=lf h
  exact wv qak (p4<|sg 0 c3<|OO [0,1,0,0,12,28,60,124,252,511,0,0,3072,7168,15360,31744,65535,0,0,393216,917504,1966080,4063232,0,0,25165824,58720256,125829120,268304384,0,1073610752,2147483647,4294967295]<|sv (db.ia (k:=.i64) bx5)<|sv (er x5)<|sv (e8 x5)<|bF (gU underlying9 x5.Name)<|sv (OZ (P:=Pg) (t:=3) bq6)<|sv (db.ia (k:=.i64) bx7)<|sv (b8 x7)<|sv (b9 x7)<|bF (cO.ln x7.Names)<|sv (db.ia (k:=.i64) bx8)<|sv (qW x8)<|sv (qY x8)<|sv (qn.mk' (v:=Q8) Pr ([x8.Pred]:List az) 1 (by kernel_rfl))<|sv (db.ia (k:=.i64) bx9)<|sv (je x9)<|sv (jh x9)<|sv (qn.ap bl10)<|cm (P8 br11)<|sv (db.ia (k:=.i64) bx12)<|sv (bO x12)<|sv (bP x12)<|cm (hR4 _ _ _ br13)<|eF .normal (pg v most (bN ((bN ((bN ((bN ((bN (n+1))+q6))+(x7.Names.length:Int)))+r11))+r13)) (bN (i+1))))<|by kernel_rfl
 ·obtain rfl:=lf h
  have z:=p4<|sg 0 c3<|eF (.exit 0) (yK n)
  exact gu qak (by intro hx;cases hx) z<|by kernel_rfl
theorem K9(hR4:Dn R4){x:Int}(h:Cc R4 v most n i=some x):aU Pg GE 0 (.loop (cA qbz 119)) (EX (.exit 0) (yK x)) (pg v most n i):=
 aU.loop (S:=fun(zz:Int×Int)=>pg v most zz.1 zz.2) (ex:=(fun _=>.exit 0)) (s:=(n,i)) h fun zz y hy=>I7 R4 v most zz.1 zz.2 hR4 hy
end
def zU(R4:zZ)(a:waB)(most:Int):Option Int:=
 (Cc R4 a most 0 0).bind fun o14=>
 some o14
theorem Oe(R4:zZ)(hR4:Dn R4){a:waB}{most:Int}{r:Int}(h:zU R4 a most=some r):CC Pg GE 95 [sl aj a,.int .i64 most] (.int .i64 r) []:=by
 obtain⟨o14,bo14,h⟩:=aG h
 obtain rfl:=lf h
 have z:=cK (K9 R4 a most 0 0 hR4 bo14)<|en (aI (rP (.int .i64 o14))<|trivial)
 exact bI qak call95 func95 (c:=qbz) rfl (aI (aw aO a) (aI trivial trivial)) z<|by kernel_rfl
def DT:((waB×Int)->Option Int)->(waB×Int)->Option Int:=fun(rec:(waB×Int)->Option Int) (x:waB×Int)=>zU (fun a most=>rec (a,most)) x.1 x.2
def EV(a:waB)(most:Int):Option Int:=sS DT (a,most)
theorem Ht{a:waB}{most:Int}{r:Int}(h:EV a most=some r):CC Pg GE 95 [sl aj a,.int .i64 most] (.int .i64 r) []:=
 eg (F:=DT) (M:=fun(x:waB×Int) (r:Int)=>CC Pg GE 95 [sl aj x.1,.int .i64 x.2] (.int .i64 r) []) (fun rec hrec x r h=>Oe _ (fun a most r h=>hrec (a,most) r h) h) h
noncomputable def qbA:Code:=f96.body.getD .skip
def qal:List Nat:=[27]
section
variable(v:waA)(most:Int)(n:Int)(i:Int)
def Mr:aB:=aZ 28 [(0,sl cS v),(1,.int .i64 most),(5,.int .i64 n),(6,.int .i64 i)] [] []
def yF(o:Bool):aB:=aZ 28 [(0,sl cS v),(1,.int .i64 most),(5,.int .i64 n),(6,.int .i64 i),(15,.bool o)] [] []
def xx:Option Bool:=
 if(decide (i<(v.length:Int)))=true then
  some (decide (n<=most))
 else
  some false
theorem K4{x:Bool}(h:xx v most n i=some x):aU Pg GE 0 (cA qbA 476) (EX .normal (yF v most n i x)) (Mr v most n i):=by
 rcases aH h with⟨c1,h⟩|⟨c1,h⟩
 ·obtain rfl:=lf h
  exact aY qal (bF (cO.ln v)<|sg 5 c1<|eF .normal (yF v most n i (decide (n<=most))))<|by kernel_rfl
 ·obtain rfl:=lf h
  exact aY qal (bF (cO.ln v)<|sg 5 c1<|eF .normal (yF v most n i false))<|by kernel_rfl
end
section
variable(v:waA)(most:Int)(n:Int)(i:Int)
def oY:aB:=aZ 28 [(0,sl cS v),(1,.int .i64 most),(5,.int .i64 n),(6,.int .i64 i)] [] []
def yG(o:Int):aB:=aZ 28 [(5,.int .i64 o)] [] []
def lx:Option ((Int×Int)⊕(Int)):=
 (xx v most n i).bind fun o2=>
 if o2=true then
  (fy v i).bind fun x5=>
  (qu .i64 (x5.length:Int) 50).bind fun q6=>
  some (.inl (bN ((bN (n+1))+q6),bN (i+1)))
 else
  some (.inr n)
def Ca:Option Int:=loop (fun(zz:Int×Int)=>lx v most zz.1 zz.2) (n,i)
theorem I2{y:(Int×Int)⊕(Int)}(h:lx v most n i=some y):aU Pg GE 0 (cA qbA 119) (LQ (fun(zz:Int×Int)=>oY v most zz.1 zz.2) (fun _=>.exit 0) yG y) (oY v most n i):=by
 obtain⟨o2,bo2,h⟩:=aG h
 have p4:=fun{sc F} (r:PS sc F)=>nN 1<|cK (K4 v most n i bo2)<|r
 rcases aH h with⟨c3,h⟩|⟨c3,h⟩
 ·obtain⟨x5,bx5,h⟩:=aG h
  obtain⟨q6,bq6,h⟩:=aG h
  obtain rfl:=lf h
  exact wv qal (p4<|sg 0 c3<|sv (cO.ia (k:=.i64) bx5)<|sv (cT GS (.str x5) [])<|bF (gU underlying9 x5)<|sv (OZ (P:=Pg) (t:=3) bq6)<|eF .normal (oY v most (bN ((bN (n+1))+q6)) (bN (i+1))))<|by kernel_rfl
 ·obtain rfl:=lf h
  have z:=p4<|sg 0 c3<|eF (.exit 0) (yG n)
  exact gu qal (by intro hx;cases hx) z<|by kernel_rfl
theorem K5{x:Int}(h:Ca v most n i=some x):aU Pg GE 0 (.loop (cA qbA 119)) (EX (.exit 0) (yG x)) (oY v most n i):=
 aU.loop (S:=fun(zz:Int×Int)=>oY v most zz.1 zz.2) (ex:=(fun _=>.exit 0)) (s:=(n,i)) h fun zz y hy=>I2 v most zz.1 zz.2 hy
end
def EU(a:waA)(most:Int):Option Int:=
 (Ca a most 0 0).bind fun o7=>
 some o7
theorem P7{a:waA}{most:Int}{r:Int}(h:EU a most=some r):CC Pg GE 96 [sl cS a,.int .i64 most] (.int .i64 r) []:=by
 obtain⟨o7,bo7,h⟩:=aG h
 obtain rfl:=lf h
 have z:=cK (K5 a most 0 0 bo7)<|en (aI (rP (.int .i64 o7))<|trivial)
 exact bI qal call96 func96 (c:=qbA) rfl (aI (aw cy a) (aI trivial trivial)) z<|by kernel_rfl
noncomputable def Xw:Code:=f46.body.getD .skip
def UC:List Nat:=[119]
section
variable(most:Int)(e:af)(n:Int)(i:Int)
def N0:aB:=aZ 120 [(1,.int .i64 most),(2,.eptr (ac e)),(5,.int .i64 n),(6,.int .i64 i)] [.dead] []
def AA(o:Bool):aB:=aZ 120 [(1,.int .i64 most),(2,.eptr (ac e)),(5,.int .i64 n),(6,.int .i64 i),(28,.bool o)] [.dead] []
def zL:Option Bool:=
 if(decide (i<(e.Params.length:Int)))=true then
  some (decide (n<=most))
 else
  some false
theorem Me{x:Bool}(h:zL most e n i=some x):aU Pg GE 0 (cA Xw 476) (EX .normal (AA most e n i x)) (N0 most e n i):=by
 have p4:=fun{sc F} (r:PS sc F)=>sv (ba e)<|sv (bh e)<|bF (il.ln e.Params)<|r
 rcases aH h with⟨c3,h⟩|⟨c3,h⟩
 ·obtain rfl:=lf h
  exact aY UC (p4<|sg 6 c3<|eF .normal (AA most e n i (decide (n<=most))))<|by kernel_rfl
 ·obtain rfl:=lf h
  exact aY UC (p4<|sg 6 c3<|eF .normal (AA most e n i false))<|by kernel_rfl
end
section
variable(most:Int)(e:af)(n:Int)(i:Int)
def qJ:aB:=aZ 120 [(1,.int .i64 most),(2,.eptr (ac e)),(5,.int .i64 n),(6,.int .i64 i)] [.dead] []
def AD(o:Int):aB:=aZ 120 [(1,.int .i64 most),(2,.eptr (ac e)),(5,.int .i64 o)] [.dead] []
def nD:Option ((Int×Int)⊕(Int)):=
 (zL most e n i).bind fun o5=>
 if o5=true then
  (fy e.Params i).bind fun x8=>
  (qu .i64 (x8.Name.length:Int) 50).bind fun q9=>
  (fy e.Params i).bind fun x10=>
  (EV ([x10.Type_]:List ak) most).bind fun r11=>
  some (.inl (bN ((bN ((bN (n+1))+q9))+r11),bN (i+1)))
 else
  some (.inr n)
def DC:Option Int:=loop (fun(zz:Int×Int)=>nD most e zz.1 zz.2) (n,i)
theorem KR{y:(Int×Int)⊕(Int)}(h:nD most e n i=some y):aU Pg GE 0 (cA Xw 119) (LQ (fun(zz:Int×Int)=>qJ most e zz.1 zz.2) (fun _=>.exit 0) (AD most e) y) (qJ most e n i):=by
 obtain⟨o5,bo5,h⟩:=aG h
 have p7:=fun{sc F} (r:PS sc F)=>nN 1<|cK (Me most e n i bo5)<|r
 rcases aH h with⟨c6,h⟩|⟨c6,h⟩
 ·obtain⟨x8,bx8,h⟩:=aG h
  obtain⟨q9,bq9,h⟩:=aG h
  obtain⟨x10,bx10,h⟩:=aG h
  obtain⟨r11,br11,h⟩:=aG h
  obtain rfl:=lf h
  exact wv UC (p7<|sg 0 c6<|OO [0,1,0,4,0,28,60,124,252,508,1023,0,2048,0,14336,30720,63488,129024,0,522240,1048575,2097151]<|sv (ba e)<|sv (bh e)<|sv (il.ia (k:=.i64) bx8)<|sv (jG x8)<|sv (kU x8)<|bF (gU underlying9 x8.Name)<|sv (OZ (P:=Pg) (t:=3) bq9)<|sv (ba e)<|sv (bh e)<|sv (il.ia (k:=.i64) bx10)<|sv (jH x10)<|sv (jI x10)<|sv (db.mk' (v:=Q9) Ps ([x10.Type_]:List ak) 1 (by kernel_rfl))<|cm (Ht br11)<|eF .normal (qJ most e (bN ((bN ((bN (n+1))+q9))+r11)) (bN (i+1))))<|by kernel_rfl
 ·obtain rfl:=lf h
  have z:=p7<|sg 0 c6<|eF (.exit 0) (AD most e n)
  exact gu UC (by intro hx;cases hx) z<|by kernel_rfl
theorem Mh{x:Int}(h:DC most e n i=some x):aU Pg GE 0 (.loop (cA Xw 119)) (EX (.exit 0) (AD most e x)) (qJ most e n i):=
 aU.loop (S:=fun(zz:Int×Int)=>qJ most e zz.1 zz.2) (ex:=(fun _=>.exit 0)) (s:=(n,i)) h fun zz y hy=>KR most e zz.1 zz.2 hy
end
section
variable(most:Int)(e:af)(n:Int)(i:Int)
def N1:aB:=aZ 120 [(1,.int .i64 most),(2,.eptr (ac e)),(5,.int .i64 n),(7,.int .i64 i)] [.dead] []
def AB(o:Bool):aB:=aZ 120 [(1,.int .i64 most),(2,.eptr (ac e)),(5,.int .i64 n),(7,.int .i64 i),(61,.bool o)] [.dead] []
def zM:Option Bool:=
 if(decide (i<(e.Kids.length:Int)))=true then
  some (decide (n<=most))
 else
  some false
theorem Mf{x:Bool}(h:zM most e n i=some x):aU Pg GE 0 (cA Xw 988) (EX .normal (AB most e n i x)) (N1 most e n i):=by
 have p14:=fun{sc F} (r:PS sc F)=>sv (a8 e)<|sv (be e)<|bF (eP.ln e.Kids)<|r
 rcases aH h with⟨c13,h⟩|⟨c13,h⟩
 ·obtain rfl:=lf h
  exact aY UC (p14<|sg 6 c13<|eF .normal (AB most e n i (decide (n<=most))))<|by kernel_rfl
 ·obtain rfl:=lf h
  exact aY UC (p14<|sg 6 c13<|eF .normal (AB most e n i false))<|by kernel_rfl
end
section
variable(R3:yL)(most:Int)(e:af)(n:Int)(i:Int)
def qK:aB:=aZ 120 [(1,.int .i64 most),(2,.eptr (ac e)),(5,.int .i64 n),(7,.int .i64 i)] [.dead] []
def AE(o:Int):aB:=aZ 120 [(1,.int .i64 most),(2,.eptr (ac e)),(5,.int .i64 o)] [.dead] []
def nF:Option ((Int×Int)⊕(Int)):=
 (zM most e n i).bind fun o15=>
 if o15=true then
  (fy e.Kids i).bind fun x18=>
  (R3 x18 (bN (most - n))).bind fun r19=>
  some (.inl (bN (n+r19),bN (i+1)))
 else
  some (.inr n)
def DD:Option Int:=loop (fun(zz:Int×Int)=>nF R3 most e zz.1 zz.2) (n,i)
theorem KS(hR3:yq R3){y:(Int×Int)⊕(Int)}(h:nF R3 most e n i=some y):aU Pg GE 0 (cA Xw 247) (LQ (fun(zz:Int×Int)=>qK most e zz.1 zz.2) (fun _=>.exit 2) (AE most e) y) (qK most e n i):=by
 obtain⟨o15,bo15,h⟩:=aG h
 have p17:=fun{sc F} (r:PS sc F)=>nN 1<|cK (Mf most e n i bo15)<|r
 rcases aH h with⟨c16,h⟩|⟨c16,h⟩
 ·obtain⟨x18,bx18,h⟩:=aG h
  obtain⟨r19,br19,h⟩:=aG h
  obtain rfl:=lf h
  exact wv UC (p17<|sg 0 c16<|sv (a8 e)<|sv (be e)<|sv (eP.ia (k:=.i64) bx18)<|sv (aX x18)<|cm (hR3 _ _ _ br19)<|eF .normal (qK most e (bN (n+r19)) (bN (i+1))))<|by kernel_rfl
 ·obtain rfl:=lf h
  have z:=p17<|sg 0 c16<|eF (.exit 2) (AE most e n)
  exact gu UC (by intro hx;cases hx) z<|by kernel_rfl
theorem Mi(hR3:yq R3){x:Int}(h:DD R3 most e n i=some x):aU Pg GE 0 (.loop (cA Xw 247)) (EX (.exit 2) (AE most e x)) (qK most e n i):=
 aU.loop (S:=fun(zz:Int×Int)=>qK most e zz.1 zz.2) (ex:=(fun _=>.exit 2)) (s:=(n,i)) h fun zz y hy=>KS R3 most e zz.1 zz.2 hR3 hy
end
section
variable(most:Int)(e:af)(n:Int)(i:Int)
def N2:aB:=aZ 120 [(1,.int .i64 most),(2,.eptr (ac e)),(5,.int .i64 n),(8,.int .i64 i)] [.dead] []
def AC(o:Bool):aB:=aZ 120 [(1,.int .i64 most),(2,.eptr (ac e)),(5,.int .i64 n),(8,.int .i64 i),(84,.bool o)] [.dead] []
def zN:Option Bool:=
 if(decide (i<(e.Alts.length:Int)))=true then
  some (decide (n<=most))
 else
  some false
theorem Mg{x:Bool}(h:zN most e n i=some x):aU Pg GE 0 (cA Xw 2012) (EX .normal (AC most e n i x)) (N2 most e n i):=by
 have p22:=fun{sc F} (r:PS sc F)=>sv (aD e)<|sv (aE e)<|bF (dZ.ln e.Alts)<|r
 rcases aH h with⟨c21,h⟩|⟨c21,h⟩
 ·obtain rfl:=lf h
  exact aY UC (p22<|sg 6 c21<|eF .normal (AC most e n i (decide (n<=most))))<|by kernel_rfl
 ·obtain rfl:=lf h
  exact aY UC (p22<|sg 6 c21<|eF .normal (AC most e n i false))<|by kernel_rfl
end
section
variable(R3:yL)(most:Int)(e:af)(n:Int)(i:Int)
def qL:aB:=aZ 120 [(1,.int .i64 most),(2,.eptr (ac e)),(5,.int .i64 n),(8,.int .i64 i)] [.dead] []
def AF(o:Int):aB:=aZ 120 [(5,.int .i64 o)] [.dead] []
def nG:Option ((Int×Int)⊕(Int)):=
 (zN most e n i).bind fun o23=>
 if o23=true then
  (fy e.Alts i).bind fun x26=>
  (qu .i64 (x26.Con.length:Int) 50).bind fun q27=>
  (fy e.Alts i).bind fun x28=>
  (EU x28.Names most).bind fun r29=>
  (fy e.Alts i).bind fun x30=>
  (R3 x30.Body (bN (most - (bN ((bN ((bN (n+1))+q27))+r29))))).bind fun r31=>
  some (.inl (bN ((bN ((bN ((bN (n+1))+q27))+r29))+r31),bN (i+1)))
 else
  some (.inr n)
def DE:Option Int:=loop (fun(zz:Int×Int)=>nG R3 most e zz.1 zz.2) (n,i)
theorem KT(hR3:yq R3){y:(Int×Int)⊕(Int)}(h:nG R3 most e n i=some y):aU Pg GE 0 (cA Xw 503) (LQ (fun(zz:Int×Int)=>qL most e zz.1 zz.2) (fun _=>.exit 4) AF y) (qL most e n i):=by
 obtain⟨o23,bo23,h⟩:=aG h
 have p25:=fun{sc F} (r:PS sc F)=>nN 1<|cK (Mg most e n i bo23)<|r
 rcases aH h with⟨c24,h⟩|⟨c24,h⟩
 ·obtain⟨x26,bx26,h⟩:=aG h
  obtain⟨q27,bq27,h⟩:=aG h
  obtain⟨x28,bx28,h⟩:=aG h
  obtain⟨r29,br29,h⟩:=aG h
  obtain⟨x30,bx30,h⟩:=aG h
  obtain⟨r31,br31,h⟩:=aG h
  obtain rfl:=lf h
  exact wv UC (p25<|sg 0 c24<|OO [0,1,0,4,0,28,60,124,252,508,1023,0,2048,0,14336,30720,63488,0,260096,524287,1048575]<|sv (aD e)<|sv (aE e)<|sv (dZ.ia (k:=.i64) bx26)<|sv (mr x26)<|sv (po x26)<|bF (gU underlying9 x26.Con)<|sv (OZ (P:=Pg) (t:=3) bq27)<|sv (aD e)<|sv (aE e)<|sv (dZ.ia (k:=.i64) bx28)<|sv (gX x28)<|sv (gZ x28)<|cm (P7 br29)<|sv (aD e)<|sv (aE e)<|sv (dZ.ia (k:=.i64) bx30)<|sv (pM x30)<|sv (pO x30)<|cm (hR3 _ _ _ br31)<|eF .normal (qL most e (bN ((bN ((bN ((bN (n+1))+q27))+r29))+r31)) (bN (i+1))))<|by kernel_rfl
 ·obtain rfl:=lf h
  have z:=p25<|sg 0 c24<|eF (.exit 4) (AF n)
  exact gu UC (by intro hx;cases hx) z<|by kernel_rfl
theorem Mj(hR3:yq R3){x:Int}(h:DE R3 most e n i=some x):aU Pg GE 0 (.loop (cA Xw 503)) (EX (.exit 4) (AF x)) (qL most e n i):=
 aU.loop (S:=fun(zz:Int×Int)=>qL most e zz.1 zz.2) (ex:=(fun _=>.exit 4)) (s:=(n,i)) h fun zz y hy=>KT R3 most e zz.1 zz.2 hR3 hy
end
def B5(R3:yL)(e:af)(most:Int):Option Int:=
 (qu .i64 (e.Name.length:Int) 50).bind fun q1=>
 (EV e.Types most).bind fun r2=>
 (DC most e (bN ((bN (1+q1))+r2)) 0).bind fun o12=>
 (DD R3 most e o12 0).bind fun o20=>
 (DE R3 most e o20 0).bind fun o32=>
 some o32
theorem P2(R3:yL)(hR3:yq R3){e:af}{most:Int}{r:Int}(h:B5 R3 e most=some r):CC Pg GE 46 [.agg (ac e),.int .i64 most] (.int .i64 r) []:=by
 obtain⟨q1,bq1,h⟩:=aG h
 obtain⟨r2,br2,h⟩:=aG h
 obtain⟨o12,bo12,h⟩:=aG h
 obtain⟨o20,bo20,h⟩:=aG h
 obtain⟨o32,bo32,h⟩:=aG h
 obtain rfl:=lf h
 have z:=se (bX e)<|OO [0,1,3,7,15,0,32,0,224,511,1023]<|sv (dq e)<|sv (d8 e)<|bF (gU underlying9 e.Name)<|sv (OZ (P:=Pg) (t:=3) bq1)<|sv (aJ e)<|sv (aK e)<|cm (Ht br2)<|cK (Mh most e (bN ((bN (1+q1))+r2)) 0 bo12)<|cK (Mi R3 most e o12 0 hR3 bo20)<|cK (Mj R3 most e o20 0 hR3 bo32)<|en (aI (rP (.int .i64 o32))<|trivial)
 exact bI UC call46 func46 (c:=Xw) rfl (aI (al e) (aI trivial trivial)) z<|by kernel_rfl
def Gr:((af×Int)->Option Int)->(af×Int)->Option Int:=fun(rec:(af×Int)->Option Int) (x:af×Int)=>B5 (fun e most=>rec (e,most)) x.1 x.2
def Md(e:af)(most:Int):Option Int:=sS Gr (e,most)
theorem Rn{e:af}{most:Int}{r:Int}(h:Md e most=some r):CC Pg GE 46 [.agg (ac e),.int .i64 most] (.int .i64 r) []:=
 eg (F:=Gr) (M:=fun(x:af×Int) (r:Int)=>CC Pg GE 46 [.agg (ac x.1),.int .i64 x.2] (.int .i64 r) []) (fun rec hrec x r h=>P2 _ (fun e most r h=>hrec (e,most) r h) h) h
noncomputable def qdB:Code:=f10.body.getD .skip
def qdl:List Nat:=[]
def Bg(e:af):Option Bool:=
 (Md e 600).bind fun r1=>
 some (decide (r1<=600))
theorem Hw{e:af}{r:Bool}(h:Bg e=some r):CC Pg GE 10 [.agg (ac e)] (.bool r) []:=by
 obtain⟨r1,br1,h⟩:=aG h
 obtain rfl:=lf h
 have z:=se (bX e)<|sv (aX e)<|cm (Rn br1)<|en (aI (rP (.bool (decide (r1<=600))))<|trivial)
 exact bI qdl call10 func10 (c:=qdB) rfl (aI (al e) trivial) z<|by kernel_rfl
noncomputable def qdH:Code:=f48.body.getD .skip
def qdr:List Nat:=[]
def gW(s:ah):Option af:=
 some (⟨3,s,0,([]:List af),([]:List aA),([]:List aT),([]:List ak)⟩:af)
theorem fA{s:ah}{r:af}(h:gW s=some r):CC Pg GE 48 [.str s] (.agg (ac r)) [(3,28),(4,85),(5,89),(6,60)]:=by
 obtain rfl:=lf h
 have z:=sx BJ<|sb (HJ 3 s) (HE 3 s)<|sy (cc (⟨3,s,0,([]:List af),([]:List aA),([]:List aT),([]:List ak)⟩:af))<|en (aI (uN (⟨3,s,0,([]:List af),([]:List aA),([]:List aT),([]:List ak)⟩:af))<|aI (al (⟨3,s,0,([]:List af),([]:List aA),([]:List aT),([]:List ak)⟩:af))<|rT)
 exact bI qdr call48 func48 (c:=qdH) rfl (aI trivial trivial) z<|by kernel_rfl
noncomputable def qdG:Code:=f47.body.getD .skip
def qdq:List Nat:=[]
def EY(s:ah)(a:af)(a2:af):Option af:=
 some (⟨7,s,0,([a,a2]:List af),([]:List aA),([]:List aT),([]:List ak)⟩:af)
theorem yM{s:ah}{a:af}{a2:af}{r:af}(h:EY s a a2=some r):CC Pg GE 47 [.str s,.agg (ac a),.agg (ac a2)] (.agg (ac r)) [(4,85),(5,89),(6,60)]:=by
 obtain rfl:=lf h
 have z:=se (bX a)<|se (bX a2)<|sx BJ<|sv (aX a)<|sv (aX a2)<|sv (eP.mk' (v:=rJ) lI ([a,a2]:List af) 2 (by kernel_rfl))<|sb (D6 7 s ([a,a2]:List af)) (D4 7 s ([a,a2]:List af))<|sy (cc (⟨7,s,0,([a,a2]:List af),([]:List aA),([]:List aT),([]:List ak)⟩:af))<|en (aI (uN (⟨7,s,0,([a,a2]:List af),([]:List aA),([]:List aT),([]:List ak)⟩:af))<|aI (al (⟨7,s,0,([a,a2]:List af),([]:List aA),([]:List aT),([]:List ak)⟩:af))<|rT)
 exact bI qdq call47 func47 (c:=qdG) rfl (aI trivial (aI (al a) (aI (al a2) trivial))) z<|by kernel_rfl
noncomputable def qcn:Code:=f81.body.getD .skip
def qbZ:List Nat:=[]
section
variable(t6:waA)(t7:Int)(t8:Int)(m1:(List (ah×Bool)))
def i6:aB:=aZ 18 [(0,.bptr 0 0),(6,sl cS t6),(7,.int .i64 t7),(8,.int .i64 t8)] [.cells [.mapr 1] [],.map (aW PVal.bool m1)] []
def qt(o:(List (ah×Bool))):aB:=aZ 18 [] [.cells [.mapr 1] [],.map (aW PVal.bool o)] []
def xm:Option ((Int×(List (ah×Bool)))⊕(((List (ah×Bool))))):=
 if(decide (t8<t7))=true then
  (fy t6 t8).bind fun x2=>
  some (.inl (bN (t8+1),Ej m1 x2 true))
 else
  some (.inr m1)
def As:Option (((List (ah×Bool)))):=loop (fun(zz:Int×(List (ah×Bool)))=>xm t6 t7 zz.1 zz.2) (t8,m1)
theorem De{y:(Int×(List (ah×Bool)))⊕(((List (ah×Bool))))}(h:xm t6 t7 t8 m1=some y):aU Pg GE 2 (cA qcn 15) (LQ (fun(zz:Int×(List (ah×Bool)))=>i6 t6 t7 zz.1 zz.2) (fun _=>.exit 0) qt y) (i6 t6 t7 t8 m1):=by
 rcases aH h with⟨c1,h⟩|⟨c1,h⟩
 ·obtain⟨x2,bx2,h⟩:=aG h
  obtain rfl:=lf h
  exact wv qbZ (sg 0 c1<|sv (cO.ia (k:=.i64) bx2)<|sv (cT GS (.str x2) [])<|ss<|qcU (To (f:=PVal.bool) underlying124 underlying9 m1 x2 true)<|eF .normal (i6 t6 t7 (bN (t8+1)) (Ej m1 x2 true)))<|by kernel_rfl
 ·obtain rfl:=lf h
  have z:=sg 0 c1<|eF (.exit 0) (qt m1)
  exact gu qbZ (by intro hx;cases hx) z<|by kernel_rfl
theorem EL{x:((List (ah×Bool)))}(h:As t6 t7 t8 m1=some x):aU Pg GE 2 (.loop (cA qcn 15)) (EX (.exit 0) (qt x)) (i6 t6 t7 t8 m1):=
 aU.loop (S:=fun(zz:Int×(List (ah×Bool)))=>i6 t6 t7 zz.1 zz.2) (ex:=(fun _=>.exit 0)) (s:=(t8,m1)) h fun zz y hy=>De t6 t7 zz.1 zz.2 hy
end
def lT(a:waA)(k1:(List (ah×Bool))):Option ((List (ah×Bool))):=
 (As a (a.length:Int) 0 k1).bind fun o3=>
 some o3
theorem kO{a:waA}{k1:(List (ah×Bool))}{r:(List (ah×Bool))}(h:lT a k1=some r):C Pg GE 81 [.bptr 0 0,sl cS a] [] [.cells [.mapr 1] [],.map (aW PVal.bool k1)] (.tuple []) [] [.cells [.mapr 1] [],.map (aW PVal.bool r)]:=by
 obtain⟨o3,bo3,h⟩:=aG h
 obtain rfl:=lf h
 have z:=bF (cO.ln a)<|cK (EL a (a.length:Int) 0 k1 bo3)<|en (aI (rP (.tuple []))<|aI trivial<|aI (rL [.cells [.mapr 1] [],.map (aW PVal.bool o3)])<|(aI (aI (bR (i:=1) (n:=2) rfl) trivial) (aI (yk (n:=2) PVal.bool (fun x=>trivial) o3) trivial)))
 exact C.evGp (A:=qbZ) mixed (m:=2) (c:=qcn) rfl call81 func81 rfl z<|by kernel_rfl
noncomputable def qdO:Code:=f78.body.getD .skip
def qdy:List Nat:=[10]
def AZ(a:waA):Option ((List (ah×Bool))):=
 (lT a ([]:List (ah×Bool))).bind fun r1=>
 some r1
theorem BN{a:waA}{r:(List (ah×Bool))}(h:AZ a=some r):CN Pg GE 78 [sl cS a] (.bptr 1 0) [] [.map (aW PVal.bool r),.cells [.mapr 0] []]:=by
 obtain⟨r1,br1,h⟩:=aG h
 obtain rfl:=lf h
 have z:=sv (show cR Pg 126 [(0,.mapr 0)]=some (.agg [.mapr 0]) by kernel_rfl)<|sx (qbk [.mapr 0])<|si (.cg ⟨[1,0],[.bptr 0 0,sl cS a],[],[.cells [.mapr 0] [],.map (aW PVal.bool ([]:List (ah×Bool)))],[.cells [.mapr 1] [],.map (aW PVal.bool ([]:List (ah×Bool)))],[.cells [.mapr 0] [],.map (aW PVal.bool r1)],[.cells [.mapr 1] [],.map (aW PVal.bool r1)],.tuple [],.tuple [],[]⟩) (kO br1)<|sf (aI (xB [1,0] 0 1 0 rfl) (aI (xR [1,0] (sl cS a) (aw cy a)) trivial))<|sf (aI (aI (rB (.cells [.mapr 0] [])) (aI (rW []) (aI (xM [1,0] 1 0 rfl) trivial))) (aI (aI (rB (.map (aW PVal.bool ([]:List (ah×Bool))))) (aI (rM (aW PVal.bool ([]:List (ah×Bool)))) (yk (n:=0) PVal.bool (fun x=>trivial) ([]:List (ah×Bool))))) trivial))<|sf (aI (aI (rW []) (aI (xM [1,0] 1 0 rfl) trivial)) (aI (aI (rM (aW PVal.bool r1)) (yk (n:=0) PVal.bool (fun x=>trivial) r1)) trivial))<|sf (xR [1,0] (.tuple []) trivial)<|en (aI (rP (.bptr 1 0))<|aI (bR (i:=1) (n:=2) rfl)<|aI (rL [.map (aW PVal.bool r1),.cells [.mapr 0] []])<|(aI (yk (n:=2) PVal.bool (fun x=>trivial) r1) (aI (aI (bR (i:=0) (n:=2) rfl) trivial) trivial)))
 exact CN.evNp (A:=qdy) mixed (c:=qdO) call78 func78 rfl z<|by kernel_rfl
abbrev eI:=(af->waA->(List (ah×Bool))->Option ((List (ah×Bool))))
abbrev eG(R:eI):Prop:=∀(e:af) (hidden:waA) (k2:(List (ah×Bool))) (r:(List (ah×Bool))),R e hidden k2=some r->C Pg GE 79 [.agg (ac e),sl cS hidden,.func (.func 80) [] [.bptr 0 0]] [] [.cells [.bptr 1 0] [],.cells [.mapr 2] [],.map (aW PVal.bool k2)] (.tuple []) [] [.cells [.bptr 1 0] [],.cells [.mapr 2] [],.map (aW PVal.bool r)]
noncomputable def qau:Code:=f100.body.getD .skip
def Z5:List Nat:=[]
def nl(e:af):Option Bool:=
 if(e.Op==3)=true then
  some true
 else
  some (e.Op==5)
theorem mC{e:af}{r:Bool}(h:nl e=some r):CC Pg GE 100 [.agg (ac e)] (.bool r) []:=by
 have p2:=fun{sc F} (r:PS sc F)=>se (bX e)<|sv (cp e)<|sv (cq e)<|r
 rcases aH h with⟨c1,h⟩|⟨c1,h⟩
 ·obtain rfl:=lf h
  have z:=p2<|sg 4 c1<|en (aI (rP (.bool true))<|trivial)
  exact bI Z5 call100 func100 (c:=qau) rfl (aI (al e) trivial) z<|by kernel_rfl
 ·obtain rfl:=lf h
  have z:=p2<|sg 4 c1<|sv (cp e)<|sv (cq e)<|en (aI (rP (.bool (e.Op==5)))<|trivial)
  exact bI Z5 call100 func100 (c:=qau) rfl (aI (al e) trivial) z<|by kernel_rfl
noncomputable def XO:Code:=f131.body.getD .skip
def VO:List Nat:=[10,17]
section
variable(s:waA)(v:ah)(t7:Int)(t8:Int)
def kI:aB:=aZ 19 [(0,sl cS s),(1,.str v),(7,.int .i64 t7),(8,.int .i64 t8)] [] []
def kJ(o:Int⊕(Unit)):Exit:=match o with
 |(.inl _)=>.ret
 |(.inr _)=>.exit 0
def iH(o:Int⊕(Unit)):aB:=match o with
 |(.inl o)=>aZ 19 [(4,.int .i64 o)] [] []
 |(.inr o)=>aZ 19 [] [] []
def Al:Option (Int⊕(Int⊕(Unit))):=
 if(decide (t8<t7))=true then
  (fy s t8).bind fun x2=>
  if(v==x2)=true then
   some (.inr (.inl t8))
  else
   some (.inl (bN (t8+1)))
 else
  some (.inr (.inr ()))
def CZ:Option (Int⊕(Unit)):=loop (fun(zz:Int)=>Al s v t7 zz) t8
theorem FH{y:Int⊕(Int⊕(Unit))}(h:Al s v t7 t8=some y):aU Pg GE 0 (cA XO 55) (LQ (fun(zz:Int)=>kI s v t7 zz) kJ iH y) (kI s v t7 t8):=by
 rcases aH h with⟨c1,h⟩|⟨c1,h⟩
 ·obtain⟨x2,bx2,h⟩:=aG h
  have p4:=fun{sc F} (r:PS sc F)=>sg 0 c1<|sv (cO.ia (k:=.i64) bx2)<|sv (cT GS (.str x2) [])<|r
  rcases aH h with⟨c3,h⟩|⟨c3,h⟩
  ·obtain rfl:=lf h
   have z:=p4<|sg 0 c3<|eF (kJ (.inl t8)) (iH (.inl t8))
   exact gu VO (by intro hx;cases hx) z<|by kernel_rfl
  ·obtain rfl:=lf h
   exact wv VO (p4<|sg 0 c3<|eF .normal (kI s v t7 (bN (t8+1))))<|by kernel_rfl
 ·obtain rfl:=lf h
  have z:=sg 0 c1<|eF (kJ (.inr ())) (iH (.inr ()))
  exact gu VO (by intro hx;cases hx) z<|by kernel_rfl
theorem y7{x:Int⊕(Unit)}(h:CZ s v t7 t8=some x):aU Pg GE 0 (.loop (cA XO 55)) (EX (kJ x) (iH x)) (kI s v t7 t8):=
 aU.loop (S:=fun(zz:Int)=>kI s v t7 zz) (ex:=kJ) (s:=t8) h fun zz y hy=>FH s v t7 zz hy
end
def Iv(s:waA)(v:ah):Option Int:=
 (CZ s v (s.length:Int) 0).bind fun o5=>match o5 with
 |(.inl o5)=>
  some o5
 |(.inr o5)=>
  some (-1)
theorem Lp{s:waA}{v:ah}{r:Int}(h:Iv s v=some r):CC Pg GE 131 [sl cS s,.str v] (.int .i64 r) []:=by
 obtain⟨o5,bo5,h⟩:=aG h
 rcases o5 with o5|o5
 ·obtain rfl:=lf h
  have z:=bF (cO.ln s)<|cK (e:=.ret) (s1:=iH (.inl o5)) (y7 s v (s.length:Int) 0 bo5)<|en (aI (rP (.int .i64 o5))<|trivial)
  exact bI VO call131 func131 (c:=XO) rfl (aI (aw cy s) (aI trivial trivial)) z<|by kernel_rfl
 ·obtain rfl:=lf h
  have z:=bF (cO.ln s)<|cK (e:=.exit 0) (s1:=iH (.inr o5)) (y7 s v (s.length:Int) 0 bo5)<|en (aI (rP (.int .i64 (-1)))<|trivial)
  exact bI VO call131 func131 (c:=XO) rfl (aI (aw cy s) (aI trivial trivial)) z<|by kernel_rfl
noncomputable def qdQ:Code:=f94.body.getD .skip
def qdA:List Nat:=[]
def M4(a:waA)(s:ah):Option Int:=
 (Iv a s).bind fun r1=>
 some r1
theorem Oz{a:waA}{s:ah}{r:Int}(h:M4 a s=some r):CC Pg GE 94 [sl cS a,.str s] (.int .i64 r) []:=by
 obtain⟨r1,br1,h⟩:=aG h
 obtain rfl:=lf h
 have z:=cm (Lp br1)<|en (aI (rP (.int .i64 r1))<|trivial)
 exact bI qdA call94 func94 (c:=qdQ) rfl (aI (aw cy a) (aI trivial trivial)) z<|by kernel_rfl
noncomputable def qdP:Code:=f80.body.getD .skip
def qdz:List Nat:=[]
def Gh(a:af)(k2:(List (ah×Bool))):Option ((List (ah×Bool))):=
 (lT ([a.Name]:List ah) k2).bind fun r1=>
 some r1
theorem JU{a:af}{k2:(List (ah×Bool))}{r:(List (ah×Bool))}(h:Gh a k2=some r):C Pg GE 80 [.agg (ac a),.bptr 0 0] [] [.cells [.bptr 1 0] [],.cells [.mapr 2] [],.map (aW PVal.bool k2)] (.tuple []) [] [.cells [.bptr 1 0] [],.cells [.mapr 2] [],.map (aW PVal.bool r)]:=by
 obtain⟨r1,br1,h⟩:=aG h
 obtain rfl:=lf h
 have z:=se (bX a)<|ss<|sv (dq a)<|sv (d8 a)<|sv (cO.mk' (v:=PVal.str) OF ([a.Name]:List ah) 1 (by kernel_rfl))<|si (.cg ⟨[1,2],[.bptr 0 0,sl cS ([a.Name]:List ah)],[],[.cells [.mapr 2] [],.map (aW PVal.bool k2)],[.cells [.mapr 1] [],.map (aW PVal.bool k2)],[.cells [.mapr 2] [],.map (aW PVal.bool r1)],[.cells [.mapr 1] [],.map (aW PVal.bool r1)],.tuple [],.tuple [],[]⟩) (kO br1)<|sf (aI (xB [1,2] 0 1 0 rfl) (aI (xR [1,2] (sl cS ([a.Name]:List ah)) (aw cy ([a.Name]:List ah))) trivial))<|sf (aI (aI (rB (.cells [.mapr 2] [])) (aI (rW []) (aI (xM [1,2] 1 2 rfl) trivial))) (aI (aI (rB (.map (aW PVal.bool k2))) (aI (rM (aW PVal.bool k2)) (yk (n:=0) PVal.bool (fun x=>trivial) k2))) trivial))<|sf (aI (aI (rW []) (aI (xM [1,2] 1 2 rfl) trivial)) (aI (aI (rM (aW PVal.bool r1)) (yk (n:=0) PVal.bool (fun x=>trivial) r1)) trivial))<|sf (xR [1,2] (.tuple []) trivial)<|en (aI (rP (.tuple []))<|aI trivial<|aI (rL [.cells [.bptr 1 0] [],.cells [.mapr 2] [],.map (aW PVal.bool r1)])<|(aI (aI (bR (i:=1) (n:=3) rfl) trivial) (aI (aI (bR (i:=2) (n:=3) rfl) trivial) (aI (yk (n:=3) PVal.bool (fun x=>trivial) r1) trivial))))
 exact C.evGp (A:=qdz) mixed (m:=3) (c:=qdP) rfl call80 func80 rfl z<|by kernel_rfl
noncomputable def Y5:Code:=f101.body.getD .skip
def YO:List Nat:=[12,18]
section
variable(t6:waE)(t7:Int)(out:waA)(t8:Int)
def kM:aB:=aZ 19 [(3,sl cS out),(6,sl ax t6),(7,.int .i64 t7),(8,.int .i64 t8)] [] [((3,0),9)]
def tI(o:waA):aB:=aZ 19 [(3,sl cS o)] [] [((3,0),9)]
def f7:Option ((waA×Int)⊕(waA)):=
 if(decide (t8<t7))=true then
  (fy t6 t8).bind fun x2=>
  (app out ([x2.Name]:List ah)).bind fun l3=>
  some (.inl (l3,bN (t8+1)))
 else
  some (.inr out)
def rG:Option waA:=loop (fun(zz:waA×Int)=>f7 t6 t7 zz.1 zz.2) (out,t8)
theorem FL{y:(waA×Int)⊕(waA)}(h:f7 t6 t7 out t8=some y):aU Pg GE 0 (cA Y5 119) (LQ (fun(zz:waA×Int)=>kM t6 t7 zz.1 zz.2) (fun _=>.exit 0) tI y) (kM t6 t7 out t8):=by
 rcases aH h with⟨c1,h⟩|⟨c1,h⟩
 ·obtain⟨x2,bx2,h⟩:=aG h
  obtain⟨l3,bl3,h⟩:=aG h
  obtain rfl:=lf h
  have z:=sg 0 c1<|sv (il.ia (k:=.i64) bx2)<|sv (ym x2)<|sx Sv<|sx (kW x2)<|ss<|sv (cO.mk' (v:=PVal.str) OF ([x2.Name]:List ah) 1 (by kernel_rfl))<|sv (cO.ap bl3)<|vY 0 .normal (kM t6 t7 l3 (bN (t8+1))) rfl (dI (aI (up (aw cy l3)) (aI (up (aw bj t6)) (aI trivial (aI trivial trivial))))) trivial
  exact eA (A:=YO) mixed z<|by kernel_rfl
 ·obtain rfl:=lf h
  have z:=sg 0 c1<|eF (.exit 0) (tI out)
  exact gu YO (by intro hx;cases hx) z<|by kernel_rfl
theorem GY{x:waA}(h:rG t6 t7 out t8=some x):aU Pg GE 0 (.loop (cA Y5 119)) (EX (.exit 0) (tI x)) (kM t6 t7 out t8):=
 aU.loop (S:=fun(zz:waA×Int)=>kM t6 t7 zz.1 zz.2) (ex:=(fun _=>.exit 0)) (s:=(out,t8)) h fun zz y hy=>FL t6 t7 zz.1 zz.2 hy
end
def mz(a:waE):Option waA:=
 (rG a (a.length:Int) ([]:List ah) 0).bind fun o4=>
 some o4
theorem rH{a:waE}{r:waA}(h:mz a=some r):CC Pg GE 101 [sl ax a] (sl cS r) [(0,9)]:=by
 obtain⟨o4,bo4,h⟩:=aG h
 obtain rfl:=lf h
 have z:=bF (il.ln a)<|cK (GY a (a.length:Int) ([]:List ah) 0 bo4)<|en (aI (rP (sl cS o4))<|(aw cy o4))
 exact bI YO call101 func101 (c:=Y5) rfl (aI (aw bj a) trivial) z<|by kernel_rfl
noncomputable def XN:Code:=f126.body.getD .skip
def VN:List Nat:=[]
section
variable(kid:Int)(e:af)
def G2:aB:=aZ 23 [(1,.int .i64 kid),(2,.eptr (ac e))] [.dead] []
def rS(o:Bool):aB:=aZ 23 [(2,.eptr (ac e)),(5,.bool o)] [.dead] []
def BM:Option Bool:=
 if(e.Op==7)=true then
  some (decide (kid>0))
 else
  some false
theorem FP{x:Bool}(h:BM kid e=some x):aU Pg GE 0 (cA XN 26) (EX .normal (rS e x)) (G2 kid e):=by
 have p2:=fun{sc F} (r:PS sc F)=>sv (cp e)<|sv (cq e)<|r
 rcases aH h with⟨c1,h⟩|⟨c1,h⟩
 ·obtain rfl:=lf h
  exact aY VN (p2<|sg 4 c1<|eF .normal (rS e (decide (kid>0))))<|by kernel_rfl
 ·obtain rfl:=lf h
  exact aY VN (p2<|sg 4 c1<|eF .normal (rS e false))<|by kernel_rfl
end
def Gj(e:af)(kid:Int):Option waA:=
 (BM kid e).bind fun o3=>
 if o3=true then
  some ([e.Name]:List ah)
 else
  if(e.Op==6)=true then
   (mz e.Params).bind fun r8=>
   some r8
  else
   some ([]:List ah)
theorem JZ{e:af}{kid:Int}{r:waA}(h:Gj e kid=some r):CC Pg GE 126 [.agg (ac e),.int .i64 kid] (sl cS r) [(0,9)]:=by
 obtain⟨o3,bo3,h⟩:=aG h
 have p5:=fun{sc F} (r:PS sc F)=>se (bX e)<|nN 1<|cK (FP kid e bo3)<|r
 rcases aH h with⟨c4,h⟩|⟨c4,h⟩
 ·obtain rfl:=lf h
  have z:=p5<|sg 0 c4<|sv (dq e)<|sv (d8 e)<|sv (cO.mk' (v:=PVal.str) OF ([e.Name]:List ah) 1 (by kernel_rfl))<|en (aI (rP (sl cS ([e.Name]:List ah)))<|(aw cy ([e.Name]:List ah)))
  exact bI VN call126 func126 (c:=XN) rfl (aI (al e) (aI trivial trivial)) z<|by kernel_rfl
 ·have p7:=fun{sc F} (r:PS sc F)=>p5<|sg 0 c4<|sv (cp e)<|sv (cq e)<|r
  rcases aH h with⟨c6,h⟩|⟨c6,h⟩
  ·obtain⟨r8,br8,h⟩:=aG h
   obtain rfl:=lf h
   have z:=p7<|sg 0 c6<|sv (ba e)<|sv (bh e)<|cm (rH br8)<|en (aI (rP (sl cS r8))<|(aw cy r8))
   exact bI VN call126 func126 (c:=XN) rfl (aI (al e) (aI trivial trivial)) z<|by kernel_rfl
  ·obtain rfl:=lf h
   have z:=p7<|sg 0 c6<|en (aI (rP (sl cS ([]:List ah)))<|(aw cy ([]:List ah)))
   exact bI VN call126 func126 (c:=XN) rfl (aI (al e) (aI trivial trivial)) z<|by kernel_rfl
noncomputable def Ze:Code:=f79.body.getD .skip
def XC:List Nat:=[27]
section
variable(hidden:waA)(e:af)(m2:(List (ah×Bool)))
def uX:aB:=aZ 57 [(1,sl cS hidden),(2,.func (.func 80) [] [.bptr 0 0]),(3,.eptr (ac e))] [.cells [.bptr 1 0] [],.cells [.mapr 2] [],.map (aW PVal.bool m2),.dead] []
def gQ(o:Bool):aB:=aZ 57 [(1,sl cS hidden),(2,.func (.func 80) [] [.bptr 0 0]),(3,.eptr (ac e)),(18,.bool o)] [.cells [.bptr 1 0] [],.cells [.mapr 2] [],.map (aW PVal.bool m2),.dead] []
def ni:Option Bool:=
 (nl e).bind fun r1=>
 if r1=true then
  (M4 hidden e.Name).bind fun r4=>
  some (decide (r4<0))
 else
  some false
theorem uk{x:Bool}(h:ni hidden e=some x):aU Pg GE 3 (cA Ze 12) (EX .normal (gQ hidden e m2 x)) (uX hidden e m2):=by
 obtain⟨r1,br1,h⟩:=aG h
 have p3:=fun{sc F} (r:PS sc F)=>sv (aX e)<|cm (mC br1)<|r
 rcases aH h with⟨c2,h⟩|⟨c2,h⟩
 ·obtain⟨r4,br4,h⟩:=aG h
  obtain rfl:=lf h
  exact aY XC (p3<|sg 3 c2<|sv (dq e)<|sv (d8 e)<|cm (Oz br4)<|eF .normal (gQ hidden e m2 (decide (r4<0))))<|by kernel_rfl
 ·obtain rfl:=lf h
  exact aY XC (p3<|sg 3 c2<|eF .normal (gQ hidden e m2 false))<|by kernel_rfl
end
section
variable(hidden:waA)(e:af)(m2:(List (ah×Bool)))
def uW:aB:=aZ 57 [(1,sl cS hidden),(2,.func (.func 80) [] [.bptr 0 0]),(3,.eptr (ac e))] [.cells [.bptr 1 0] [],.cells [.mapr 2] [],.map (aW PVal.bool m2),.dead] []
def gP(o:(List (ah×Bool))):aB:=aZ 57 [(1,sl cS hidden),(2,.func (.func 80) [] [.bptr 0 0]),(3,.eptr (ac e))] [.cells [.bptr 1 0] [],.cells [.mapr 2] [],.map (aW PVal.bool o),.dead] []
def nh:Option (((List (ah×Bool)))):=
 (ni hidden e).bind fun o5=>
 if o5=true then
  (Gh e m2).bind fun r8=>
  some r8
 else
  some m2
theorem uj{x:((List (ah×Bool)))}(h:nh hidden e m2=some x):aU Pg GE 3 (cA Ze 6) (EX .normal (gP hidden e x)) (uW hidden e m2):=by
 obtain⟨o5,bo5,h⟩:=aG h
 have p7:=fun{sc F} (r:PS sc F)=>nN 0<|cK (uk hidden e m2 bo5)<|r
 rcases aH h with⟨c6,h⟩|⟨c6,h⟩
 ·obtain⟨r8,br8,h⟩:=aG h
  obtain rfl:=lf h
  exact aY XC (p7<|sg 0 c6<|sv (aX e)<|si (.cg ⟨[0,1,2],[.agg (ac e),.bptr 0 0],[],[.cells [.bptr 1 0] [],.cells [.mapr 2] [],.map (aW PVal.bool m2)],[.cells [.bptr 1 0] [],.cells [.mapr 2] [],.map (aW PVal.bool m2)],[.cells [.bptr 1 0] [],.cells [.mapr 2] [],.map (aW PVal.bool r8)],[.cells [.bptr 1 0] [],.cells [.mapr 2] [],.map (aW PVal.bool r8)],.tuple [],.tuple [],[]⟩) (JU br8)<|sf (aI (xR [0,1,2] (.agg (ac e)) (al e)) (aI (xB [0,1,2] 0 0 0 rfl) trivial))<|sf (aI (aI (rB (.cells [.bptr 1 0] [])) (aI (rW []) (aI (xB [0,1,2] 1 1 0 rfl) trivial))) (aI (aI (rB (.cells [.mapr 2] [])) (aI (rW []) (aI (xM [0,1,2] 2 2 rfl) trivial))) (aI (aI (rB (.map (aW PVal.bool m2))) (aI (rM (aW PVal.bool m2)) (yk (n:=0) PVal.bool (fun x=>trivial) m2))) trivial)))<|sf (aI (aI (rW []) (aI (xB [0,1,2] 1 1 0 rfl) trivial)) (aI (aI (rW []) (aI (xM [0,1,2] 2 2 rfl) trivial)) (aI (aI (rM (aW PVal.bool r8)) (yk (n:=0) PVal.bool (fun x=>trivial) r8)) trivial)))<|sf (xR [0,1,2] (.tuple []) trivial)<|eF .normal (gP hidden e r8))<|by kernel_rfl
 ·obtain rfl:=lf h
  exact aY XC (p7<|sg 0 c6<|eF .normal (gP hidden e m2))<|by kernel_rfl
end
section
variable(R14:eI)(hidden:waA)(e:af)(t23:waD)(t24:Int)(t25:Int)(m2:(List (ah×Bool)))
def dS:aB:=aZ 57 [(1,sl cS hidden),(2,.func (.func 80) [] [.bptr 0 0]),(3,.eptr (ac e)),(23,sl ac t23),(24,.int .i64 t24),(25,.int .i64 t25)] [.cells [.bptr 1 0] [],.cells [.mapr 2] [],.map (aW PVal.bool m2),.dead] []
def gR(o:(List (ah×Bool))):aB:=aZ 57 [(1,sl cS hidden),(2,.func (.func 80) [] [.bptr 0 0]),(3,.eptr (ac e))] [.cells [.bptr 1 0] [],.cells [.mapr 2] [],.map (aW PVal.bool o),.dead] []
def lR:Option ((Int×(List (ah×Bool)))⊕(((List (ah×Bool))))):=
 if(decide (t25<t24))=true then
  (fy t23 t25).bind fun x11=>
  (wI hidden).bind fun r12=>
  (Gj e t25).bind fun r13=>
  (app r12 r13).bind fun l14=>
  (R14 x11 l14 m2).bind fun r15=>
  some (.inl (bN (t25+1),r15))
 else
  some (.inr m2)
def nj:Option (((List (ah×Bool)))):=loop (fun(zz:Int×(List (ah×Bool)))=>lR R14 hidden e t23 t24 zz.1 zz.2) (t25,m2)
theorem tS(hR14:eG R14){y:(Int×(List (ah×Bool)))⊕(((List (ah×Bool))))}(h:lR R14 hidden e t23 t24 t25 m2=some y):aU Pg GE 3 (cA Ze 119) (LQ (fun(zz:Int×(List (ah×Bool)))=>dS hidden e t23 t24 zz.1 zz.2) (fun _=>.exit 0) (gR hidden e) y) (dS hidden e t23 t24 t25 m2):=by
 rcases aH h with⟨c10,h⟩|⟨c10,h⟩
 ·obtain⟨x11,bx11,h⟩:=aG h
  obtain⟨r12,br12,h⟩:=aG h
  obtain⟨r13,br13,h⟩:=aG h
  obtain⟨l14,bl14,h⟩:=aG h
  obtain⟨r15,br15,h⟩:=aG h
  obtain rfl:=lf h
  have z:=sg 0 c10<|sv (eP.ia (k:=.i64) bx11)<|sv (aX x11)<|sx BJ<|sx (kl x11)<|sk<|qbt (.dx [0,0,2,0,0,30,62,0] [] [] [])<|sv (cz x11 [])<|cm (Ea br12)<|sv (aX e)<|cm (JZ br13)<|sv (cO.ap bl14)<|si (.cg ⟨[0,1,2],[.agg (ac x11),sl cS l14,.func (.func 80) [] [.bptr 0 0]],[],[.cells [.bptr 1 0] [],.cells [.mapr 2] [],.map (aW PVal.bool m2)],[.cells [.bptr 1 0] [],.cells [.mapr 2] [],.map (aW PVal.bool m2)],[.cells [.bptr 1 0] [],.cells [.mapr 2] [],.map (aW PVal.bool r15)],[.cells [.bptr 1 0] [],.cells [.mapr 2] [],.map (aW PVal.bool r15)],.tuple [],.tuple [],[]⟩) (hR14 _ _ _ _ br15)<|sf (aI (xR [0,1,2] (.agg (ac x11)) (al x11)) (aI (xR [0,1,2] (sl cS l14) (aw cy l14)) (aI (xF [0,1,2] (.func 80) [] [.bptr 0 0] [] [.bptr 0 0] trivial (aI (xB [0,1,2] 0 0 0 rfl) trivial)) trivial)))<|sf (aI (aI (rB (.cells [.bptr 1 0] [])) (aI (rW []) (aI (xB [0,1,2] 1 1 0 rfl) trivial))) (aI (aI (rB (.cells [.mapr 2] [])) (aI (rW []) (aI (xM [0,1,2] 2 2 rfl) trivial))) (aI (aI (rB (.map (aW PVal.bool m2))) (aI (rM (aW PVal.bool m2)) (yk (n:=0) PVal.bool (fun x=>trivial) m2))) trivial)))<|sf (aI (aI (rW []) (aI (xB [0,1,2] 1 1 0 rfl) trivial)) (aI (aI (rW []) (aI (xM [0,1,2] 2 2 rfl) trivial)) (aI (aI (rM (aW PVal.bool r15)) (yk (n:=0) PVal.bool (fun x=>trivial) r15)) trivial)))<|sf (xR [0,1,2] (.tuple []) trivial)<|vY 3 .normal (dS hidden e t23 t24 (bN (t25+1)) r15) rfl (dI (aI (up (aw cy hidden)) (aI (aI trivial (aI (bR rfl) trivial)) (aI (bH (al e)) (aI (up (aw al t23)) (aI trivial (aI trivial trivial))))))) (aI (aI (bR rfl) trivial) (aI (aI (bR rfl) trivial) (aI (yk PVal.bool (fun x=>trivial) r15) (aI trivial trivial))))
  exact eA (A:=XC) mixed z<|by kernel_rfl
 ·obtain rfl:=lf h
  have z:=sg 0 c10<|eF (.exit 0) (gR hidden e m2)
  exact gu XC (by intro hx;cases hx) z<|by kernel_rfl
theorem ul(hR14:eG R14){x:((List (ah×Bool)))}(h:nj R14 hidden e t23 t24 t25 m2=some x):aU Pg GE 3 (.loop (cA Ze 119)) (EX (.exit 0) (gR hidden e x)) (dS hidden e t23 t24 t25 m2):=
 aU.loop (S:=fun(zz:Int×(List (ah×Bool)))=>dS hidden e t23 t24 zz.1 zz.2) (ex:=(fun _=>.exit 0)) (s:=(t25,m2)) h fun zz y hy=>tS R14 hidden e t23 t24 zz.1 zz.2 hR14 hy
end
section
variable(R14:eI)(hidden:waA)(t41:waC)(t42:Int)(t43:Int)(m2:(List (ah×Bool)))
def dT:aB:=aZ 57 [(1,sl cS hidden),(2,.func (.func 80) [] [.bptr 0 0]),(41,sl aF t41),(42,.int .i64 t42),(43,.int .i64 t43)] [.cells [.bptr 1 0] [],.cells [.mapr 2] [],.map (aW PVal.bool m2),.dead] []
def gS(o:(List (ah×Bool))):aB:=aZ 57 [] [.cells [.bptr 1 0] [],.cells [.mapr 2] [],.map (aW PVal.bool o),.dead] []
def lS:Option ((Int×(List (ah×Bool)))⊕(((List (ah×Bool))))):=
 if(decide (t43<t42))=true then
  (fy t41 t43).bind fun x18=>
  (wI hidden).bind fun r19=>
  (app r19 x18.Names).bind fun l20=>
  (R14 x18.Body l20 m2).bind fun r21=>
  some (.inl (bN (t43+1),r21))
 else
  some (.inr m2)
def nk:Option (((List (ah×Bool)))):=loop (fun(zz:Int×(List (ah×Bool)))=>lS R14 hidden t41 t42 zz.1 zz.2) (t43,m2)
theorem tT(hR14:eG R14){y:(Int×(List (ah×Bool)))⊕(((List (ah×Bool))))}(h:lS R14 hidden t41 t42 t43 m2=some y):aU Pg GE 3 (cA Ze 127) (LQ (fun(zz:Int×(List (ah×Bool)))=>dT hidden t41 t42 zz.1 zz.2) (fun _=>.exit 2) gS y) (dT hidden t41 t42 t43 m2):=by
 rcases aH h with⟨c17,h⟩|⟨c17,h⟩
 ·obtain⟨x18,bx18,h⟩:=aG h
  obtain⟨r19,br19,h⟩:=aG h
  obtain⟨l20,bl20,h⟩:=aG h
  obtain⟨r21,br21,h⟩:=aG h
  obtain rfl:=lf h
  have z:=sg 0 c17<|sv (dZ.ia (k:=.i64) bx18)<|sv (mt x18)<|sx Ip<|sx (iV x18)<|sk<|qbt (.dx [0,1,0,4,0,16,60,0] [] [] [])<|sv (cz x18.Body [])<|cm (Ea br19)<|ss<|sv (cO.ap bl20)<|si (.cg ⟨[0,1,2],[.agg (ac x18.Body),sl cS l20,.func (.func 80) [] [.bptr 0 0]],[],[.cells [.bptr 1 0] [],.cells [.mapr 2] [],.map (aW PVal.bool m2)],[.cells [.bptr 1 0] [],.cells [.mapr 2] [],.map (aW PVal.bool m2)],[.cells [.bptr 1 0] [],.cells [.mapr 2] [],.map (aW PVal.bool r21)],[.cells [.bptr 1 0] [],.cells [.mapr 2] [],.map (aW PVal.bool r21)],.tuple [],.tuple [],[]⟩) (hR14 _ _ _ _ br21)<|sf (aI (xR [0,1,2] (.agg (ac x18.Body)) (al x18.Body)) (aI (xR [0,1,2] (sl cS l20) (aw cy l20)) (aI (xF [0,1,2] (.func 80) [] [.bptr 0 0] [] [.bptr 0 0] trivial (aI (xB [0,1,2] 0 0 0 rfl) trivial)) trivial)))<|sf (aI (aI (rB (.cells [.bptr 1 0] [])) (aI (rW []) (aI (xB [0,1,2] 1 1 0 rfl) trivial))) (aI (aI (rB (.cells [.mapr 2] [])) (aI (rW []) (aI (xM [0,1,2] 2 2 rfl) trivial))) (aI (aI (rB (.map (aW PVal.bool m2))) (aI (rM (aW PVal.bool m2)) (yk (n:=0) PVal.bool (fun x=>trivial) m2))) trivial)))<|sf (aI (aI (rW []) (aI (xB [0,1,2] 1 1 0 rfl) trivial)) (aI (aI (rW []) (aI (xM [0,1,2] 2 2 rfl) trivial)) (aI (aI (rM (aW PVal.bool r21)) (yk (n:=0) PVal.bool (fun x=>trivial) r21)) trivial)))<|sf (xR [0,1,2] (.tuple []) trivial)<|vY 3 .normal (dT hidden t41 t42 (bN (t43+1)) r21) rfl (dI (aI (up (aw cy hidden)) (aI (aI trivial (aI (bR rfl) trivial)) (aI (up (aw bE t41)) (aI trivial (aI trivial trivial)))))) (aI (aI (bR rfl) trivial) (aI (aI (bR rfl) trivial) (aI (yk PVal.bool (fun x=>trivial) r21) (aI trivial trivial))))
  exact eA (A:=XC) mixed z<|by kernel_rfl
 ·obtain rfl:=lf h
  have z:=sg 0 c17<|eF (.exit 2) (gS m2)
  exact gu XC (by intro hx;cases hx) z<|by kernel_rfl
theorem um(hR14:eG R14){x:((List (ah×Bool)))}(h:nk R14 hidden t41 t42 t43 m2=some x):aU Pg GE 3 (.loop (cA Ze 127)) (EX (.exit 2) (gS x)) (dT hidden t41 t42 t43 m2):=
 aU.loop (S:=fun(zz:Int×(List (ah×Bool)))=>dT hidden t41 t42 zz.1 zz.2) (ex:=(fun _=>.exit 2)) (s:=(t43,m2)) h fun zz y hy=>tT R14 hidden t41 t42 zz.1 zz.2 hR14 hy
end
def ol(R14:eI)(e:af)(hidden:waA)(k2:(List (ah×Bool))):Option ((List (ah×Bool))):=
 (nh hidden e k2).bind fun o9=>
 (nj R14 hidden e e.Kids (e.Kids.length:Int) 0 o9).bind fun o16=>
 (nk R14 hidden e.Alts (e.Alts.length:Int) 0 o16).bind fun o22=>
 some o22
theorem ws(R14:eI)(hR14:eG R14){e:af}{hidden:waA}{k2:(List (ah×Bool))}{r:(List (ah×Bool))}(h:ol R14 e hidden k2=some r):C Pg GE 79 [.agg (ac e),sl cS hidden,.func (.func 80) [] [.bptr 0 0]] [] [.cells [.bptr 1 0] [],.cells [.mapr 2] [],.map (aW PVal.bool k2)] (.tuple []) [] [.cells [.bptr 1 0] [],.cells [.mapr 2] [],.map (aW PVal.bool r)]:=by
 obtain⟨o9,bo9,h⟩:=aG h
 obtain⟨o16,bo16,h⟩:=aG h
 obtain⟨o22,bo22,h⟩:=aG h
 obtain rfl:=lf h
 have z:=se (bX e)<|nN 0<|cK (uj hidden e k2 bo9)<|sv (a8 e)<|sv (be e)<|bF (eP.ln e.Kids)<|cK (ul R14 hidden e e.Kids (e.Kids.length:Int) 0 o9 hR14 bo16)<|sv (aD e)<|sv (aE e)<|bF (dZ.ln e.Alts)<|cK (um R14 hidden e.Alts (e.Alts.length:Int) 0 o16 hR14 bo22)<|en (aI (rP (.tuple []))<|aI trivial<|aI (rL [.cells [.bptr 1 0] [],.cells [.mapr 2] [],.map (aW PVal.bool o22)])<|(aI (aI (bR (i:=1) (n:=3) rfl) trivial) (aI (aI (bR (i:=2) (n:=3) rfl) trivial) (aI (yk (n:=3) PVal.bool (fun x=>trivial) o22) trivial))))
 exact C.evGp (A:=XC) mixed (m:=3) (c:=Ze) rfl call79 func79 rfl z<|by kernel_rfl
def om:((af×waA×(List (ah×Bool)))->Option ((List (ah×Bool))))->(af×waA×(List (ah×Bool)))->Option ((List (ah×Bool))):=fun(rec:(af×waA×(List (ah×Bool)))->Option ((List (ah×Bool)))) (x:af×waA×(List (ah×Bool)))=>ol (fun e hidden k2=>rec (e,hidden,k2)) x.1 x.2.1 x.2.2
def qc(e:af)(hidden:waA)(k2:(List (ah×Bool))):Option ((List (ah×Bool))):=sS om (e,hidden,k2)
theorem wY{e:af}{hidden:waA}{k2:(List (ah×Bool))}{r:(List (ah×Bool))}(h:qc e hidden k2=some r):C Pg GE 79 [.agg (ac e),sl cS hidden,.func (.func 80) [] [.bptr 0 0]] [] [.cells [.bptr 1 0] [],.cells [.mapr 2] [],.map (aW PVal.bool k2)] (.tuple []) [] [.cells [.bptr 1 0] [],.cells [.mapr 2] [],.map (aW PVal.bool r)]:=
 eg (F:=om) (M:=fun(x:af×waA×(List (ah×Bool))) (r:(List (ah×Bool)))=>C Pg GE 79 [.agg (ac x.1),sl cS x.2.1,.func (.func 80) [] [.bptr 0 0]] [] [.cells [.bptr 1 0] [],.cells [.mapr 2] [],.map (aW PVal.bool x.2.2)] (.tuple []) [] [.cells [.bptr 1 0] [],.cells [.mapr 2] [],.map (aW PVal.bool r)]) (fun rec hrec x r h=>ws _ (fun e hidden k2 r h=>hrec (e,hidden,k2) r h) h) h
noncomputable def qdF:Code:=f24.body.getD .skip
def qdp:List Nat:=[]
def EE(e:af):Option waA:=
 (AZ ([]:List ah)).bind fun r1=>
 (qc e ([]:List ah) r1).bind fun r2=>
 (GU r2).bind fun r3=>
 some r3
theorem EF{e:af}{r:waA}(h:EE e=some r):CC Pg GE 24 [.agg (ac e)] (sl cS r) [(0,9)]:=by
 obtain⟨r1,br1,h⟩:=aG h
 obtain⟨r2,br2,h⟩:=aG h
 obtain⟨r3,br3,h⟩:=aG h
 obtain rfl:=lf h
 have z:=se (bX e)<|si (.cn ⟨[2,3],[],[],[],[],[.map (aW PVal.bool r1),.cells [.mapr 2] []],[.map (aW PVal.bool r1),.cells [.mapr 0] []],.bptr 3 0,.bptr 1 0,[]⟩) (BN br1)<|sf (aI (aw cy ([]:List ah)) trivial)<|sf (aI (aI (rM (aW PVal.bool r1)) (yk (n:=0) PVal.bool (fun x=>trivial) r1)) (aI (aI (rW []) (aI (xM [2,3] 0 2 rfl) trivial)) trivial))<|sf (xB [2,3] 1 3 0 rfl)<|sx qbl<|ss<|sv (aX e)<|si (.cg ⟨[1,3,2],[.agg (ac e),sl cS ([]:List ah),.func (.func 80) [] [.bptr 0 0]],[],[.cells [.bptr 3 0] [],.cells [.mapr 2] [],.map (aW PVal.bool r1)],[.cells [.bptr 1 0] [],.cells [.mapr 2] [],.map (aW PVal.bool r1)],[.cells [.bptr 3 0] [],.cells [.mapr 2] [],.map (aW PVal.bool r2)],[.cells [.bptr 1 0] [],.cells [.mapr 2] [],.map (aW PVal.bool r2)],.tuple [],.tuple [],[]⟩) (wY br2)<|sf (aI (xR [1,3,2] (.agg (ac e)) (al e)) (aI (xR [1,3,2] (sl cS ([]:List ah)) (aw cy ([]:List ah))) (aI (xF [1,3,2] (.func 80) [] [.bptr 1 0] [] [.bptr 0 0] trivial (aI (xB [1,3,2] 0 1 0 rfl) trivial)) trivial)))<|sf (aI (aI (rB (.cells [.bptr 3 0] [])) (aI (rW []) (aI (xB [1,3,2] 1 3 0 rfl) trivial))) (aI (aI (rB (.cells [.mapr 2] [])) (aI (rW []) (aI (xM [1,3,2] 2 2 rfl) trivial))) (aI (aI (rB (.map (aW PVal.bool r1))) (aI (rM (aW PVal.bool r1)) (yk (n:=0) PVal.bool (fun x=>trivial) r1))) trivial)))<|sf (aI (aI (rW []) (aI (xB [1,3,2] 1 3 0 rfl) trivial)) (aI (aI (rW []) (aI (xM [1,3,2] 2 2 rfl) trivial)) (aI (aI (rM (aW PVal.bool r2)) (yk (n:=0) PVal.bool (fun x=>trivial) r2)) trivial)))<|sf (xR [1,3,2] (.tuple []) trivial)<|ss<|si (.cg ⟨[3,2],[.bptr 0 0],[],[.cells [.mapr 2] [],.map (aW PVal.bool r2)],[.cells [.mapr 1] [],.map (aW PVal.bool r2)],[.cells [.mapr 2] [],.map (aW PVal.bool r2)],[.cells [.mapr 1] [],.map (aW PVal.bool r2)],sl cS r3,sl cS r3,[(0,9)]⟩) (Gg br3)<|sf (aI (xB [3,2] 0 3 0 rfl) trivial)<|sf (aI (aI (rB (.cells [.mapr 2] [])) (aI (rW []) (aI (xM [3,2] 1 2 rfl) trivial))) (aI (aI (rB (.map (aW PVal.bool r2))) (aI (rM (aW PVal.bool r2)) (yk (n:=0) PVal.bool (fun x=>trivial) r2))) trivial))<|sf (aI (aI (rW []) (aI (xM [3,2] 1 2 rfl) trivial)) (aI (aI (rM (aW PVal.bool r2)) (yk (n:=0) PVal.bool (fun x=>trivial) r2)) trivial))<|sf (xR [3,2] (sl cS r3) (aw cy r3))<|en (aI (rP (sl cS r3))<|(aw cy r3))
 exact bI qdp call24 func24 (c:=qdF) rfl (aI (al e) trivial) z<|by kernel_rfl
abbrev bz:=(af->(List ae)->waA->Option (af×waA))
abbrev bV(R:bz):Prop:=∀(e:af) (scope:(List ae)) (k0:waA) (r:af×waA),R e scope k0=some r->C Pg GE 56 [.agg [.func (.func 62) [] [.bptr 0 0],.func (.func 61) [] []],.agg (ac e),sl aa scope] [] [.cells [sl cS k0] [(0,9)]] (.agg (ac r.1)) [(3,28),(4,85),(5,89),(6,60)] [.cells [sl cS r.2] [(0,9)]]
abbrev eM:=(waB->Option waB)
abbrev iq(R:eM):Prop:=∀(a:waB) (r:waB),R a=some r->CC Pg GE 102 [sl aj a,.func (.func 103) [] []] (sl aj r) [(0,60)]
abbrev gJ:=(az->Option az)
abbrev mj(R:gJ):Prop:=∀(p:az) (r:az),R p=some r->CC Pg GE 135 [.agg (ay p)] (.agg (ay r)) [(3,58)]
noncomputable def Y8:Code:=f136.body.getD .skip
def YR:List Nat:=[14,21]
section
variable(R24:gJ)(t8:waF)(t9:Int)(out:waF)(t10:Int)
def eT:aB:=aZ 22 [(1,.func (.func 135) [] []),(5,sl ay out),(8,sl ay t8),(9,.int .i64 t9),(10,.int .i64 t10)] [] [((5,0),58)]
def jT(o:waF):aB:=aZ 22 [(5,sl ay o)] [] [((5,0),58)]
def pA:Option ((waF×Int)⊕(waF)):=
 if(decide (t10<t9))=true then
  (fy t8 t10).bind fun x2=>
  (R24 x2).bind fun r3=>
  (app out ([r3]:List az)).bind fun l4=>
  some (.inl (l4,bN (t10+1)))
 else
  some (.inr out)
def re:Option waF:=loop (fun(zz:waF×Int)=>pA R24 t8 t9 zz.1 zz.2) (out,t10)
theorem wU(hR24:mj R24){y:(waF×Int)⊕(waF)}(h:pA R24 t8 t9 out t10=some y):aU Pg GE 0 (cA Y8 119) (LQ (fun(zz:waF×Int)=>eT t8 t9 zz.1 zz.2) (fun _=>.exit 0) jT y) (eT t8 t9 out t10):=by
 rcases aH h with⟨c1,h⟩|⟨c1,h⟩
 ·obtain⟨x2,bx2,h⟩:=aG h
  obtain⟨r3,br3,h⟩:=aG h
  obtain⟨l4,bl4,h⟩:=aG h
  obtain rfl:=lf h
  have z:=sg 0 c1<|sv (qn.ia (k:=.i64) bx2)<|sv (tk x2)<|sx Ys<|sx (Fc x2)<|sv (Bp x2 [])<|cm (hR24 _ _ br3)<|sv (qn.mk' (v:=Q8) Pr ([r3]:List az) 1 (by kernel_rfl))<|sv (qn.ap bl4)<|vY 0 .normal (eT t8 t9 l4 (bN (t10+1))) rfl (dI (aI (aI trivial trivial) (aI (up (aw cb l4)) (aI (up (aw cb t8)) (aI trivial (aI trivial trivial)))))) trivial
  exact eA (A:=YR) mixed z<|by kernel_rfl
 ·obtain rfl:=lf h
  have z:=sg 0 c1<|eF (.exit 0) (jT out)
  exact gu YR (by intro hx;cases hx) z<|by kernel_rfl
theorem yc(hR24:mj R24){x:waF}(h:re R24 t8 t9 out t10=some x):aU Pg GE 0 (.loop (cA Y8 119)) (EX (.exit 0) (jT x)) (eT t8 t9 out t10):=
 aU.loop (S:=fun(zz:waF×Int)=>eT t8 t9 zz.1 zz.2) (ex:=(fun _=>.exit 0)) (s:=(out,t10)) h fun zz y hy=>wU R24 t8 t9 zz.1 zz.2 hR24 hy
end
def nT(R24:gJ)(a:waF):Option waF:=
 (re R24 a (a.length:Int) ([]:List az) 0).bind fun o5=>
 some o5
theorem rf(R24:gJ)(hR24:mj R24){a:waF}{r:waF}(h:nT R24 a=some r):CC Pg GE 136 [sl ay a,.func (.func 135) [] []] (sl ay r) [(0,58)]:=by
 obtain⟨o5,bo5,h⟩:=aG h
 obtain rfl:=lf h
 have z:=bF (qn.ln a)<|cK (yc R24 a (a.length:Int) ([]:List az) 0 hR24 bo5)<|en (aI (rP (sl ay o5))<|(aw cb o5))
 exact bI YR call136 func136 (c:=Y8) rfl (aI (aw cb a) (aI (aI trivial trivial) trivial)) z<|by kernel_rfl
noncomputable def qb7:Code:=f135.body.getD .skip
def qbK:List Nat:=[]
def zg(R24:gJ)(p:az):Option az:=
 (nT R24 p.Kids).bind fun r1=>
 some (⟨p.Op,p.Name,p.N,r1⟩:az)
theorem EJ(R24:gJ)(hR24:mj R24){p:az}{r:az}(h:zg R24 p=some r):CC Pg GE 135 [.agg (ay p)] (.agg (ay r)) [(3,58)]:=by
 obtain⟨r1,br1,h⟩:=aG h
 obtain rfl:=lf h
 have z:=sx (Fc p)<|sx Ys<|ss<|cm (rf R24 hR24 br1)<|sz (Bp (⟨p.Op,p.Name,p.N,r1⟩:az) [])<|sy (fa (⟨p.Op,p.Name,p.N,r1⟩:az))<|en (aI (Vr (⟨p.Op,p.Name,p.N,r1⟩:az))<|aI (cb (⟨p.Op,p.Name,p.N,r1⟩:az))<|rT)
 exact bI qbK call135 func135 (c:=qb7) rfl (aI (cb p) trivial) z<|by kernel_rfl
def zh:(az->Option az)->(az)->Option az:=fun(rec:az->Option az) (x:az)=>zg (fun p=>rec p) x
def pV(p:az):Option az:=sS zh p
theorem xl{p:az}{r:az}(h:pV p=some r):CC Pg GE 135 [.agg (ay p)] (.agg (ay r)) [(3,58)]:=
 eg (F:=zh) (M:=fun(x:az) (r:az)=>CC Pg GE 135 [.agg (ay x)] (.agg (ay r)) [(3,58)]) (fun rec hrec x r h=>EJ _ (fun p r h=>hrec p r h) h) h
noncomputable def qb5:Code:=f103.body.getD .skip
def qbI:List Nat:=[]
def pW(R22:eM)(t:ak):Option ak:=
 (R22 t.Args).bind fun r1=>
 (wI t.Names).bind fun r2=>
 (pV t.Pred).bind fun r3=>
 (nT pV t.Preds).bind fun r4=>
 some (⟨t.Op,t.Name,r1,r2,r3,r4⟩:ak)
theorem qq(R22:eM)(hR22:iq R22){t:ak}{r:ak}(h:pW R22 t=some r):CC Pg GE 103 [.agg (aj t)] (.agg (aj r)) [(2,60),(3,9),(7,58),(8,58)]:=by
 obtain⟨r1,br1,h⟩:=aG h
 obtain⟨r2,br2,h⟩:=aG h
 obtain⟨r3,br3,h⟩:=aG h
 obtain⟨r4,br4,h⟩:=aG h
 obtain rfl:=lf h
 have z:=sx (pR t)<|sx QY<|ss<|cm (hR22 _ _ br1)<|ss<|cm (Ea br2)<|sv (Bp t.Pred [sl ay t.Preds])<|cm (xl br3)<|sy (fa r3)<|ss<|cm (rf pV (fun _ _ h=>xl h) br4)<|sz (jr (⟨t.Op,t.Name,r1,r2,r3,r4⟩:ak) [])<|sy (ef (⟨t.Op,t.Name,r1,r2,r3,r4⟩:ak))<|en (aI (Vs (⟨t.Op,t.Name,r1,r2,r3,r4⟩:ak))<|aI (aO (⟨t.Op,t.Name,r1,r2,r3,r4⟩:ak))<|rT)
 exact bI qbI call103 func103 (c:=qb5) rfl (aI (aO t) trivial) z<|by kernel_rfl
noncomputable def Y6:Code:=f102.body.getD .skip
def YP:List Nat:=[14,21]
section
variable(R22:eM)(t8:waB)(t9:Int)(out:waB)(t10:Int)
def eU:aB:=aZ 22 [(1,.func (.func 103) [] []),(5,sl aj out),(8,sl aj t8),(9,.int .i64 t9),(10,.int .i64 t10)] [] [((5,0),60)]
def jU(o:waB):aB:=aZ 22 [(5,sl aj o)] [] [((5,0),60)]
def pB:Option ((waB×Int)⊕(waB)):=
 if(decide (t10<t9))=true then
  (fy t8 t10).bind fun x2=>
  (pW R22 x2).bind fun r3=>
  (app out ([r3]:List ak)).bind fun l4=>
  some (.inl (l4,bN (t10+1)))
 else
  some (.inr out)
def rh:Option waB:=loop (fun(zz:waB×Int)=>pB R22 t8 t9 zz.1 zz.2) (out,t10)
theorem wV(hR22:iq R22){y:(waB×Int)⊕(waB)}(h:pB R22 t8 t9 out t10=some y):aU Pg GE 0 (cA Y6 119) (LQ (fun(zz:waB×Int)=>eU t8 t9 zz.1 zz.2) (fun _=>.exit 0) jU y) (eU t8 t9 out t10):=by
 rcases aH h with⟨c1,h⟩|⟨c1,h⟩
 ·obtain⟨x2,bx2,h⟩:=aG h
  obtain⟨r3,br3,h⟩:=aG h
  obtain⟨l4,bl4,h⟩:=aG h
  obtain rfl:=lf h
  have z:=sg 0 c1<|sv (db.ia (k:=.i64) bx2)<|sv (fZ x2)<|sx QY<|sx (pR x2)<|sv (jr x2 [])<|cm (qq R22 hR22 br3)<|sv (db.mk' (v:=Q9) Ps ([r3]:List ak) 1 (by kernel_rfl))<|sv (db.ap bl4)<|vY 0 .normal (eU t8 t9 l4 (bN (t10+1))) rfl (dI (aI (aI trivial trivial) (aI (up (aw aO l4)) (aI (up (aw aO t8)) (aI trivial (aI trivial trivial)))))) trivial
  exact eA (A:=YP) mixed z<|by kernel_rfl
 ·obtain rfl:=lf h
  have z:=sg 0 c1<|eF (.exit 0) (jU out)
  exact gu YP (by intro hx;cases hx) z<|by kernel_rfl
theorem yd(hR22:iq R22){x:waB}(h:rh R22 t8 t9 out t10=some x):aU Pg GE 0 (.loop (cA Y6 119)) (EX (.exit 0) (jU x)) (eU t8 t9 out t10):=
 aU.loop (S:=fun(zz:waB×Int)=>eU t8 t9 zz.1 zz.2) (ex:=(fun _=>.exit 0)) (s:=(out,t10)) h fun zz y hy=>wV R22 t8 t9 zz.1 zz.2 hR22 hy
end
def sM(R22:eM)(a:waB):Option waB:=
 (rh R22 a (a.length:Int) ([]:List ak) 0).bind fun o5=>
 some o5
theorem zD(R22:eM)(hR22:iq R22){a:waB}{r:waB}(h:sM R22 a=some r):CC Pg GE 102 [sl aj a,.func (.func 103) [] []] (sl aj r) [(0,60)]:=by
 obtain⟨o5,bo5,h⟩:=aG h
 obtain rfl:=lf h
 have z:=bF (db.ln a)<|cK (yd R22 a (a.length:Int) ([]:List ak) 0 hR22 bo5)<|en (aI (rP (sl aj o5))<|(aw aO o5))
 exact bI YP call102 func102 (c:=Y6) rfl (aI (aw aO a) (aI (aI trivial trivial) trivial)) z<|by kernel_rfl
def sN:(waB->Option waB)->(waB)->Option waB:=fun(rec:waB->Option waB) (x:waB)=>sM (fun a=>rec a) x
def eB(a:waB):Option waB:=sS sN a
theorem g6{a:waB}{r:waB}(h:eB a=some r):CC Pg GE 102 [sl aj a,.func (.func 103) [] []] (sl aj r) [(0,60)]:=
 eg (F:=sN) (M:=fun(x:waB) (r:waB)=>CC Pg GE 102 [sl aj x,.func (.func 103) [] []] (sl aj r) [(0,60)]) (fun rec hrec x r h=>zD _ (fun a r h=>hrec a r h) h) h
noncomputable def qdK:Code:=f61.body.getD .skip
def qdu:List Nat:=[3]
def Kv(s:ah):Option ah:=
 some s
theorem NF{s:ah}{r:ah}(h:Kv s=some r):CC Pg GE 61 [.str s] (.str r) []:=by
 obtain rfl:=lf h
 have z:=en (aI (rP (.str s))<|trivial)
 exact bI qdu call61 func61 (c:=qdK) rfl (aI trivial trivial) z<|by kernel_rfl
noncomputable def ZU:Code:=f52.body.getD .skip
def ZM:List Nat:=[24,35]
section
variable(base:ah)(t11:waA)(t12:Int)(t13:Int)(m0:(List (ah×Bool)))
def lE:aB:=aZ 36 [(1,.str base),(5,.mapr 0),(11,sl cS t11),(12,.int .i64 t12),(13,.int .i64 t13)] [.map (aW PVal.bool m0)] []
def uF(o:(List (ah×Bool))):aB:=aZ 36 [(1,.str base),(5,.mapr 0)] [.map (aW PVal.bool o)] []
def Bw:Option ((Int×(List (ah×Bool)))⊕(((List (ah×Bool))))):=
 if(decide (t13<t12))=true then
  (fy t11 t13).bind fun x2=>
  some (.inl (bN (t13+1),Ej m0 x2 true))
 else
  some (.inr m0)
def Em:Option (((List (ah×Bool)))):=loop (fun(zz:Int×(List (ah×Bool)))=>Bw t11 t12 zz.1 zz.2) (t13,m0)
theorem GJ{y:(Int×(List (ah×Bool)))⊕(((List (ah×Bool))))}(h:Bw t11 t12 t13 m0=some y):aU Pg GE 0 (cA ZU 119) (LQ (fun(zz:Int×(List (ah×Bool)))=>lE base t11 t12 zz.1 zz.2) (fun _=>.exit 0) (uF base) y) (lE base t11 t12 t13 m0):=by
 rcases aH h with⟨c1,h⟩|⟨c1,h⟩
 ·obtain⟨x2,bx2,h⟩:=aG h
  obtain rfl:=lf h
  exact wv ZM (sg 0 c1<|sv (cO.ia (k:=.i64) bx2)<|sv (cT GS (.str x2) [])<|qcU (To (f:=PVal.bool) underlying124 underlying9 m0 x2 true)<|eF .normal (lE base t11 t12 (bN (t13+1)) (Ej m0 x2 true)))<|by kernel_rfl
 ·obtain rfl:=lf h
  have z:=sg 0 c1<|eF (.exit 0) (uF base m0)
  exact gu ZM (by intro hx;cases hx) z<|by kernel_rfl
theorem HY{x:((List (ah×Bool)))}(h:Em t11 t12 t13 m0=some x):aU Pg GE 0 (.loop (cA ZU 119)) (EX (.exit 0) (uF base x)) (lE base t11 t12 t13 m0):=
 aU.loop (S:=fun(zz:Int×(List (ah×Bool)))=>lE base t11 t12 zz.1 zz.2) (ex:=(fun _=>.exit 0)) (s:=(t13,m0)) h fun zz y hy=>GJ base t11 t12 zz.1 zz.2 hy
end
section
variable(base:ah)(m0:(List (ah×Bool)))(n:Int)
def lF:aB:=aZ 36 [(1,.str base),(5,.mapr 0),(8,.int .i64 n)] [.map (aW PVal.bool m0)] []
def uG(o:ah):aB:=aZ 36 [(4,.str o)] [.map (aW PVal.bool m0)] []
def Bx:Option (Int⊕(ah)):=
 (YG n).bind fun r6=>
 (qcw base r6).bind fun s7=>
 if(!((Co m0 s7).getD false))=true then
  some (.inr s7)
 else
  some (.inl (bN (n+1)))
def En:Option ah:=loop (fun(zz:Int)=>Bx base m0 zz) n
theorem GK{y:Int⊕(ah)}(h:Bx base m0 n=some y):aU Pg GE 0 (cA ZU 255) (LQ (fun(zz:Int)=>lF base m0 zz) (fun _=>.ret) (uG m0) y) (lF base m0 n):=by
 obtain⟨r6,br6,h⟩:=aG h
 obtain⟨s7,bs7,h⟩:=aG h
 have p9:=fun{sc F} (r:PS sc F)=>cm (Ya br6)<|sv (ZD (P:=Pg) (t:=9) bs7)<|sv (Tn (f:=PVal.bool) underlying124 underlying9 qcW m0 s7)<|r
 rcases aH h with⟨c8,h⟩|⟨c8,h⟩
 ·obtain rfl:=lf h
  have z:=p9<|sg 0 c8<|eF .ret (uG m0 s7)
  exact gu ZM (by intro hx;cases hx) z<|by kernel_rfl
 ·obtain rfl:=lf h
  exact wv ZM (p9<|sg 0 c8<|eF .normal (lF base m0 (bN (n+1))))<|by kernel_rfl
theorem HZ{x:ah}(h:En base m0 n=some x):aU Pg GE 0 (.loop (cA ZU 255)) (EX .ret (uG m0 x)) (lF base m0 n):=
 aU.loop (S:=fun(zz:Int)=>lF base m0 zz) (ex:=(fun _=>.ret)) (s:=n) h fun zz y hy=>GK base m0 zz hy
end
def El(used:waA)(base:ah):Option ah:=
 (Em used (used.length:Int) 0 ([]:List (ah×Bool))).bind fun o3=>
 if(!((Co o3 base).getD false))=true then
  some base
 else
  (En base o3 1).bind fun o10=>
  some o10
theorem Eo{used:waA}{base:ah}{r:ah}(h:El used base=some r):CC Pg GE 52 [sl cS used,.str base] (.str r) []:=by
 obtain⟨o3,bo3,h⟩:=aG h
 have p5:=fun{sc F} (r:PS sc F)=>bF (cO.ln used)<|cK (HY base used (used.length:Int) 0 ([]:List (ah×Bool)) bo3)<|sv (Tn (f:=PVal.bool) underlying124 underlying9 qcW o3 base)<|r
 rcases aH h with⟨c4,h⟩|⟨c4,h⟩
 ·obtain rfl:=lf h
  have z:=p5<|sg 0 c4<|en (aI (rP (.str base))<|trivial)
  exact bI ZM call52 func52 (c:=ZU) rfl (aI (aw cy used) (aI trivial trivial)) z<|by kernel_rfl
 ·obtain⟨o10,bo10,h⟩:=aG h
  obtain rfl:=lf h
  have z:=p5<|sg 0 c4<|cK (HZ base o3 1 bo10)<|en (aI (rP (.str o10))<|trivial)
  exact bI ZM call52 func52 (c:=ZU) rfl (aI (aw cy used) (aI trivial trivial)) z<|by kernel_rfl
noncomputable def qdL:Code:=f62.body.getD .skip
def qdv:List Nat:=[10,14]
def wR(s:ah)(a:(List ae))(k0:waA):Option (ah×waA):=
 (El k0 s).bind fun r1=>
 (app k0 ([r1]:List ah)).bind fun l2=>
 some (r1,l2)
theorem za{s:ah}{a:(List ae)}{k0:waA}{r:ah×waA}(h:wR s a k0=some r):C Pg GE 62 [.str s,sl aa a,.bptr 0 0] [] [.cells [sl cS k0] [(0,9)]] (.str r.1) [] [.cells [sl cS r.2] [(0,9)]]:=by
 obtain⟨r1,br1,h⟩:=aG h
 obtain⟨l2,bl2,h⟩:=aG h
 obtain rfl:=lf h
 have z:=ss<|cm (Eo br1)<|sv (cO.mk' (v:=PVal.str) OF ([r1]:List ah) 1 (by kernel_rfl))<|sv (cO.ap bl2)<|en (aI (rP (.str r1))<|aI trivial<|aI (rL [.cells [sl cS l2] [(0,9)]])<|(aI (aI (up (n:=1) (aw cy l2)) trivial) trivial))
 exact C.evGp (A:=qdv) mixed (m:=1) (c:=qdL) rfl call62 func62 rfl z<|by kernel_rfl
noncomputable def qav:Code:=f105.body.getD .skip
def Z6:List Nat:=[12,18]
def fl(s:ah)(a:(List ae))(k1:waA)(k2:(List ae)):Option (ah×waA×(List ae)):=
 (wR s a k1).bind fun r1=>
 (app k2 ([(⟨s,r1.1⟩:ae)]:List ae)).bind fun l2=>
 some (r1.1,r1.2,l2)
theorem ib{s:ah}{a:(List ae)}{k1:waA}{k2:(List ae)}{r:ah×waA×(List ae)}(h:fl s a k1 k2=some r):C Pg GE 105 [.str s,.bptr 0 0,.eptr ((cL aa) a),.bptr 2 0] [] [.cells [.func (.func 62) [] [.bptr 1 0],.func (.func 61) [] []] [],.cells [sl cS k1] [(0,9)],.cells [sl aa k2] [(0,137)]] (.str r.1) [] [.cells [.func (.func 62) [] [.bptr 1 0],.func (.func 61) [] []] [],.cells [sl cS r.2.1] [(0,9)],.cells [sl aa r.2.2] [(0,137)]]:=by
 obtain⟨r1,br1,h⟩:=aG h
 obtain⟨l2,bl2,h⟩:=aG h
 obtain rfl:=lf h
 have z:=ss<|sv (cT Lo (sl aa a) [])<|si (.cg ⟨[1],[.str s,sl aa a,.bptr 0 0],[],[.cells [sl cS k1] [(0,9)]],[.cells [sl cS k1] [(0,9)]],[.cells [sl cS r1.2] [(0,9)]],[.cells [sl cS r1.2] [(0,9)]],.str r1.1,.str r1.1,[]⟩) (za br1)<|sf (aI (xR [1] (.str s) trivial) (aI (xR [1] (sl aa a) (aw av a)) (aI (xB [1] 0 1 0 rfl) trivial)))<|sf (aI (aI (rB (.cells [sl cS k1] [(0,9)])) (aI (rW [(0,9)]) (aI (xR [1] (sl cS k1) (aw cy k1)) trivial))) trivial)<|sf (aI (aI (rW [(0,9)]) (aI (xR [1] (sl cS r1.2) (aw cy r1.2)) trivial)) trivial)<|sf (xR [1] (.str r1.1) trivial)<|sv (mq s r1.1)<|sv (Ny.mk' (v:=rj) rD ([(⟨s,r1.1⟩:ae)]:List ae) 1 (by kernel_rfl))<|sv (Ny.ap bl2)<|en (aI (rP (.str r1.1))<|aI trivial<|aI (rL [.cells [.func (.func 62) [] [.bptr 1 0],.func (.func 61) [] []] [],.cells [sl cS r1.2] [(0,9)],.cells [sl aa l2] [(0,137)]])<|(aI (aI (aI trivial (aI (bR (i:=1) (n:=3) rfl) trivial)) (aI (aI trivial trivial) trivial)) (aI (aI (up (n:=3) (aw cy r1.2)) trivial) (aI (aI (up (n:=3) (aw av l2)) trivial) trivial))))
 exact C.evGp (A:=Z6) mixed (m:=3) (c:=qav) rfl call105 func105 rfl z<|by kernel_rfl
noncomputable def XK:Code:=f108.body.getD .skip
def Uw:List Nat:=[]
section
variable(t1:Bool)(v:(List ae))(m:waA)(m2:(List ae))(m3:ah)(m4:Int)(m5:ah)(m6:waB)(m7:waA)(m8:Int)(m9:ah)(m10:Int)(m11:waF)(m12:waF)(m13:waB)(m14:waF)
def im:aB:=aZ 17 [(1,.eptr (cB t1)),(2,.bptr 0 0),(3,.bptr 4 0),(4,.bptr 5 0)] [.cells [.func (.func 105) [] [.bptr 1 0,.eptr ((cL aa) v),.bptr 3 0]] [],.cells [.func (.func 62) [] [.bptr 2 0],.func (.func 61) [] []] [],.cells [sl cS m] [(0,9)],.cells [sl aa m2] [(0,137)],.cells [.str m3,.int .i64 m4,.str m5,sl aj m6,sl cS m7,.int .i64 m8,.str m9,.int .i64 m10,sl ay m11,sl ay m12] [],.cells [.str ([]:ah),.int .i64 0,.str ([]:ah),sl aj m13,sl cS ([]:List ah),.int .i64 0,.str ([]:ah),.int .i64 0,sl ay m14,sl ay m14] [(3,60),(4,9),(8,58),(9,58)]] []
def cM(o:waA×(List ae)×ah):aB:=aZ 17 [(3,.bptr 4 0),(4,.bptr 5 0)] [.cells [.func (.func 105) [] [.bptr 1 0,.eptr ((cL aa) v),.bptr 3 0]] [],.cells [.func (.func 62) [] [.bptr 2 0],.func (.func 61) [] []] [],.cells [sl cS o.1] [(0,9)],.cells [sl aa o.2.1] [(0,137)],.cells [.str o.2.2,.int .i64 m4,.str m5,sl aj m6,sl cS m7,.int .i64 m8,.str m9,.int .i64 m10,sl ay m11,sl ay m12] [],.cells [.str ([]:ah),.int .i64 0,.str ([]:ah),sl aj m13,sl cS ([]:List ah),.int .i64 0,.str ([]:ah),.int .i64 0,sl ay m14,sl ay m14] [(3,60),(4,9),(8,58),(9,58)]] []
def ez:Option ((waA×(List ae)×ah)):=
 if t1=true then
  (fl m3 v m m2).bind fun r2=>
  some (r2.2.1,r2.2.2,r2.1)
 else
  some (m,m2,m3)
theorem ic{x:(waA×(List ae)×ah)}(h:ez t1 v m m2 m3=some x):aU Pg GE 4 (cA XK 6) (EX .normal (cM v m4 m5 m6 m7 m8 m9 m10 m11 m12 m13 m14 x)) (im t1 v m m2 m3 m4 m5 m6 m7 m8 m9 m10 m11 m12 m13 m14):=by
 rcases aH h with⟨c1,h⟩|⟨c1,h⟩
 ·obtain⟨r2,br2,h⟩:=aG h
  obtain rfl:=lf h
  exact aY Uw (sv (cT qbH (.bool t1) [])<|sg 0 c1<|ss<|ss<|si (.cg ⟨[1,2,3],[.str m3,.bptr 0 0,.eptr ((cL aa) v),.bptr 2 0],[],[.cells [.func (.func 62) [] [.bptr 2 0],.func (.func 61) [] []] [],.cells [sl cS m] [(0,9)],.cells [sl aa m2] [(0,137)]],[.cells [.func (.func 62) [] [.bptr 1 0],.func (.func 61) [] []] [],.cells [sl cS m] [(0,9)],.cells [sl aa m2] [(0,137)]],[.cells [.func (.func 62) [] [.bptr 2 0],.func (.func 61) [] []] [],.cells [sl cS r2.2.1] [(0,9)],.cells [sl aa r2.2.2] [(0,137)]],[.cells [.func (.func 62) [] [.bptr 1 0],.func (.func 61) [] []] [],.cells [sl cS r2.2.1] [(0,9)],.cells [sl aa r2.2.2] [(0,137)]],.str r2.1,.str r2.1,[]⟩) (ib br2)<|sf (aI (xR [1,2,3] (.str m3) trivial) (aI (xB [1,2,3] 0 1 0 rfl) (aI (xR [1,2,3] (.eptr ((cL aa) v)) (oz av v)) (aI (xB [1,2,3] 2 3 0 rfl) trivial))))<|sf (aI (aI (rB (.cells [.func (.func 62) [] [.bptr 2 0],.func (.func 61) [] []] [])) (aI (rW []) (aI (xF [1,2,3] (.func 62) [] [.bptr 2 0] [] [.bptr 1 0] trivial (aI (xB [1,2,3] 1 2 0 rfl) trivial)) (aI (xR [1,2,3] (.func (.func 61) [] []) (aI trivial trivial)) trivial)))) (aI (aI (rB (.cells [sl cS m] [(0,9)])) (aI (rW [(0,9)]) (aI (xR [1,2,3] (sl cS m) (aw cy m)) trivial))) (aI (aI (rB (.cells [sl aa m2] [(0,137)])) (aI (rW [(0,137)]) (aI (xR [1,2,3] (sl aa m2) (aw av m2)) trivial))) trivial)))<|sf (aI (aI (rW []) (aI (xF [1,2,3] (.func 62) [] [.bptr 2 0] [] [.bptr 1 0] trivial (aI (xB [1,2,3] 1 2 0 rfl) trivial)) (aI (xR [1,2,3] (.func (.func 61) [] []) (aI trivial trivial)) trivial))) (aI (aI (rW [(0,9)]) (aI (xR [1,2,3] (sl cS r2.2.1) (aw cy r2.2.1)) trivial)) (aI (aI (rW [(0,137)]) (aI (xR [1,2,3] (sl aa r2.2.2) (aw av r2.2.2)) trivial)) trivial)))<|sf (xR [1,2,3] (.str r2.1) trivial)<|ss<|eF .normal (cM v m4 m5 m6 m7 m8 m9 m10 m11 m12 m13 m14 (r2.2.1,r2.2.2,r2.1)))<|by kernel_rfl
 ·obtain rfl:=lf h
  exact aY Uw (sv (cT qbH (.bool t1) [])<|sg 0 c1<|eF .normal (cM v m4 m5 m6 m7 m8 m9 m10 m11 m12 m13 m14 (m,m2,m3)))<|by kernel_rfl
end
def eV(p:aA)(a:Bool)(c:(List ae))(k2:waA)(k3:(List ae)):Option (aA×waA×(List ae)):=
 (ez a c k2 k3 p.Name).bind fun o3=>
 (pW eB p.Type_).bind fun r4=>
 some ((⟨o3.2.2,r4⟩:aA),o3.1,o3.2.1)
theorem iW{p:aA}{a:Bool}{c:(List ae)}{k2:waA}{k3:(List ae)}{r:aA×waA×(List ae)}(h:eV p a c k2 k3=some r):C Pg GE 108 [.agg (ax p),.eptr (cB a),.bptr 0 0] [] [.cells [.func (.func 105) [] [.bptr 1 0,.eptr ((cL aa) c),.bptr 3 0]] [],.cells [.func (.func 62) [] [.bptr 2 0],.func (.func 61) [] []] [],.cells [sl cS k2] [(0,9)],.cells [sl aa k3] [(0,137)]] (.agg (ax r.1)) [] [.cells [.func (.func 105) [] [.bptr 1 0,.eptr ((cL aa) c),.bptr 3 0]] [],.cells [.func (.func 62) [] [.bptr 2 0],.func (.func 61) [] []] [],.cells [sl cS r.2.1] [(0,9)],.cells [sl aa r.2.2] [(0,137)]]:=by
 obtain⟨o3,bo3,h⟩:=aG h
 obtain⟨r4,br4,h⟩:=aG h
 obtain rfl:=lf h
 have z:=sx (kW p)<|sx Sv<|nN 0<|cK (ic a c k2 k3 p.Name p.Type_.Op p.Type_.Name p.Type_.Args p.Type_.Names p.Type_.Pred.Op p.Type_.Pred.Name p.Type_.Pred.N p.Type_.Pred.Kids p.Type_.Preds ([]:List ak) ([]:List az) bo3)<|OO [0,1,0,4,12,31,63]<|ss<|sv (jr p.Type_ [])<|cm (qq eB (fun _ _ h=>g6 h) br4)<|sv (F2 o3.2.2 r4)<|sx (kW (⟨o3.2.2,r4⟩:aA))<|en (aI (Nw (⟨o3.2.2,r4⟩:aA))<|aI (qbu (n:=4) (bj (⟨o3.2.2,r4⟩:aA)))<|aI (rL [.cells [.func (.func 105) [] [.bptr 1 0,.eptr ((cL aa) c),.bptr 3 0]] [],.cells [.func (.func 62) [] [.bptr 2 0],.func (.func 61) [] []] [],.cells [sl cS o3.1] [(0,9)],.cells [sl aa o3.2.1] [(0,137)]])<|(aI (aI (aI trivial (aI (bR (i:=1) (n:=4) rfl) (aI (bH (n:=4) (oz av c)) (aI (bR (i:=3) (n:=4) rfl) trivial)))) trivial) (aI (aI (aI trivial (aI (bR (i:=2) (n:=4) rfl) trivial)) (aI (aI trivial trivial) trivial)) (aI (aI (up (n:=4) (aw cy o3.1)) trivial) (aI (aI (up (n:=4) (aw av o3.2.1)) trivial) trivial)))))
 exact C.evGp (A:=Uw) mixed (m:=4) (c:=XK) rfl call108 func108 rfl z<|by kernel_rfl
end Go.Proofs.YtkdahfeiedaahaaGreatDoor
