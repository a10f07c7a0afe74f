/- PROVED: a part of the proof. Conditions: none. -/
import Derived.Test.YtbaamopmfmpfaaaGreatDoorPkA10
noncomputable section
namespace Go.Proofs.YtbaamopmfmpfaaaGreatDoor
open Go Go.Proofs.Tryz
set_option linter.unusedVariables false
set_option maxRecDepth 100000
noncomputable def qeb:Code:=f30.body.getD .skip
def qav:List Nat:=[119]
section
variable(most:Int)(e:bX)(n:Int)(i:Int)
def RL:aA:=be 120 [(1,.int .i64 most),(2,.eptr (aZ e)),(5,.int .i64 n),(6,.int .i64 i)] [.dead] []
def zx(o:Bool):aA:=be 120 [(1,.int .i64 most),(2,.eptr (aZ e)),(5,.int .i64 n),(6,.int .i64 i),(28,.bool o)] [.dead] []
def Mb:Option Bool:=
 if(decide (i<(e.Params.length:Int)))=true then
  some (decide (n<=most))
 else
  some false
theorem O3{x:Bool}(h:Mb most e n i=some x):aU Pg GE 0 (cA qeb 476) (EX .normal (zx most e n i x)) (RL most e n i):=by
 have p4:=fun{sc F} (r:PS sc F)=>sv (lD e)<|sv (lF e)<|cm (qbP.ln e.Params)<|r
 rcases bj h with⟨c3,h⟩|⟨c3,h⟩
 ·obtain rfl:=lf h
  exact cd qav (p4<|sg 6 c3<|eF .normal (zx most e n i (decide (n<=most))))<|by kernel_rfl
 ·obtain rfl:=lf h
  exact cd qav (p4<|sg 6 c3<|eF .normal (zx most e n i false))<|by kernel_rfl
end
section
variable(most:Int)(e:bX)(n:Int)(i:Int)
def oH:aA:=be 120 [(1,.int .i64 most),(2,.eptr (aZ e)),(5,.int .i64 n),(6,.int .i64 i)] [.dead] []
def zB(o:Int):aA:=be 120 [(1,.int .i64 most),(2,.eptr (aZ e)),(5,.int .i64 o)] [.dead] []
def GS:Option ((Int×Int)⊕(Int)):=
 (Mb most e n i).bind fun o5=>
 if o5=true then
  (cz e.Params i).bind fun x8=>
  (qu .i64 (x8.Name.length:Int) 50).bind fun q9=>
  (cz e.Params i).bind fun x10=>
  (FH ([x10.Type_]:List ae) most).bind fun r11=>
  some (.inl (aR ((aR ((aR (n+1))+q9))+r11),aR (i+1)))
 else
  some (.inr n)
def Me:Option Int:=loop (fun(zz:Int×Int)=>GS most e zz.1 zz.2) (n,i)
theorem M2{y:(Int×Int)⊕(Int)}(h:GS most e n i=some y):aU Pg GE 0 (cA qeb 119) (LQ (fun(zz:Int×Int)=>oH most e zz.1 zz.2) (fun _=>.exit 0) (zB most e) y) (oH most e n i):=by
 obtain⟨o5,bo5,h⟩:=ay h
 have p7:=fun{sc F} (r:PS sc F)=>kr 1<|cW (O3 most e n i bo5)<|r
 rcases bj h with⟨c6,h⟩|⟨c6,h⟩
 ·obtain⟨x8,bx8,h⟩:=ay h
  obtain⟨q9,bq9,h⟩:=ay h
  obtain⟨x10,bx10,h⟩:=ay h
  obtain⟨r11,br11,h⟩:=ay h
  obtain rfl:=lf h
  exact n9 qav (p7<|sg 0 c6<|lY [0,1,0,4,0,28,60,124,252,508,1023,0,2048,0,14336,30720,63488,129024,0,522240,1048575,2097151]<|sv (lD e)<|sv (lF e)<|sv (qbP.ia (k:=.i64) bx8)<|sv (C0 x8)<|sv (Hh x8)<|cm (iz underlying9 x8.Name)<|sv (Ax (P:=Pg) (t:=3) bq9)<|sv (lD e)<|sv (lF e)<|sv (qbP.ia (k:=.i64) bx10)<|sv (C1 x10)<|sv (E0 x10)<|sv (ck.mk' (v:=jC) eO ([x10.Type_]:List ae) 1 (by kernel_rfl))<|bz (I5 br11)<|eF .normal (oH most e (aR ((aR ((aR (n+1))+q9))+r11)) (aR (i+1))))<|by kernel_rfl
 ·obtain rfl:=lf h
  have z:=p7<|sg 0 c6<|eF (.exit 0) (zB most e n)
  exact f6 qav (by intro hx;cases hx) z<|by kernel_rfl
theorem O6{x:Int}(h:Me most e n i=some x):aU Pg GE 0 (.loop (cA qeb 119)) (EX (.exit 0) (zB most e x)) (oH most e n i):=
 aU.loop (S:=fun(zz:Int×Int)=>oH most e zz.1 zz.2) (ex:=(fun _=>.exit 0)) (s:=(n,i)) h fun zz y hy=>M2 most e zz.1 zz.2 hy
end
section
variable(most:Int)(e:bX)(n:Int)(i:Int)
def RM:aA:=be 120 [(1,.int .i64 most),(2,.eptr (aZ e)),(5,.int .i64 n),(7,.int .i64 i)] [.dead] []
def zy(o:Bool):aA:=be 120 [(1,.int .i64 most),(2,.eptr (aZ e)),(5,.int .i64 n),(7,.int .i64 i),(61,.bool o)] [.dead] []
def Mc:Option Bool:=
 if(decide (i<(e.Kids.length:Int)))=true then
  some (decide (n<=most))
 else
  some false
theorem O4{x:Bool}(h:Mc most e n i=some x):aU Pg GE 0 (cA qeb 988) (EX .normal (zy most e n i x)) (RM most e n i):=by
 have p14:=fun{sc F} (r:PS sc F)=>sv (tG e)<|sv (tJ e)<|cm (qfl.ln e.Kids)<|r
 rcases bj h with⟨c13,h⟩|⟨c13,h⟩
 ·obtain rfl:=lf h
  exact cd qav (p14<|sg 6 c13<|eF .normal (zy most e n i (decide (n<=most))))<|by kernel_rfl
 ·obtain rfl:=lf h
  exact cd qav (p14<|sg 6 c13<|eF .normal (zy most e n i false))<|by kernel_rfl
end
section
variable(R8:xr)(most:Int)(e:bX)(n:Int)(i:Int)
def oI:aA:=be 120 [(1,.int .i64 most),(2,.eptr (aZ e)),(5,.int .i64 n),(7,.int .i64 i)] [.dead] []
def zC(o:Int):aA:=be 120 [(1,.int .i64 most),(2,.eptr (aZ e)),(5,.int .i64 o)] [.dead] []
def GT:Option ((Int×Int)⊕(Int)):=
 (Mc most e n i).bind fun o15=>
 if o15=true then
  (cz e.Kids i).bind fun x18=>
  (R8 x18 (aR (most - n))).bind fun r19=>
  some (.inl (aR (n+r19),aR (i+1)))
 else
  some (.inr n)
def Mf:Option Int:=loop (fun(zz:Int×Int)=>GT R8 most e zz.1 zz.2) (n,i)
theorem M3(hR8:wv R8){y:(Int×Int)⊕(Int)}(h:GT R8 most e n i=some y):aU Pg GE 0 (cA qeb 247) (LQ (fun(zz:Int×Int)=>oI most e zz.1 zz.2) (fun _=>.exit 2) (zC most e) y) (oI most e n i):=by
 obtain⟨o15,bo15,h⟩:=ay h
 have p17:=fun{sc F} (r:PS sc F)=>kr 1<|cW (O4 most e n i bo15)<|r
 rcases bj h with⟨c16,h⟩|⟨c16,h⟩
 ·obtain⟨x18,bx18,h⟩:=ay h
  obtain⟨r19,br19,h⟩:=ay h
  obtain rfl:=lf h
  exact n9 qav (p17<|sg 0 c16<|sv (tG e)<|sv (tJ e)<|sv (qfl.ia (k:=.i64) bx18)<|sv (Xf x18)<|bz (hR8 _ _ _ br19)<|eF .normal (oI most e (aR (n+r19)) (aR (i+1))))<|by kernel_rfl
 ·obtain rfl:=lf h
  have z:=p17<|sg 0 c16<|eF (.exit 2) (zC most e n)
  exact f6 qav (by intro hx;cases hx) z<|by kernel_rfl
theorem O7(hR8:wv R8){x:Int}(h:Mf R8 most e n i=some x):aU Pg GE 0 (.loop (cA qeb 247)) (EX (.exit 2) (zC most e x)) (oI most e n i):=
 aU.loop (S:=fun(zz:Int×Int)=>oI most e zz.1 zz.2) (ex:=(fun _=>.exit 2)) (s:=(n,i)) h fun zz y hy=>M3 R8 most e zz.1 zz.2 hR8 hy
end
section
variable(most:Int)(e:bX)(n:Int)(i:Int)
def RN:aA:=be 120 [(1,.int .i64 most),(2,.eptr (aZ e)),(5,.int .i64 n),(8,.int .i64 i)] [.dead] []
def zA(o:Bool):aA:=be 120 [(1,.int .i64 most),(2,.eptr (aZ e)),(5,.int .i64 n),(8,.int .i64 i),(84,.bool o)] [.dead] []
def Md:Option Bool:=
 if(decide (i<(e.Alts.length:Int)))=true then
  some (decide (n<=most))
 else
  some false
theorem O5{x:Bool}(h:Md most e n i=some x):aU Pg GE 0 (cA qeb 2012) (EX .normal (zA most e n i x)) (RN most e n i):=by
 have p22:=fun{sc F} (r:PS sc F)=>sv (ji e)<|sv (jk e)<|cm (Zh.ln e.Alts)<|r
 rcases bj h with⟨c21,h⟩|⟨c21,h⟩
 ·obtain rfl:=lf h
  exact cd qav (p22<|sg 6 c21<|eF .normal (zA most e n i (decide (n<=most))))<|by kernel_rfl
 ·obtain rfl:=lf h
  exact cd qav (p22<|sg 6 c21<|eF .normal (zA most e n i false))<|by kernel_rfl
end
section
variable(R8:xr)(most:Int)(e:bX)(n:Int)(i:Int)
def oJ:aA:=be 120 [(1,.int .i64 most),(2,.eptr (aZ e)),(5,.int .i64 n),(8,.int .i64 i)] [.dead] []
def zD(o:Int):aA:=be 120 [(5,.int .i64 o)] [.dead] []
def GU:Option ((Int×Int)⊕(Int)):=
 (Md most e n i).bind fun o23=>
 if o23=true then
  (cz e.Alts i).bind fun x26=>
  (qu .i64 (x26.Con.length:Int) 50).bind fun q27=>
  (cz e.Alts i).bind fun x28=>
  (SP x28.Names most).bind fun r29=>
  (cz e.Alts i).bind fun x30=>
  (R8 x30.Body (aR (most - (aR ((aR ((aR (n+1))+q27))+r29))))).bind fun r31=>
  some (.inl (aR ((aR ((aR ((aR (n+1))+q27))+r29))+r31),aR (i+1)))
 else
  some (.inr n)
def Mg:Option Int:=loop (fun(zz:Int×Int)=>GU R8 most e zz.1 zz.2) (n,i)
theorem M4(hR8:wv R8){y:(Int×Int)⊕(Int)}(h:GU R8 most e n i=some y):aU Pg GE 0 (cA qeb 503) (LQ (fun(zz:Int×Int)=>oJ most e zz.1 zz.2) (fun _=>.exit 4) zD y) (oJ most e n i):=by
 obtain⟨o23,bo23,h⟩:=ay h
 have p25:=fun{sc F} (r:PS sc F)=>kr 1<|cW (O5 most e n i bo23)<|r
 rcases bj h with⟨c24,h⟩|⟨c24,h⟩
 ·obtain⟨x26,bx26,h⟩:=ay h
  obtain⟨q27,bq27,h⟩:=ay h
  obtain⟨x28,bx28,h⟩:=ay h
  obtain⟨r29,br29,h⟩:=ay h
  obtain⟨x30,bx30,h⟩:=ay h
  obtain⟨r31,br31,h⟩:=ay h
  obtain rfl:=lf h
  exact n9 qav (p25<|sg 0 c24<|lY [0,1,0,4,0,28,60,124,252,508,1023,0,2048,0,14336,30720,63488,0,260096,524287,1048575]<|sv (ji e)<|sv (jk e)<|sv (Zh.ia (k:=.i64) bx26)<|sv (Se x26)<|sv (Xb x26)<|cm (iz underlying9 x26.Con)<|sv (Ax (P:=Pg) (t:=3) bq27)<|sv (ji e)<|sv (jk e)<|sv (Zh.ia (k:=.i64) bx28)<|sv (G9 x28)<|sv (JY x28)<|bz (Uu br29)<|sv (ji e)<|sv (jk e)<|sv (Zh.ia (k:=.i64) bx30)<|sv (Ha x30)<|sv (JZ x30)<|bz (hR8 _ _ _ br31)<|eF .normal (oJ most e (aR ((aR ((aR ((aR (n+1))+q27))+r29))+r31)) (aR (i+1))))<|by kernel_rfl
 ·obtain rfl:=lf h
  have z:=p25<|sg 0 c24<|eF (.exit 4) (zD n)
  exact f6 qav (by intro hx;cases hx) z<|by kernel_rfl
theorem O8(hR8:wv R8){x:Int}(h:Mg R8 most e n i=some x):aU Pg GE 0 (.loop (cA qeb 503)) (EX (.exit 4) (zD x)) (oJ most e n i):=
 aU.loop (S:=fun(zz:Int×Int)=>oJ most e zz.1 zz.2) (ex:=(fun _=>.exit 4)) (s:=(n,i)) h fun zz y hy=>M4 R8 most e zz.1 zz.2 hR8 hy
end
def BB(R8:xr)(e:bX)(most:Int):Option Int:=
 (qu .i64 (e.Name.length:Int) 50).bind fun q1=>
 (FH e.Types most).bind fun r2=>
 (Me most e (aR ((aR (1+q1))+r2)) 0).bind fun o12=>
 (Mf R8 most e o12 0).bind fun o20=>
 (Mg R8 most e o20 0).bind fun o32=>
 some o32
theorem Ut(R8:xr)(hR8:wv R8){e:bX}{most:Int}{r:Int}(h:BB R8 e most=some r):CC Pg GE 30 [.agg (aZ e),.int .i64 most] (.int .i64 r) []:=by
 obtain⟨q1,bq1,h⟩:=ay h
 obtain⟨r2,br2,h⟩:=ay h
 obtain⟨o12,bo12,h⟩:=ay h
 obtain⟨o20,bo20,h⟩:=ay h
 obtain⟨o32,bo32,h⟩:=ay h
 obtain rfl:=lf h
 have z:=se (Xs e)<|lY [0,1,3,7,15,0,32,0,224,511,1023]<|sv (Hd e)<|sv (J1 e)<|cm (iz underlying9 e.Name)<|sv (Ax (P:=Pg) (t:=3) bq1)<|sv (He e)<|sv (Hg e)<|bz (I5 br2)<|cW (O6 most e (aR ((aR (1+q1))+r2)) 0 bo12)<|cW (O7 R8 most e o12 0 hR8 bo20)<|cW (O8 R8 most e o20 0 hR8 bo32)<|en (aI (rP (.int .i64 o32))<|trivial)
 exact bN qav call30 func30 (c:=qeb) rfl (aI (AD e) (aI trivial trivial)) z<|by kernel_rfl
def HG:((bX×Int)->Option Int)->(bX×Int)->Option Int:=fun(rec:(bX×Int)->Option Int) (x:bX×Int)=>BB (fun e most=>rec (e,most)) x.1 x.2
def I1(e:bX)(most:Int):Option Int:=kJ HG (e,most)
theorem Wn{e:bX}{most:Int}{r:Int}(h:I1 e most=some r):CC Pg GE 30 [.agg (aZ e),.int .i64 most] (.int .i64 r) []:=
 cy (F:=HG) (M:=fun(x:bX×Int) (r:Int)=>CC Pg GE 30 [.agg (aZ x.1),.int .i64 x.2] (.int .i64 r) []) (fun rec hrec x r h=>Ut _ (fun e most r h=>hrec (e,most) r h) h) h
noncomputable def b8:Code:=Tryz.f8.body.getD .skip
def A8:List Nat:=[]
def Av(t:ae):Option Bool:=
 (I1 (⟨0,([]:ag),0,([]:List bX),([]:List qc),([]:List uw),([t]:List ae)⟩:bX) 150).bind fun r1=>
 some (decide (r1<=150))
theorem Ju{t:ae}{r:Bool}(h:Av t=some r):CC Pg GE 8 [.agg (af t)] (.bool r) []:=by
 obtain⟨r1,br1,h⟩:=ay h
 obtain rfl:=lf h
 have z:=se (bD t)<|sv (aV t)<|sv (ck.mk' (v:=jC) eO ([t]:List ae) 1 (by kernel_rfl))<|sb (Yq ([t]:List ae)) (Yo ([t]:List ae))<|bz (Wn br1)<|en (aI (rP (.bool (decide (r1<=150))))<|trivial)
 exact bN A8 call8 func8 (c:=b8) rfl (aI (ak t) trivial) z<|by kernel_rfl
noncomputable def b9:Code:=Tryz.f9.body.getD .skip
def A9:List Nat:=[]
section
variable(v:waA)(i:Int)
def UF:aA:=be 20 [(0,sl cS v),(3,.int .i64 i)] [] []
def B9(o:Bool):aA:=be 20 [(0,sl cS v),(3,.int .i64 i),(19,.bool o)] [] []
def HY:Option Bool:=
 if(decide (i>=30))=true then
  some true
 else
  (cz v i).bind fun x3=>
  some (decide ((x3.length:Int)>100))
theorem R0{x:Bool}(h:HY v i=some x):aU Pg GE 0 (cA b9 890) (EX .normal (B9 v i x)) (UF v i):=by
 rcases bj h with⟨c2,h⟩|⟨c2,h⟩
 ·obtain rfl:=lf h
  exact cd A9 (sg 3 c2<|eF .normal (B9 v i true))<|by kernel_rfl
 ·obtain⟨x3,bx3,h⟩:=ay h
  obtain rfl:=lf h
  exact cd A9 (sg 3 c2<|sv (bp.ia (k:=.i64) bx3)<|sv (dH Ba (.str x3) [])<|cm (iz underlying9 x3)<|eF .normal (B9 v i (decide ((x3.length:Int)>100))))<|by kernel_rfl
end
section
variable(v:waA)(i:Int)
def ra:aA:=be 20 [(0,sl cS v),(3,.int .i64 i)] [] []
def rb(o:Unit⊕(Unit)):Exit:=match o with
 |(.inl _)=>.ret
 |(.inr _)=>.exit 0
def nz(o:Unit⊕(Unit)):aA:=match o with
 |(.inl o)=>be 20 [(2,.bool false)] [] []
 |(.inr o)=>be 20 [] [] []
def ny:Option (Int⊕(Unit⊕(Unit))):=
 if(decide (i<(v.length:Int)))=true then
  (HY v i).bind fun o4=>
  if o4=true then
   some (.inr (.inl ()))
  else
   some (.inl (aR (i+1)))
 else
  some (.inr (.inr ()))
def HZ:Option (Unit⊕(Unit)):=loop (fun(zz:Int)=>ny v zz) i
theorem PB{y:Int⊕(Unit⊕(Unit))}(h:ny v i=some y):aU Pg GE 0 (cA b9 55) (LQ (fun(zz:Int)=>ra v zz) rb nz y) (ra v i):=by
 rcases bj h with⟨c1,h⟩|⟨c1,h⟩
 ·obtain⟨o4,bo4,h⟩:=ay h
  have p6:=fun{sc F} (r:PS sc F)=>cm (bp.ln v)<|sg 0 c1<|kr 1<|cW (R0 v i bo4)<|r
  rcases bj h with⟨c5,h⟩|⟨c5,h⟩
  ·obtain rfl:=lf h
   have z:=p6<|sg 0 c5<|eF (rb (.inl ())) (nz (.inl ()))
   exact f6 A9 (by intro hx;cases hx) z<|by kernel_rfl
  ·obtain rfl:=lf h
   exact n9 A9 (p6<|sg 0 c5<|eF .normal (ra v (aR (i+1))))<|by kernel_rfl
 ·obtain rfl:=lf h
  have z:=cm (bp.ln v)<|sg 0 c1<|eF (rb (.inr ())) (nz (.inr ()))
  exact f6 A9 (by intro hx;cases hx) z<|by kernel_rfl
theorem G1{x:Unit⊕(Unit)}(h:HZ v i=some x):aU Pg GE 0 (.loop (cA b9 55)) (EX (rb x) (nz x)) (ra v i):=
 aU.loop (S:=fun(zz:Int)=>ra v zz) (ex:=rb) (s:=i) h fun zz y hy=>PB v zz hy
end
def Oa(a:waA):Option Bool:=
 (HZ a 0).bind fun o7=>match o7 with
 |(.inl o7)=>
  some false
 |(.inr o7)=>
  some true
theorem Yg{a:waA}{r:Bool}(h:Oa a=some r):CC Pg GE 9 [sl cS a] (.bool r) []:=by
 obtain⟨o7,bo7,h⟩:=ay h
 rcases o7 with o7|o7
 ·obtain rfl:=lf h
  have z:=cW (e:=.ret) (s1:=nz (.inl o7)) (G1 a 0 bo7)<|en (aI (rP (.bool false))<|trivial)
  exact bN A9 call9 func9 (c:=b9) rfl (aI (aj dQ a) trivial) z<|by kernel_rfl
 ·obtain rfl:=lf h
  have z:=cW (e:=.exit 0) (s1:=nz (.inr o7)) (G1 a 0 bo7)<|en (aI (rP (.bool true))<|trivial)
  exact bN A9 call9 func9 (c:=b9) rfl (aI (aj dQ a) trivial) z<|by kernel_rfl
abbrev yL:=(ae->Option Int)
abbrev Du(R:yL):Prop:=∀(t:ae) (r:Int),R t=some r->CC Pg GE 60 [.agg (af t)] (.int .i64 r) []
noncomputable def qj2:Code:=f60.body.getD .skip
def qjG:List Nat:=[]
section
variable(R16:yL)(t7:waC)(t8:Int)(n:Int)(t9:Int)
def mn:aA:=be 20 [(3,.int .i64 n),(7,sl af t7),(8,.int .i64 t8),(9,.int .i64 t9)] [.dead] []
def wJ(o:Int):aA:=be 20 [(3,.int .i64 o)] [.dead] []
def DW:Option ((Int×Int)⊕(Int)):=
 if(decide (t9<t8))=true then
  (cz t7 t9).bind fun x2=>
  (R16 x2).bind fun r3=>
  some (.inl ((if r3>n then r3 else n),aR (t9+1)))
 else
  some (.inr n)
def Bw:Option Int:=loop (fun(zz:Int×Int)=>DW R16 t7 t8 zz.1 zz.2) (n,t9)
theorem KU(hR16:Du R16){y:(Int×Int)⊕(Int)}(h:DW R16 t7 t8 n t9=some y):aU Pg GE 0 (cA qj2 119) (LQ (fun(zz:Int×Int)=>mn t7 t8 zz.1 zz.2) (fun _=>.exit 0) wJ y) (mn t7 t8 n t9):=by
 rcases bj h with⟨c1,h⟩|⟨c1,h⟩
 ·obtain⟨x2,bx2,h⟩:=ay h
  obtain⟨r3,br3,h⟩:=ay h
  obtain rfl:=lf h
  have z:=sg 0 c1<|sv (ck.ia (k:=.i64) bx2)<|sv (aV x2)<|sx tc<|sx (ey x2)<|sv (cU x2 [])<|bz (hR16 _ _ br3)<|uz 0 .normal (mn t7 t8 (if r3>n then r3 else n) (aR (t9+1))) rfl (dC (aI trivial (aI (up (aj ak t7)) (aI trivial (aI trivial trivial))))) (aI trivial trivial)
  exact df (A:=qjG) mixed z<|by kernel_rfl
 ·obtain rfl:=lf h
  have z:=sg 0 c1<|eF (.exit 0) (wJ n)
  exact f6 qjG (by intro hx;cases hx) z<|by kernel_rfl
theorem MY(hR16:Du R16){x:Int}(h:Bw R16 t7 t8 n t9=some x):aU Pg GE 0 (.loop (cA qj2 119)) (EX (.exit 0) (wJ x)) (mn t7 t8 n t9):=
 aU.loop (S:=fun(zz:Int×Int)=>mn t7 t8 zz.1 zz.2) (ex:=(fun _=>.exit 0)) (s:=(n,t9)) h fun zz y hy=>KU R16 t7 t8 zz.1 zz.2 hR16 hy
end
def yE(R16:yL)(t:ae):Option Int:=
 (Bw R16 t.Args (t.Args.length:Int) 0 0).bind fun o4=>
 some (aR (o4+1))
theorem RE(R16:yL)(hR16:Du R16){t:ae}{r:Int}(h:yE R16 t=some r):CC Pg GE 60 [.agg (af t)] (.int .i64 r) []:=by
 obtain⟨o4,bo4,h⟩:=ay h
 obtain rfl:=lf h
 have z:=se (bD t)<|sv (aK t)<|sv (aL t)<|cm (ck.ln t.Args)<|cW (MY R16 t.Args (t.Args.length:Int) 0 0 hR16 bo4)<|en (aI (rP (.int .i64 (aR (o4+1))))<|trivial)
 exact bN qjG call60 func60 (c:=qj2) rfl (aI (ak t) trivial) z<|by kernel_rfl
def DV:(ae->Option Int)->(ae)->Option Int:=fun(rec:ae->Option Int) (x:ae)=>yE (fun t=>rec t) x
def KT(t:ae):Option Int:=kJ DV t
theorem Up{t:ae}{r:Int}(h:KT t=some r):CC Pg GE 60 [.agg (af t)] (.int .i64 r) []:=
 cy (F:=DV) (M:=fun(x:ae) (r:Int)=>CC Pg GE 60 [.agg (af x)] (.int .i64 r) []) (fun rec hrec x r h=>RE _ (fun t r h=>hrec t r h) h) h
abbrev B5:=(ae->Option Int)
abbrev Hs(R:B5):Prop:=∀(t:ae) (r:Int),R t=some r->CC Pg GE 61 [.agg (af t)] (.int .i64 r) []
noncomputable def qgs:Code:=f126.body.getD .skip
def qej:List Nat:=[10,15,25]
section
variable(s:ag)(t7:Int)(out:waA)(begin:Int)(t8:Int)
def jH:aA:=be 31 [(0,.str s),(3,sl cS out),(4,.int .i64 begin),(7,.int .i64 t7),(8,.int .i64 t8)] [] [((3,0),9)]
def wE(o:waA×Int):aA:=be 31 [(0,.str s),(3,sl cS o.1),(4,.int .i64 o.2)] [] [((3,0),9)]
def jI:Option ((waA×Int×Int)⊕((waA×Int))):=
 if(decide (t8<t7))=true then
  (vZ s t8).bind fun c2=>
  if(c2==46)=true then
   (N2 s (some begin) (some t8)).bind fun s5=>
   (app out ([s5]:List ag)).bind fun l6=>
   some (.inl (l6,aR (t8+1),aR (t8+1)))
  else
   some (.inl (out,begin,aR (t8+1)))
 else
  some (.inr (out,begin))
def Bi:Option ((waA×Int)):=loop (fun(zz:waA×Int×Int)=>jI s t7 zz.1 zz.2.1 zz.2.2) (out,begin,t8)
theorem KN{y:(waA×Int×Int)⊕((waA×Int))}(h:jI s t7 out begin t8=some y):aU Pg GE 0 (cA qgs 247) (LQ (fun(zz:waA×Int×Int)=>jH s t7 zz.1 zz.2.1 zz.2.2) (fun _=>.exit 0) (wE s) y) (jH s t7 out begin t8):=by
 rcases bj h with⟨c1,h⟩|⟨c1,h⟩
 ·obtain⟨c2,bc2,h⟩:=ay h
  have p4:=fun{sc F} (r:PS sc F)=>sg 0 c1<|sv (sk (k:=.i64) underlying9 bc2)<|r
  rcases bj h with⟨c3,h⟩|⟨c3,h⟩
  ·obtain⟨s5,bs5,h⟩:=ay h
   obtain⟨l6,bl6,h⟩:=ay h
   obtain rfl:=lf h
   exact n9 qej (p4<|sg 0 c3<|sv (qf3 underlying9 bs5)<|sv (bp.mk' (v:=PVal.str) E8 ([s5]:List ag) 1 (by kernel_rfl))<|sv (bp.ap bl6)<|eF .normal (jH s t7 l6 (aR (t8+1)) (aR (t8+1))))<|by kernel_rfl
  ·obtain rfl:=lf h
   exact n9 qej (p4<|sg 0 c3<|eF .normal (jH s t7 out begin (aR (t8+1))))<|by kernel_rfl
 ·obtain rfl:=lf h
  have z:=sg 0 c1<|eF (.exit 0) (wE s (out,begin))
  exact f6 qej (by intro hx;cases hx) z<|by kernel_rfl
theorem MS{x:(waA×Int)}(h:Bi s t7 out begin t8=some x):aU Pg GE 0 (.loop (cA qgs 247)) (EX (.exit 0) (wE s x)) (jH s t7 out begin t8):=
 aU.loop (S:=fun(zz:waA×Int×Int)=>jH s t7 zz.1 zz.2.1 zz.2.2) (ex:=(fun _=>.exit 0)) (s:=(out,begin,t8)) h fun zz y hy=>KN s t7 zz.1 zz.2.1 zz.2.2 hy
end
def FC(s:ag):Option waA:=
 (Bi s (s.length:Int) ([]:List ag) 0 0).bind fun o7=>
 (N2 s (some o7.2) none).bind fun s8=>
 (app o7.1 ([s8]:List ag)).bind fun l9=>
 some l9
theorem Ud{s:ag}{r:waA}(h:FC s=some r):CC Pg GE 126 [.str s] (sl cS r) [(0,9)]:=by
 obtain⟨o7,bo7,h⟩:=ay h
 obtain⟨s8,bs8,h⟩:=ay h
 obtain⟨l9,bl9,h⟩:=ay h
 obtain rfl:=lf h
 have z:=cm (iz underlying9 s)<|cW (MS s (s.length:Int) ([]:List ag) 0 0 bo7)<|sv (qf3 underlying9 bs8)<|sv (bp.mk' (v:=PVal.str) E8 ([s8]:List ag) 1 (by kernel_rfl))<|sv (bp.ap bl9)<|en (aI (rP (sl cS l9))<|(aj dQ l9))
 exact bN qej call126 func126 (c:=qgs) rfl (aI trivial trivial) z<|by kernel_rfl
noncomputable def qhZ:Code:=f102.body.getD .skip
def qhz:List Nat:=[]
def ni(c:Int):Option Bool:=
 if(decide (c>=97))=true then
  some (decide (c<=122))
 else
  some false
theorem nj{c:Int}{r:Bool}(h:ni c=some r):CC Pg GE 102 [.int .u8 c] (.bool r) []:=by
 rcases bj h with⟨c1,h⟩|⟨c1,h⟩
 ·obtain rfl:=lf h
  have z:=sg 3 c1<|en (aI (rP (.bool (decide (c<=122))))<|trivial)
  exact bN qhz call102 func102 (c:=qhZ) rfl (aI trivial trivial) z<|by kernel_rfl
 ·obtain rfl:=lf h
  have z:=sg 3 c1<|en (aI (rP (.bool false))<|trivial)
  exact bN qhz call102 func102 (c:=qhZ) rfl (aI trivial trivial) z<|by kernel_rfl
noncomputable def qjR:Code:=f116.body.getD .skip
def qjz:List Nat:=[]
def IU:Option waA:=
 some ([([97,110,100]:ag),([97,115,115,117,109,101]:ag),([98,111,111,108]:ag),([98,111,117,110,100]:ag),([99,97,115,101]:ag),([99,101,108,108]:ag),([99,108,97,115,115]:ag),([100,97,116,97]:ag),([100,101,102]:ag),([100,105,118]:ag),([101,108,115,101]:ag),([101,110,100]:ag),([102,97,108,115,101]:ag),([102,111,114,97,108,108]:ag),([102,117,110]:ag),([103,101,116]:ag),([105,102]:ag),([105,110]:ag),([105,110,115,116]:ag),([105,110,116]:ag),([105,110,118,97,114,105,97,110,116]:ag),([108,101,116]:ag),([109,97,116,99,104]:ag),([109,101,97,115,117,114,101]:ag),([109,101,116,114,105,99]:ag),([109,111,100]:ag),([109,117]:ag),([110,101,119]:ag),([110,111,116]:ag),([111,102]:ag),([111,114]:ag),([113,117,97,108]:ag),([114,101,102,108,101,99,116]:ag),([115,101,116]:ag),([116,104,101,110]:ag),([116,114,117,101]:ag),([117,115,101]:ag),([118]:ag),([118,97,108]:ag),([116,97,103]:ag),([119,104,101,114,101]:ag),([119,105,116,104]:ag)]:List ag)
theorem MQ{r:waA}(h:IU=some r):CC Pg GE 116 [] (sl cS r) [(0,9)]:=by
 obtain rfl:=lf h
 have z:=sv (bp.mk' (v:=PVal.str) E8 ([([97,110,100]:ag),([97,115,115,117,109,101]:ag),([98,111,111,108]:ag),([98,111,117,110,100]:ag),([99,97,115,101]:ag),([99,101,108,108]:ag),([99,108,97,115,115]:ag),([100,97,116,97]:ag),([100,101,102]:ag),([100,105,118]:ag),([101,108,115,101]:ag),([101,110,100]:ag),([102,97,108,115,101]:ag),([102,111,114,97,108,108]:ag),([102,117,110]:ag),([103,101,116]:ag),([105,102]:ag),([105,110]:ag),([105,110,115,116]:ag),([105,110,116]:ag),([105,110,118,97,114,105,97,110,116]:ag),([108,101,116]:ag),([109,97,116,99,104]:ag),([109,101,97,115,117,114,101]:ag),([109,101,116,114,105,99]:ag),([109,111,100]:ag),([109,117]:ag),([110,101,119]:ag),([110,111,116]:ag),([111,102]:ag),([111,114]:ag),([113,117,97,108]:ag),([114,101,102,108,101,99,116]:ag),([115,101,116]:ag),([116,104,101,110]:ag),([116,114,117,101]:ag),([117,115,101]:ag),([118]:ag),([118,97,108]:ag),([116,97,103]:ag),([119,104,101,114,101]:ag),([119,105,116,104]:ag)]:List ag) 42 (by kernel_rfl))<|en (aI (rP (sl cS ([([97,110,100]:ag),([97,115,115,117,109,101]:ag),([98,111,111,108]:ag),([98,111,117,110,100]:ag),([99,97,115,101]:ag),([99,101,108,108]:ag),([99,108,97,115,115]:ag),([100,97,116,97]:ag),([100,101,102]:ag),([100,105,118]:ag),([101,108,115,101]:ag),([101,110,100]:ag),([102,97,108,115,101]:ag),([102,111,114,97,108,108]:ag),([102,117,110]:ag),([103,101,116]:ag),([105,102]:ag),([105,110]:ag),([105,110,115,116]:ag),([105,110,116]:ag),([105,110,118,97,114,105,97,110,116]:ag),([108,101,116]:ag),([109,97,116,99,104]:ag),([109,101,97,115,117,114,101]:ag),([109,101,116,114,105,99]:ag),([109,111,100]:ag),([109,117]:ag),([110,101,119]:ag),([110,111,116]:ag),([111,102]:ag),([111,114]:ag),([113,117,97,108]:ag),([114,101,102,108,101,99,116]:ag),([115,101,116]:ag),([116,104,101,110]:ag),([116,114,117,101]:ag),([117,115,101]:ag),([118]:ag),([118,97,108]:ag),([116,97,103]:ag),([119,104,101,114,101]:ag),([119,105,116,104]:ag)]:List ag)))<|(aj dQ ([([97,110,100]:ag),([97,115,115,117,109,101]:ag),([98,111,111,108]:ag),([98,111,117,110,100]:ag),([99,97,115,101]:ag),([99,101,108,108]:ag),([99,108,97,115,115]:ag),([100,97,116,97]:ag),([100,101,102]:ag),([100,105,118]:ag),([101,108,115,101]:ag),([101,110,100]:ag),([102,97,108,115,101]:ag),([102,111,114,97,108,108]:ag),([102,117,110]:ag),([103,101,116]:ag),([105,102]:ag),([105,110]:ag),([105,110,115,116]:ag),([105,110,116]:ag),([105,110,118,97,114,105,97,110,116]:ag),([108,101,116]:ag),([109,97,116,99,104]:ag),([109,101,97,115,117,114,101]:ag),([109,101,116,114,105,99]:ag),([109,111,100]:ag),([109,117]:ag),([110,101,119]:ag),([110,111,116]:ag),([111,102]:ag),([111,114]:ag),([113,117,97,108]:ag),([114,101,102,108,101,99,116]:ag),([115,101,116]:ag),([116,104,101,110]:ag),([116,114,117,101]:ag),([117,115,101]:ag),([118]:ag),([118,97,108]:ag),([116,97,103]:ag),([119,104,101,114,101]:ag),([119,105,116,104]:ag)]:List ag)))
 exact bN qjz call116 func116 (c:=qjR) rfl trivial z<|by kernel_rfl
noncomputable def qjn:Code:=f83.body.getD .skip
def qhO:List Nat:=[10,17]
section
variable(v:waA)(s:ag)(t7:Int)(t8:Int)
def ol:aA:=be 19 [(0,sl cS v),(1,.str s),(7,.int .i64 t7),(8,.int .i64 t8)] [] []
def om(o:Int⊕(Unit)):Exit:=match o with
 |(.inl _)=>.ret
 |(.inr _)=>.exit 0
def lh(o:Int⊕(Unit)):aA:=match o with
 |(.inl o)=>be 19 [(4,.int .i64 o)] [] []
 |(.inr o)=>be 19 [] [] []
def eT:Option (Int⊕(Int⊕(Unit))):=
 if(decide (t8<t7))=true then
  (cz v t8).bind fun x2=>
  if(x2==s)=true then
   some (.inr (.inl t8))
  else
   some (.inl (aR (t8+1)))
 else
  some (.inr (.inr ()))
def yq:Option (Int⊕(Unit)):=loop (fun(zz:Int)=>eT v s t7 zz) t8
theorem MK{y:Int⊕(Int⊕(Unit))}(h:eT v s t7 t8=some y):aU Pg GE 0 (cA qjn 55) (LQ (fun(zz:Int)=>ol v s t7 zz) om lh y) (ol v s t7 t8):=by
 rcases bj h with⟨c1,h⟩|⟨c1,h⟩
 ·obtain⟨x2,bx2,h⟩:=ay h
  have p4:=fun{sc F} (r:PS sc F)=>sg 0 c1<|sv (bp.ia (k:=.i64) bx2)<|sv (dH Ba (.str x2) [])<|r
  rcases bj h with⟨c3,h⟩|⟨c3,h⟩
  ·obtain rfl:=lf h
   have z:=p4<|sg 0 c3<|eF (om (.inl t8)) (lh (.inl t8))
   exact f6 qhO (by intro hx;cases hx) z<|by kernel_rfl
  ·obtain rfl:=lf h
   exact n9 qhO (p4<|sg 0 c3<|eF .normal (ol v s t7 (aR (t8+1))))<|by kernel_rfl
 ·obtain rfl:=lf h
  have z:=sg 0 c1<|eF (om (.inr ())) (lh (.inr ()))
  exact f6 qhO (by intro hx;cases hx) z<|by kernel_rfl
theorem DC{x:Int⊕(Unit)}(h:yq v s t7 t8=some x):aU Pg GE 0 (.loop (cA qjn 55)) (EX (om x) (lh x)) (ol v s t7 t8):=
 aU.loop (S:=fun(zz:Int)=>ol v s t7 zz) (ex:=om) (s:=t8) h fun zz y hy=>MK v s t7 zz hy
end
def gI(a:waA)(s:ag):Option Int:=
 (yq a s (a.length:Int) 0).bind fun o5=>match o5 with
 |(.inl o5)=>
  some o5
 |(.inr o5)=>
  some (-1)
theorem j6{a:waA}{s:ag}{r:Int}(h:gI a s=some r):CC Pg GE 83 [sl cS a,.str s] (.int .i64 r) []:=by
 obtain⟨o5,bo5,h⟩:=ay h
 rcases o5 with o5|o5
 ·obtain rfl:=lf h
  have z:=cm (bp.ln a)<|cW (e:=.ret) (s1:=lh (.inl o5)) (DC a s (a.length:Int) 0 bo5)<|en (aI (rP (.int .i64 o5))<|trivial)
  exact bN qhO call83 func83 (c:=qjn) rfl (aI (aj dQ a) (aI trivial trivial)) z<|by kernel_rfl
 ·obtain rfl:=lf h
  have z:=cm (bp.ln a)<|cW (e:=.exit 0) (s1:=lh (.inr o5)) (DC a s (a.length:Int) 0 bo5)<|en (aI (rP (.int .i64 (-1)))<|trivial)
  exact bN qhO call83 func83 (c:=qjn) rfl (aI (aj dQ a) (aI trivial trivial)) z<|by kernel_rfl
noncomputable def qjO:Code:=f103.body.getD .skip
def qjw:List Nat:=[]
def yr(s:ag):Option Bool:=
 IU.bind fun r1=>
 (gI r1 s).bind fun r2=>
 some (decide (r2>=0))
theorem OC{s:ag}{r:Bool}(h:yr s=some r):CC Pg GE 103 [.str s] (.bool r) []:=by
 obtain⟨r1,br1,h⟩:=ay h
 obtain⟨r2,br2,h⟩:=ay h
 obtain rfl:=lf h
 have z:=bz (MQ br1)<|bz (j6 br2)<|en (aI (rP (.bool (decide (r2>=0))))<|trivial)
 exact bN qjw call103 func103 (c:=qjO) rfl (aI trivial trivial) z<|by kernel_rfl
noncomputable def qh0:Code:=f104.body.getD .skip
def qhA:List Nat:=[]
def sD(c:Int):Option Bool:=
 if(decide (c>=48))=true then
  some (decide (c<=57))
 else
  some false
theorem vG{c:Int}{r:Bool}(h:sD c=some r):CC Pg GE 104 [.int .u8 c] (.bool r) []:=by
 rcases bj h with⟨c1,h⟩|⟨c1,h⟩
 ·obtain rfl:=lf h
  have z:=sg 3 c1<|en (aI (rP (.bool (decide (c<=57))))<|trivial)
  exact bN qhA call104 func104 (c:=qh0) rfl (aI trivial trivial) z<|by kernel_rfl
 ·obtain rfl:=lf h
  have z:=sg 3 c1<|en (aI (rP (.bool false))<|trivial)
  exact bN qhA call104 func104 (c:=qh0) rfl (aI trivial trivial) z<|by kernel_rfl
noncomputable def qgA:Code:=f87.body.getD .skip
def qay:List Nat:=[26]
section
variable(s:ag)
def Oy:aA:=be 46 [(0,.str s)] [] []
def ma(o:Bool):aA:=be 46 [(0,.str s),(21,.bool o)] [] []
def Bd:Option Bool:=
 if(decide ((s.length:Int)<1))=true then
  some true
 else
  if(decide ((s.length:Int)>24))=true then
   some true
  else
   (vZ s 0).bind fun c4=>
   (ni c4).bind fun r5=>
   if(!r5)=true then
    some true
   else
    (yr s).bind fun r8=>
    some r8
theorem MG{x:Bool}(h:Bd s=some x):aU Pg GE 0 (cA qgA 12) (EX .normal (ma s x)) (Oy s):=by
 rcases bj h with⟨c1,h⟩|⟨c1,h⟩
 ·obtain rfl:=lf h
  exact cd qay (cm (iz underlying9 s)<|sg 4 c1<|eF .normal (ma s true))<|by kernel_rfl
 ·have p3:=fun{sc F} (r:PS sc F)=>cm (iz underlying9 s)<|sg 4 c1<|cm (iz underlying9 s)<|r
  rcases bj h with⟨c2,h⟩|⟨c2,h⟩
  ·obtain rfl:=lf h
   exact cd qay (p3<|sg 9 c2<|eF .normal (ma s true))<|by kernel_rfl
  ·obtain⟨c4,bc4,h⟩:=ay h
   obtain⟨r5,br5,h⟩:=ay h
   have p7:=fun{sc F} (r:PS sc F)=>p3<|sg 9 c2<|sv (sk (k:=.i64) underlying9 bc4)<|bz (nj br5)<|r
   rcases bj h with⟨c6,h⟩|⟨c6,h⟩
   ·obtain rfl:=lf h
    exact cd qay (p7<|sg 15 c6<|eF .normal (ma s true))<|by kernel_rfl
   ·obtain⟨r8,br8,h⟩:=ay h
    obtain rfl:=lf h
    exact cd qay (p7<|sg 15 c6<|bz (OC br8)<|eF .normal (ma s r8))<|by kernel_rfl
end
section
variable(s:ag)(i:Int)(t23:Int)
def Oz:aA:=be 46 [(0,.str s),(3,.int .i64 i),(23,.int .i64 t23),(24,.int .i64 i)] [] []
def qB(o:Bool):aA:=be 46 [(0,.str s),(23,.int .i64 t23),(24,.int .i64 i),(44,.bool o)] [] []
def qA:Option Bool:=
 (vZ s i).bind fun c13=>
 (ni c13).bind fun r14=>
 if(!r14)=true then
  (vZ s i).bind fun c17=>
  (sD c17).bind fun r18=>
  if(!r18)=true then
   (vZ s i).bind fun c21=>
   some (c21 !=95)
  else
   some false
 else
  some false
theorem MH{x:Bool}(h:qA s i=some x):aU Pg GE 0 (cA qgA 7670) (EX .normal (qB s i t23 x)) (Oz s i t23):=by
 obtain⟨c13,bc13,h⟩:=ay h
 obtain⟨r14,br14,h⟩:=ay h
 have p16:=fun{sc F} (r:PS sc F)=>sv (sk (k:=.i64) underlying9 bc13)<|bz (nj br14)<|r
 rcases bj h with⟨c15,h⟩|⟨c15,h⟩
 ·obtain⟨c17,bc17,h⟩:=ay h
  obtain⟨r18,br18,h⟩:=ay h
  have p20:=fun{sc F} (r:PS sc F)=>p16<|sg 6 c15<|sv (sk (k:=.i64) underlying9 bc17)<|bz (vG br18)<|r
  rcases bj h with⟨c19,h⟩|⟨c19,h⟩
  ·obtain⟨c21,bc21,h⟩:=ay h
   obtain rfl:=lf h
   exact cd qay (p20<|sg 13 c19<|sv (sk (k:=.i64) underlying9 bc21)<|eF .normal (qB s i t23 (c21 !=95)))<|by kernel_rfl
  ·obtain rfl:=lf h
   exact cd qay (p20<|sg 13 c19<|eF .normal (qB s i t23 false))<|by kernel_rfl
 ·obtain rfl:=lf h
  exact cd qay (p16<|sg 6 c15<|eF .normal (qB s i t23 false))<|by kernel_rfl
end
section
variable(s:ag)(t23:Int)(t24:Int)
def mb:aA:=be 46 [(0,.str s),(23,.int .i64 t23),(24,.int .i64 t24)] [] []
def mc(o:Unit⊕(Unit)):Exit:=match o with
 |(.inl _)=>.ret
 |(.inr _)=>.exit 0
def jD(o:Unit⊕(Unit)):aA:=match o with
 |(.inl o)=>be 46 [(2,.int .i64 3)] [] []
 |(.inr o)=>be 46 [] [] []
def Dz:Option (Int⊕(Unit⊕(Unit))):=
 if(decide (t24<t23))=true then
  (qA s t24).bind fun o22=>
  if o22=true then
   some (.inr (.inl ()))
  else
   some (.inl (aR (t24+1)))
 else
  some (.inr (.inr ()))
def Be:Option (Unit⊕(Unit)):=loop (fun(zz:Int)=>Dz s t23 zz) t24
theorem KI{y:Int⊕(Unit⊕(Unit))}(h:Dz s t23 t24=some y):aU Pg GE 0 (cA qgA 119) (LQ (fun(zz:Int)=>mb s t23 zz) mc jD y) (mb s t23 t24):=by
 rcases bj h with⟨c12,h⟩|⟨c12,h⟩
 ·obtain⟨o22,bo22,h⟩:=ay h
  have p24:=fun{sc F} (r:PS sc F)=>sg 0 c12<|kr 2<|cW (MH s t24 t23 bo22)<|r
  rcases bj h with⟨c23,h⟩|⟨c23,h⟩
  ·obtain rfl:=lf h
   have z:=p24<|sg 0 c23<|eF (mc (.inl ())) (jD (.inl ()))
   exact f6 qay (by intro hx;cases hx) z<|by kernel_rfl
  ·obtain rfl:=lf h
   exact n9 qay (p24<|sg 0 c23<|eF .normal (mb s t23 (aR (t24+1))))<|by kernel_rfl
 ·obtain rfl:=lf h
  have z:=sg 0 c12<|eF (mc (.inr ())) (jD (.inr ()))
  exact f6 qay (by intro hx;cases hx) z<|by kernel_rfl
theorem CS{x:Unit⊕(Unit)}(h:Be s t23 t24=some x):aU Pg GE 0 (.loop (cA qgA 119)) (EX (mc x) (jD x)) (mb s t23 t24):=
 aU.loop (S:=fun(zz:Int)=>mb s t23 zz) (ex:=mc) (s:=t24) h fun zz y hy=>KI s t23 zz hy
end
def sw(s:ag):Option Int:=
 (Bd s).bind fun o9=>
 if o9=true then
  some 3
 else
  (Be s (s.length:Int) 0).bind fun o25=>match o25 with
  |(.inl o25)=>
   some 3
  |(.inr o25)=>
   some 0
theorem IR{s:ag}{r:Int}(h:sw s=some r):CC Pg GE 87 [.str s] (.int .i64 r) []:=by
 obtain⟨o9,bo9,h⟩:=ay h
 have p11:=fun{sc F} (r:PS sc F)=>kr 2<|cW (MG s bo9)<|r
 rcases bj h with⟨c10,h⟩|⟨c10,h⟩
 ·obtain rfl:=lf h
  have z:=p11<|sg 0 c10<|en (aI (rP (.int .i64 3))<|trivial)
  exact bN qay call87 func87 (c:=qgA) rfl (aI trivial trivial) z<|by kernel_rfl
 ·obtain⟨o25,bo25,h⟩:=ay h
  rcases o25 with o25|o25
  ·obtain rfl:=lf h
   have z:=p11<|sg 0 c10<|cm (iz underlying9 s)<|cW (e:=.ret) (s1:=jD (.inl o25)) (CS s (s.length:Int) 0 bo25)<|en (aI (rP (.int .i64 3))<|trivial)
   exact bN qay call87 func87 (c:=qgA) rfl (aI trivial trivial) z<|by kernel_rfl
  ·obtain rfl:=lf h
   have z:=p11<|sg 0 c10<|cm (iz underlying9 s)<|cW (e:=.exit 0) (s1:=jD (.inr o25)) (CS s (s.length:Int) 0 bo25)<|en (aI (rP (.int .i64 0))<|trivial)
   exact bN qay call87 func87 (c:=qgA) rfl (aI trivial trivial) z<|by kernel_rfl
noncomputable def qh5:Code:=f145.body.getD .skip
def qhE:List Nat:=[]
def qf(c:Int):Option Bool:=
 if(decide (c>=65))=true then
  some (decide (c<=90))
 else
  some false
theorem wD{c:Int}{r:Bool}(h:qf c=some r):CC Pg GE 145 [.int .u8 c] (.bool r) []:=by
 rcases bj h with⟨c1,h⟩|⟨c1,h⟩
 ·obtain rfl:=lf h
  have z:=sg 3 c1<|en (aI (rP (.bool (decide (c<=90))))<|trivial)
  exact bN qhE call145 func145 (c:=qh5) rfl (aI trivial trivial) z<|by kernel_rfl
 ·obtain rfl:=lf h
  have z:=sg 3 c1<|en (aI (rP (.bool false))<|trivial)
  exact bN qhE call145 func145 (c:=qh5) rfl (aI trivial trivial) z<|by kernel_rfl
noncomputable def Yi:Code:=f127.body.getD .skip
def Gp:List Nat:=[38]
section
variable(s:ag)
def OD:aA:=be 59 [(0,.str s)] [] []
def fS(o:Bool):aA:=be 59 [(0,.str s),(33,.bool o)] [] []
def Bg:Option Bool:=
 if(decide ((s.length:Int)<1))=true then
  some true
 else
  if(decide ((s.length:Int)>24))=true then
   some true
  else
   (vZ s 0).bind fun c4=>
   (qf c4).bind fun r5=>
   if(!r5)=true then
    some true
   else
    if(s==([73,110,116]:ag))=true then
     some true
    else
     if(s==([66,111,111,108]:ag))=true then
      some true
     else
      if(s==([67,101,108,108]:ag))=true then
       some true
      else
       some (s==([70,117,110]:ag))
theorem MM{x:Bool}(h:Bg s=some x):aU Pg GE 0 (cA Yi 12) (EX .normal (fS s x)) (OD s):=by
 rcases bj h with⟨c1,h⟩|⟨c1,h⟩
 ·obtain rfl:=lf h
  exact cd Gp (cm (iz underlying9 s)<|sg 4 c1<|eF .normal (fS s true))<|by kernel_rfl
 ·have p3:=fun{sc F} (r:PS sc F)=>cm (iz underlying9 s)<|sg 4 c1<|cm (iz underlying9 s)<|r
  rcases bj h with⟨c2,h⟩|⟨c2,h⟩
  ·obtain rfl:=lf h
   exact cd Gp (p3<|sg 9 c2<|eF .normal (fS s true))<|by kernel_rfl
  ·obtain⟨c4,bc4,h⟩:=ay h
   obtain⟨r5,br5,h⟩:=ay h
   have p7:=fun{sc F} (r:PS sc F)=>p3<|sg 9 c2<|sv (sk (k:=.i64) underlying9 bc4)<|bz (wD br5)<|r
   rcases bj h with⟨c6,h⟩|⟨c6,h⟩
   ·obtain rfl:=lf h
    exact cd Gp (p7<|sg 15 c6<|eF .normal (fS s true))<|by kernel_rfl
   ·have p9:=fun{sc F} (r:PS sc F)=>p7<|sg 15 c6<|r
    rcases bj h with⟨c8,h⟩|⟨c8,h⟩
    ·obtain rfl:=lf h
     exact cd Gp (p9<|sg 19 c8<|eF .normal (fS s true))<|by kernel_rfl
    ·have p11:=fun{sc F} (r:PS sc F)=>p9<|sg 19 c8<|r
     rcases bj h with⟨c10,h⟩|⟨c10,h⟩
     ·obtain rfl:=lf h
      exact cd Gp (p11<|sg 23 c10<|eF .normal (fS s true))<|by kernel_rfl
     ·have p13:=fun{sc F} (r:PS sc F)=>p11<|sg 23 c10<|r
      rcases bj h with⟨c12,h⟩|⟨c12,h⟩
      ·obtain rfl:=lf h
       exact cd Gp (p13<|sg 27 c12<|eF .normal (fS s true))<|by kernel_rfl
      ·obtain rfl:=lf h
       exact cd Gp (p13<|sg 27 c12<|eF .normal (fS s (s==([70,117,110]:ag))))<|by kernel_rfl
end
section
variable(s:ag)(i:Int)(t35:Int)
def OE:aA:=be 59 [(0,.str s),(3,.int .i64 i),(35,.int .i64 t35),(36,.int .i64 i)] [] []
def qD(o:Bool):aA:=be 59 [(0,.str s),(35,.int .i64 t35),(36,.int .i64 i),(57,.bool o)] [] []
def qC:Option Bool:=
 (vZ s i).bind fun c18=>
 (ni c18).bind fun r19=>
 if(!r19)=true then
  (vZ s i).bind fun c22=>
  (qf c22).bind fun r23=>
  if(!r23)=true then
   (vZ s i).bind fun c26=>
   (sD c26).bind fun r27=>
   some (!r27)
  else
   some false
 else
  some false
theorem MN{x:Bool}(h:qC s i=some x):aU Pg GE 0 (cA Yi 7670) (EX .normal (qD s i t35 x)) (OE s i t35):=by
 obtain⟨c18,bc18,h⟩:=ay h
 obtain⟨r19,br19,h⟩:=ay h
 have p21:=fun{sc F} (r:PS sc F)=>sv (sk (k:=.i64) underlying9 bc18)<|bz (nj br19)<|r
 rcases bj h with⟨c20,h⟩|⟨c20,h⟩
 ·obtain⟨c22,bc22,h⟩:=ay h
  obtain⟨r23,br23,h⟩:=ay h
  have p25:=fun{sc F} (r:PS sc F)=>p21<|sg 6 c20<|sv (sk (k:=.i64) underlying9 bc22)<|bz (wD br23)<|r
  rcases bj h with⟨c24,h⟩|⟨c24,h⟩
  ·obtain⟨c26,bc26,h⟩:=ay h
   obtain⟨r27,br27,h⟩:=ay h
   obtain rfl:=lf h
   exact cd Gp (p25<|sg 13 c24<|sv (sk (k:=.i64) underlying9 bc26)<|bz (vG br27)<|eF .normal (qD s i t35 (!r27)))<|by kernel_rfl
  ·obtain rfl:=lf h
   exact cd Gp (p25<|sg 13 c24<|eF .normal (qD s i t35 false))<|by kernel_rfl
 ·obtain rfl:=lf h
  exact cd Gp (p21<|sg 6 c20<|eF .normal (qD s i t35 false))<|by kernel_rfl
end
section
variable(s:ag)(t35:Int)(t36:Int)
def mf:aA:=be 59 [(0,.str s),(35,.int .i64 t35),(36,.int .i64 t36)] [] []
def mg(o:Unit⊕(Unit)):Exit:=match o with
 |(.inl _)=>.ret
 |(.inr _)=>.exit 0
def jE(o:Unit⊕(Unit)):aA:=match o with
 |(.inl o)=>be 59 [(2,.int .i64 3)] [] []
 |(.inr o)=>be 59 [] [] []
def DD:Option (Int⊕(Unit⊕(Unit))):=
 if(decide (t36<t35))=true then
  (qC s t36).bind fun o28=>
  if o28=true then
   some (.inr (.inl ()))
  else
   some (.inl (aR (t36+1)))
 else
  some (.inr (.inr ()))
def Bh:Option (Unit⊕(Unit)):=loop (fun(zz:Int)=>DD s t35 zz) t36
theorem KK{y:Int⊕(Unit⊕(Unit))}(h:DD s t35 t36=some y):aU Pg GE 0 (cA Yi 119) (LQ (fun(zz:Int)=>mf s t35 zz) mg jE y) (mf s t35 t36):=by
 rcases bj h with⟨c17,h⟩|⟨c17,h⟩
 ·obtain⟨o28,bo28,h⟩:=ay h
  have p30:=fun{sc F} (r:PS sc F)=>sg 0 c17<|kr 2<|cW (MN s t36 t35 bo28)<|r
  rcases bj h with⟨c29,h⟩|⟨c29,h⟩
  ·obtain rfl:=lf h
   have z:=p30<|sg 0 c29<|eF (mg (.inl ())) (jE (.inl ()))
   exact f6 Gp (by intro hx;cases hx) z<|by kernel_rfl
  ·obtain rfl:=lf h
   exact n9 Gp (p30<|sg 0 c29<|eF .normal (mf s t35 (aR (t36+1))))<|by kernel_rfl
 ·obtain rfl:=lf h
  have z:=sg 0 c17<|eF (mg (.inr ())) (jE (.inr ()))
  exact f6 Gp (by intro hx;cases hx) z<|by kernel_rfl
theorem CT{x:Unit⊕(Unit)}(h:Bh s t35 t36=some x):aU Pg GE 0 (.loop (cA Yi 119)) (EX (mg x) (jE x)) (mf s t35 t36):=
 aU.loop (S:=fun(zz:Int)=>mf s t35 zz) (ex:=mg) (s:=t36) h fun zz y hy=>KK s t35 zz hy
end
def FB(s:ag):Option Int:=
 (Bg s).bind fun o14=>
 if o14=true then
  some 3
 else
  (Bh s (s.length:Int) 0).bind fun o31=>match o31 with
  |(.inl o31)=>
   some 3
  |(.inr o31)=>
   some 0
theorem Uc{s:ag}{r:Int}(h:FB s=some r):CC Pg GE 127 [.str s] (.int .i64 r) []:=by
 obtain⟨o14,bo14,h⟩:=ay h
 have p16:=fun{sc F} (r:PS sc F)=>kr 2<|cW (MM s bo14)<|r
 rcases bj h with⟨c15,h⟩|⟨c15,h⟩
 ·obtain rfl:=lf h
  have z:=p16<|sg 0 c15<|en (aI (rP (.int .i64 3))<|trivial)
  exact bN Gp call127 func127 (c:=Yi) rfl (aI trivial trivial) z<|by kernel_rfl
 ·obtain⟨o31,bo31,h⟩:=ay h
  rcases o31 with o31|o31
  ·obtain rfl:=lf h
   have z:=p16<|sg 0 c15<|cm (iz underlying9 s)<|cW (e:=.ret) (s1:=jE (.inl o31)) (CT s (s.length:Int) 0 bo31)<|en (aI (rP (.int .i64 3))<|trivial)
   exact bN Gp call127 func127 (c:=Yi) rfl (aI trivial trivial) z<|by kernel_rfl
  ·obtain rfl:=lf h
   have z:=p16<|sg 0 c15<|cm (iz underlying9 s)<|cW (e:=.exit 0) (s1:=jE (.inr o31)) (CT s (s.length:Int) 0 bo31)<|en (aI (rP (.int .i64 0))<|trivial)
   exact bN Gp call127 func127 (c:=Yi) rfl (aI trivial trivial) z<|by kernel_rfl
end Go.Proofs.YtbaamopmfmpfaaaGreatDoor
