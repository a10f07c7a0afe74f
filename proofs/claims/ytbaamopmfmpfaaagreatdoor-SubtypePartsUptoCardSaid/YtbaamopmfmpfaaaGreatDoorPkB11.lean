/- PROVED: a part of the proof. Conditions: none. -/
import Derived.Test.YtbaamopmfmpfaaaGreatDoorPkB10
noncomputable section
namespace Go.Proofs.YtbaamopmfmpfaaaGreatDoor
open Go Go.Proofs.Tryz
set_option linter.unusedVariables false
set_option maxRecDepth 100000
noncomputable def qeA:Code:=f30.body.getD .skip
def qaQ:List Nat:=[119]
section
variable(most:Int)(e:cb)(n:Int)(i:Int)
def Sd:aC:=be 120 [(1,.int .i64 most),(2,.eptr (ba e)),(5,.int .i64 n),(6,.int .i64 i)] [.dead] []
def zI(o:Bool):aC:=be 120 [(1,.int .i64 most),(2,.eptr (ba e)),(5,.int .i64 n),(6,.int .i64 i),(28,.bool o)] [.dead] []
def MD:Option Bool:=
 if(decide (i<(e.Params.length:Int)))=true then
  some (decide (n<=most))
 else
  some false
theorem Po{x:Bool}(h:MD most e n i=some x):aV Pg GE 0 (cA qeA 476) (EX .normal (zI most e n i x)) (Sd most e n i):=by
 have p4:=fun{sc F} (r:PS sc F)=>sv (lF e)<|sv (lH e)<|cq (qcc.ln e.Params)<|r
 rcases bj h with⟨c3,h⟩|⟨c3,h⟩
 ·obtain rfl:=lf h
  exact cf qaQ (p4<|sg 6 c3<|eF .normal (zI most e n i (decide (n<=most))))<|by kernel_rfl
 ·obtain rfl:=lf h
  exact cf qaQ (p4<|sg 6 c3<|eF .normal (zI most e n i false))<|by kernel_rfl
end
section
variable(most:Int)(e:cb)(n:Int)(i:Int)
def oP:aC:=be 120 [(1,.int .i64 most),(2,.eptr (ba e)),(5,.int .i64 n),(6,.int .i64 i)] [.dead] []
def zL(o:Int):aC:=be 120 [(1,.int .i64 most),(2,.eptr (ba e)),(5,.int .i64 o)] [.dead] []
def Hd:Option ((Int×Int)⊕(Int)):=
 (MD most e n i).bind fun o5=>
 if o5=true then
  (cz e.Params i).bind fun x8=>
  (qu .i64 (x8.Name.length:Int) 50).bind fun q9=>
  (cz e.Params i).bind fun x10=>
  (F5 ([x10.Type_]:List ae) most).bind fun r11=>
  some (.inl (aS ((aS ((aS (n+1))+q9))+r11),aS (i+1)))
 else
  some (.inr n)
def MG:Option Int:=loop (fun(zz:Int×Int)=>Hd most e zz.1 zz.2) (n,i)
theorem Ns{y:(Int×Int)⊕(Int)}(h:Hd most e n i=some y):aV Pg GE 0 (cA qeA 119) (LQ (fun(zz:Int×Int)=>oP most e zz.1 zz.2) (fun _=>.exit 0) (zL most e) y) (oP most e n i):=by
 obtain⟨o5,bo5,h⟩:=ay h
 have p7:=fun{sc F} (r:PS sc F)=>ka 1<|cY (Po most e n i bo5)<|r
 rcases bj h with⟨c6,h⟩|⟨c6,h⟩
 ·obtain⟨x8,bx8,h⟩:=ay h
  obtain⟨q9,bq9,h⟩:=ay h
  obtain⟨x10,bx10,h⟩:=ay h
  obtain⟨r11,br11,h⟩:=ay h
  obtain rfl:=lf h
  exact oo qaQ (p7<|sg 0 c6<|lK [0,1,0,4,0,28,60,124,252,508,1023,0,2048,0,14336,30720,63488,129024,0,522240,1048575,2097151]<|sv (lF e)<|sv (lH e)<|sv (qcc.ia (k:=.i64) bx8)<|sv (Df x8)<|sv (HB x8)<|cq (iD underlying9 x8.Name)<|sv (AL (P:=Pg) (t:=3) bq9)<|sv (lF e)<|sv (lH e)<|sv (qcc.ia (k:=.i64) bx10)<|sv (Dg x10)<|sv (Fk x10)<|sv (ct.mk' (v:=jG) eO ([x10.Type_]:List ae) 1 (by kernel_rfl))<|bz (Jr br11)<|eF .normal (oP most e (aS ((aS ((aS (n+1))+q9))+r11)) (aS (i+1))))<|by kernel_rfl
 ·obtain rfl:=lf h
  have z:=p7<|sg 0 c6<|eF (.exit 0) (zL most e n)
  exact gg qaQ (by intro hx;cases hx) z<|by kernel_rfl
theorem Pr{x:Int}(h:MG most e n i=some x):aV Pg GE 0 (.loop (cA qeA 119)) (EX (.exit 0) (zL most e x)) (oP most e n i):=
 aV.loop (S:=fun(zz:Int×Int)=>oP most e zz.1 zz.2) (ex:=(fun _=>.exit 0)) (s:=(n,i)) h fun zz y hy=>Ns most e zz.1 zz.2 hy
end
section
variable(most:Int)(e:cb)(n:Int)(i:Int)
def Se:aC:=be 120 [(1,.int .i64 most),(2,.eptr (ba e)),(5,.int .i64 n),(7,.int .i64 i)] [.dead] []
def zJ(o:Bool):aC:=be 120 [(1,.int .i64 most),(2,.eptr (ba e)),(5,.int .i64 n),(7,.int .i64 i),(61,.bool o)] [.dead] []
def ME:Option Bool:=
 if(decide (i<(e.Kids.length:Int)))=true then
  some (decide (n<=most))
 else
  some false
theorem Pp{x:Bool}(h:ME most e n i=some x):aV Pg GE 0 (cA qeA 988) (EX .normal (zJ most e n i x)) (Se most e n i):=by
 have p14:=fun{sc F} (r:PS sc F)=>sv (tT e)<|sv (tW e)<|cq (qfH.ln e.Kids)<|r
 rcases bj h with⟨c13,h⟩|⟨c13,h⟩
 ·obtain rfl:=lf h
  exact cf qaQ (p14<|sg 6 c13<|eF .normal (zJ most e n i (decide (n<=most))))<|by kernel_rfl
 ·obtain rfl:=lf h
  exact cf qaQ (p14<|sg 6 c13<|eF .normal (zJ most e n i false))<|by kernel_rfl
end
section
variable(R8:xH)(most:Int)(e:cb)(n:Int)(i:Int)
def oQ:aC:=be 120 [(1,.int .i64 most),(2,.eptr (ba e)),(5,.int .i64 n),(7,.int .i64 i)] [.dead] []
def zM(o:Int):aC:=be 120 [(1,.int .i64 most),(2,.eptr (ba e)),(5,.int .i64 o)] [.dead] []
def He:Option ((Int×Int)⊕(Int)):=
 (ME most e n i).bind fun o15=>
 if o15=true then
  (cz e.Kids i).bind fun x18=>
  (R8 x18 (aS (most - n))).bind fun r19=>
  some (.inl (aS (n+r19),aS (i+1)))
 else
  some (.inr n)
def MH:Option Int:=loop (fun(zz:Int×Int)=>He R8 most e zz.1 zz.2) (n,i)
theorem Nt(hR8:wK R8){y:(Int×Int)⊕(Int)}(h:He R8 most e n i=some y):aV Pg GE 0 (cA qeA 247) (LQ (fun(zz:Int×Int)=>oQ most e zz.1 zz.2) (fun _=>.exit 2) (zM most e) y) (oQ most e n i):=by
 obtain⟨o15,bo15,h⟩:=ay h
 have p17:=fun{sc F} (r:PS sc F)=>ka 1<|cY (Pp most e n i bo15)<|r
 rcases bj h with⟨c16,h⟩|⟨c16,h⟩
 ·obtain⟨x18,bx18,h⟩:=ay h
  obtain⟨r19,br19,h⟩:=ay h
  obtain rfl:=lf h
  exact oo qaQ (p17<|sg 0 c16<|sv (tT e)<|sv (tW e)<|sv (qfH.ia (k:=.i64) bx18)<|sv (XD x18)<|bz (hR8 _ _ _ br19)<|eF .normal (oQ most e (aS (n+r19)) (aS (i+1))))<|by kernel_rfl
 ·obtain rfl:=lf h
  have z:=p17<|sg 0 c16<|eF (.exit 2) (zM most e n)
  exact gg qaQ (by intro hx;cases hx) z<|by kernel_rfl
theorem Ps(hR8:wK R8){x:Int}(h:MH R8 most e n i=some x):aV Pg GE 0 (.loop (cA qeA 247)) (EX (.exit 2) (zM most e x)) (oQ most e n i):=
 aV.loop (S:=fun(zz:Int×Int)=>oQ most e zz.1 zz.2) (ex:=(fun _=>.exit 2)) (s:=(n,i)) h fun zz y hy=>Nt R8 most e zz.1 zz.2 hR8 hy
end
section
variable(most:Int)(e:cb)(n:Int)(i:Int)
def Sf:aC:=be 120 [(1,.int .i64 most),(2,.eptr (ba e)),(5,.int .i64 n),(8,.int .i64 i)] [.dead] []
def zK(o:Bool):aC:=be 120 [(1,.int .i64 most),(2,.eptr (ba e)),(5,.int .i64 n),(8,.int .i64 i),(84,.bool o)] [.dead] []
def MF:Option Bool:=
 if(decide (i<(e.Alts.length:Int)))=true then
  some (decide (n<=most))
 else
  some false
theorem Pq{x:Bool}(h:MF most e n i=some x):aV Pg GE 0 (cA qeA 2012) (EX .normal (zK most e n i x)) (Sf most e n i):=by
 have p22:=fun{sc F} (r:PS sc F)=>sv (jn e)<|sv (jp e)<|cq (ZD.ln e.Alts)<|r
 rcases bj h with⟨c21,h⟩|⟨c21,h⟩
 ·obtain rfl:=lf h
  exact cf qaQ (p22<|sg 6 c21<|eF .normal (zK most e n i (decide (n<=most))))<|by kernel_rfl
 ·obtain rfl:=lf h
  exact cf qaQ (p22<|sg 6 c21<|eF .normal (zK most e n i false))<|by kernel_rfl
end
section
variable(R8:xH)(most:Int)(e:cb)(n:Int)(i:Int)
def oR:aC:=be 120 [(1,.int .i64 most),(2,.eptr (ba e)),(5,.int .i64 n),(8,.int .i64 i)] [.dead] []
def zN(o:Int):aC:=be 120 [(5,.int .i64 o)] [.dead] []
def Hf:Option ((Int×Int)⊕(Int)):=
 (MF most e n i).bind fun o23=>
 if o23=true then
  (cz e.Alts i).bind fun x26=>
  (qu .i64 (x26.Con.length:Int) 50).bind fun q27=>
  (cz e.Alts i).bind fun x28=>
  (Tc x28.Names most).bind fun r29=>
  (cz e.Alts i).bind fun x30=>
  (R8 x30.Body (aS (most - (aS ((aS ((aS (n+1))+q27))+r29))))).bind fun r31=>
  some (.inl (aS ((aS ((aS ((aS (n+1))+q27))+r29))+r31),aS (i+1)))
 else
  some (.inr n)
def MI:Option Int:=loop (fun(zz:Int×Int)=>Hf R8 most e zz.1 zz.2) (n,i)
theorem Nu(hR8:wK R8){y:(Int×Int)⊕(Int)}(h:Hf R8 most e n i=some y):aV Pg GE 0 (cA qeA 503) (LQ (fun(zz:Int×Int)=>oR most e zz.1 zz.2) (fun _=>.exit 4) zN y) (oR most e n i):=by
 obtain⟨o23,bo23,h⟩:=ay h
 have p25:=fun{sc F} (r:PS sc F)=>ka 1<|cY (Pq most e n i bo23)<|r
 rcases bj h with⟨c24,h⟩|⟨c24,h⟩
 ·obtain⟨x26,bx26,h⟩:=ay h
  obtain⟨q27,bq27,h⟩:=ay h
  obtain⟨x28,bx28,h⟩:=ay h
  obtain⟨r29,br29,h⟩:=ay h
  obtain⟨x30,bx30,h⟩:=ay h
  obtain⟨r31,br31,h⟩:=ay h
  obtain rfl:=lf h
  exact oo qaQ (p25<|sg 0 c24<|lK [0,1,0,4,0,28,60,124,252,508,1023,0,2048,0,14336,30720,63488,0,260096,524287,1048575]<|sv (jn e)<|sv (jp e)<|sv (ZD.ia (k:=.i64) bx26)<|sv (SA x26)<|sv (Xz x26)<|cq (iD underlying9 x26.Con)<|sv (AL (P:=Pg) (t:=3) bq27)<|sv (jn e)<|sv (jp e)<|sv (ZD.ia (k:=.i64) bx28)<|sv (Hu x28)<|sv (Kl x28)<|bz (UP br29)<|sv (jn e)<|sv (jp e)<|sv (ZD.ia (k:=.i64) bx30)<|sv (Hv x30)<|sv (Km x30)<|bz (hR8 _ _ _ br31)<|eF .normal (oR most e (aS ((aS ((aS ((aS (n+1))+q27))+r29))+r31)) (aS (i+1))))<|by kernel_rfl
 ·obtain rfl:=lf h
  have z:=p25<|sg 0 c24<|eF (.exit 4) (zN n)
  exact gg qaQ (by intro hx;cases hx) z<|by kernel_rfl
theorem Pt(hR8:wK R8){x:Int}(h:MI R8 most e n i=some x):aV Pg GE 0 (.loop (cA qeA 503)) (EX (.exit 4) (zN x)) (oR most e n i):=
 aV.loop (S:=fun(zz:Int×Int)=>oR most e zz.1 zz.2) (ex:=(fun _=>.exit 4)) (s:=(n,i)) h fun zz y hy=>Nu R8 most e zz.1 zz.2 hR8 hy
end
def BP(R8:xH)(e:cb)(most:Int):Option Int:=
 (qu .i64 (e.Name.length:Int) 50).bind fun q1=>
 (F5 e.Types most).bind fun r2=>
 (MG most e (aS ((aS (1+q1))+r2)) 0).bind fun o12=>
 (MH R8 most e o12 0).bind fun o20=>
 (MI R8 most e o20 0).bind fun o32=>
 some o32
theorem UO(R8:xH)(hR8:wK R8){e:cb}{most:Int}{r:Int}(h:BP R8 e most=some r):CC Pg GE 30 [.agg (ba e),.int .i64 most] (.int .i64 r) []:=by
 obtain⟨q1,bq1,h⟩:=ay h
 obtain⟨r2,br2,h⟩:=ay h
 obtain⟨o12,bo12,h⟩:=ay h
 obtain⟨o20,bo20,h⟩:=ay h
 obtain⟨o32,bo32,h⟩:=ay h
 obtain rfl:=lf h
 have z:=se (XR e)<|lK [0,1,3,7,15,0,32,0,224,511,1023]<|sv (Hx e)<|sv (Ko e)<|cq (iD underlying9 e.Name)<|sv (AL (P:=Pg) (t:=3) bq1)<|sv (Hy e)<|sv (HA e)<|bz (Jr br2)<|cY (Pr most e (aS ((aS (1+q1))+r2)) 0 bo12)<|cY (Ps R8 most e o12 0 hR8 bo20)<|cY (Pt R8 most e o20 0 hR8 bo32)<|en (aI (rP (.int .i64 o32))<|trivial)
 exact bO qaQ call30 func30 (c:=qeA) rfl (aI (AS e) (aI trivial trivial)) z<|by kernel_rfl
def H1:((cb×Int)->Option Int)->(cb×Int)->Option Int:=fun(rec:(cb×Int)->Option Int) (x:cb×Int)=>BP (fun e most=>rec (e,most)) x.1 x.2
def Jn(e:cb)(most:Int):Option Int:=kK H1 (e,most)
theorem WL{e:cb}{most:Int}{r:Int}(h:Jn e most=some r):CC Pg GE 30 [.agg (ba e),.int .i64 most] (.int .i64 r) []:=
 cG (F:=H1) (M:=fun(x:cb×Int) (r:Int)=>CC Pg GE 30 [.agg (ba x.1),.int .i64 x.2] (.int .i64 r) []) (fun rec hrec x r h=>UO _ (fun e most r h=>hrec (e,most) r h) h) h
noncomputable def b8:Code:=Tryz.f8.body.getD .skip
def A8:List Nat:=[]
def s9(t:ae):Option Bool:=
 (Jn (⟨0,([]:af),0,([]:List cb),([]:List ql),([]:List uN),([t]:List ae)⟩:cb) 150).bind fun r1=>
 some (decide (r1<=150))
theorem JT{t:ae}{r:Bool}(h:s9 t=some r):CC Pg GE 8 [.agg (ag t)] (.bool r) []:=by
 obtain⟨r1,br1,h⟩:=ay h
 obtain rfl:=lf h
 have z:=se (bw t)<|sv (aN t)<|sv (ct.mk' (v:=jG) eO ([t]:List ae) 1 (by kernel_rfl))<|sb (YM ([t]:List ae)) (YK ([t]:List ae))<|bz (WL br1)<|en (aI (rP (.bool (decide (r1<=150))))<|trivial)
 exact bO A8 call8 func8 (c:=b8) rfl (aI (ak t) trivial) z<|by kernel_rfl
noncomputable def b9:Code:=Tryz.f9.body.getD .skip
def A9:List Nat:=[]
section
variable(v:waA)(i:Int)
def U1:aC:=be 20 [(0,sl cS v),(3,.int .i64 i)] [] []
def Cp(o:Bool):aC:=be 20 [(0,sl cS v),(3,.int .i64 i),(19,.bool o)] [] []
def Il:Option Bool:=
 if(decide (i>=30))=true then
  some true
 else
  (cz v i).bind fun x3=>
  some (decide ((x3.length:Int)>100))
theorem St{x:Bool}(h:Il v i=some x):aV Pg GE 0 (cA b9 890) (EX .normal (Cp v i x)) (U1 v i):=by
 rcases bj h with⟨c2,h⟩|⟨c2,h⟩
 ·obtain rfl:=lf h
  exact cf A9 (sg 3 c2<|eF .normal (Cp v i true))<|by kernel_rfl
 ·obtain⟨x3,bx3,h⟩:=ay h
  obtain rfl:=lf h
  exact cf A9 (sg 3 c2<|sv (bq.ia (k:=.i64) bx3)<|sv (dB Bg (.str x3) [])<|cq (iD underlying9 x3)<|eF .normal (Cp v i (decide ((x3.length:Int)>100))))<|by kernel_rfl
end
section
variable(v:waA)(i:Int)
def rq:aC:=be 20 [(0,sl cS v),(3,.int .i64 i)] [] []
def rr(o:Unit⊕(Unit)):Exit:=match o with
 |(.inl _)=>.ret
 |(.inr _)=>.exit 0
def nF(o:Unit⊕(Unit)):aC:=match o with
 |(.inl o)=>be 20 [(2,.bool false)] [] []
 |(.inr o)=>be 20 [] [] []
def nE:Option (Int⊕(Unit⊕(Unit))):=
 if(decide (i<(v.length:Int)))=true then
  (Il v i).bind fun o4=>
  if o4=true then
   some (.inr (.inl ()))
  else
   some (.inl (aS (i+1)))
 else
  some (.inr (.inr ()))
def Im:Option (Unit⊕(Unit)):=loop (fun(zz:Int)=>nE v zz) i
theorem PV{y:Int⊕(Unit⊕(Unit))}(h:nE v i=some y):aV Pg GE 0 (cA b9 55) (LQ (fun(zz:Int)=>rq v zz) rr nF y) (rq v i):=by
 rcases bj h with⟨c1,h⟩|⟨c1,h⟩
 ·obtain⟨o4,bo4,h⟩:=ay h
  have p6:=fun{sc F} (r:PS sc F)=>cq (bq.ln v)<|sg 0 c1<|ka 1<|cY (St v i bo4)<|r
  rcases bj h with⟨c5,h⟩|⟨c5,h⟩
  ·obtain rfl:=lf h
   have z:=p6<|sg 0 c5<|eF (rr (.inl ())) (nF (.inl ()))
   exact gg A9 (by intro hx;cases hx) z<|by kernel_rfl
  ·obtain rfl:=lf h
   exact oo A9 (p6<|sg 0 c5<|eF .normal (rq v (aS (i+1))))<|by kernel_rfl
 ·obtain rfl:=lf h
  have z:=cq (bq.ln v)<|sg 0 c1<|eF (rr (.inr ())) (nF (.inr ()))
  exact gg A9 (by intro hx;cases hx) z<|by kernel_rfl
theorem Hm{x:Unit⊕(Unit)}(h:Im v i=some x):aV Pg GE 0 (.loop (cA b9 55)) (EX (rr x) (nF x)) (rq v i):=
 aV.loop (S:=fun(zz:Int)=>rq v zz) (ex:=rr) (s:=i) h fun zz y hy=>PV v zz hy
end
def JS(a:waA):Option Bool:=
 (Im a 0).bind fun o7=>match o7 with
 |(.inl o7)=>
  some false
 |(.inr o7)=>
  some true
theorem YC{a:waA}{r:Bool}(h:JS a=some r):CC Pg GE 9 [sl cS a] (.bool r) []:=by
 obtain⟨o7,bo7,h⟩:=ay h
 rcases o7 with o7|o7
 ·obtain rfl:=lf h
  have z:=cY (e:=.ret) (s1:=nF (.inl o7)) (Hm a 0 bo7)<|en (aI (rP (.bool false))<|trivial)
  exact bO A9 call9 func9 (c:=b9) rfl (aI (aj dN a) trivial) z<|by kernel_rfl
 ·obtain rfl:=lf h
  have z:=cY (e:=.exit 0) (s1:=nF (.inr o7)) (Hm a 0 bo7)<|en (aI (rP (.bool true))<|trivial)
  exact bO A9 call9 func9 (c:=b9) rfl (aI (aj dN a) trivial) z<|by kernel_rfl
abbrev yX:=(ae->Option Int)
abbrev DM(R:yX):Prop:=∀(t:ae) (r:Int),R t=some r->CC Pg GE 60 [.agg (ag t)] (.int .i64 r) []
noncomputable def qkp:Code:=f60.body.getD .skip
def qj2:List Nat:=[]
section
variable(R16:yX)(t7:waC)(t8:Int)(n:Int)(t9:Int)
def ms:aC:=be 20 [(3,.int .i64 n),(7,sl ag t7),(8,.int .i64 t8),(9,.int .i64 t9)] [.dead] []
def wZ(o:Int):aC:=be 20 [(3,.int .i64 o)] [.dead] []
def Ee:Option ((Int×Int)⊕(Int)):=
 if(decide (t9<t8))=true then
  (cz t7 t9).bind fun x2=>
  (R16 x2).bind fun r3=>
  some (.inl ((if r3>n then r3 else n),aS (t9+1)))
 else
  some (.inr n)
def BL:Option Int:=loop (fun(zz:Int×Int)=>Ee R16 t7 t8 zz.1 zz.2) (n,t9)
theorem Ll(hR16:DM R16){y:(Int×Int)⊕(Int)}(h:Ee R16 t7 t8 n t9=some y):aV Pg GE 0 (cA qkp 119) (LQ (fun(zz:Int×Int)=>ms t7 t8 zz.1 zz.2) (fun _=>.exit 0) wZ y) (ms t7 t8 n t9):=by
 rcases bj h with⟨c1,h⟩|⟨c1,h⟩
 ·obtain⟨x2,bx2,h⟩:=ay h
  obtain⟨r3,br3,h⟩:=ay h
  obtain rfl:=lf h
  have z:=sg 0 c1<|sv (ct.ia (k:=.i64) bx2)<|sv (aN x2)<|sx tu<|sx (ez x2)<|sv (cX x2 [])<|bz (hR16 _ _ br3)<|uP 0 .normal (ms t7 t8 (if r3>n then r3 else n) (aS (t9+1))) rfl (dF (aI trivial (aI (up (aj ak t7)) (aI trivial (aI trivial trivial))))) (aI trivial trivial)
  exact dh (A:=qj2) mixed z<|by kernel_rfl
 ·obtain rfl:=lf h
  have z:=sg 0 c1<|eF (.exit 0) (wZ n)
  exact gg qj2 (by intro hx;cases hx) z<|by kernel_rfl
theorem No(hR16:DM R16){x:Int}(h:BL R16 t7 t8 n t9=some x):aV Pg GE 0 (.loop (cA qkp 119)) (EX (.exit 0) (wZ x)) (ms t7 t8 n t9):=
 aV.loop (S:=fun(zz:Int×Int)=>ms t7 t8 zz.1 zz.2) (ex:=(fun _=>.exit 0)) (s:=(n,t9)) h fun zz y hy=>Ll R16 t7 t8 zz.1 zz.2 hR16 hy
end
def yP(R16:yX)(t:ae):Option Int:=
 (BL R16 t.Args (t.Args.length:Int) 0 0).bind fun o4=>
 some (aS (o4+1))
theorem RZ(R16:yX)(hR16:DM R16){t:ae}{r:Int}(h:yP R16 t=some r):CC Pg GE 60 [.agg (ag t)] (.int .i64 r) []:=by
 obtain⟨o4,bo4,h⟩:=ay h
 obtain rfl:=lf h
 have z:=se (bw t)<|sv (aL t)<|sv (aM t)<|cq (ct.ln t.Args)<|cY (No R16 t.Args (t.Args.length:Int) 0 0 hR16 bo4)<|en (aI (rP (.int .i64 (aS (o4+1))))<|trivial)
 exact bO qj2 call60 func60 (c:=qkp) rfl (aI (ak t) trivial) z<|by kernel_rfl
def Ed:(ae->Option Int)->(ae)->Option Int:=fun(rec:ae->Option Int) (x:ae)=>yP (fun t=>rec t) x
def Lk(t:ae):Option Int:=kK Ed t
theorem UK{t:ae}{r:Int}(h:Lk t=some r):CC Pg GE 60 [.agg (ag t)] (.int .i64 r) []:=
 cG (F:=Ed) (M:=fun(x:ae) (r:Int)=>CC Pg GE 60 [.agg (ag x)] (.int .i64 r) []) (fun rec hrec x r h=>RZ _ (fun t r h=>hrec t r h) h) h
abbrev Ci:=(ae->Option Int)
abbrev HM(R:Ci):Prop:=∀(t:ae) (r:Int),R t=some r->CC Pg GE 61 [.agg (ag t)] (.int .i64 r) []
noncomputable def qgO:Code:=f126.body.getD .skip
def qeI:List Nat:=[10,15,25]
section
variable(s:af)(t7:Int)(out:waA)(begin:Int)(t8:Int)
def jL:aC:=be 31 [(0,.str s),(3,sl cS out),(4,.int .i64 begin),(7,.int .i64 t7),(8,.int .i64 t8)] [] [((3,0),9)]
def wU(o:waA×Int):aC:=be 31 [(0,.str s),(3,sl cS o.1),(4,.int .i64 o.2)] [] [((3,0),9)]
def jM:Option ((waA×Int×Int)⊕((waA×Int))):=
 if(decide (t8<t7))=true then
  (wr s t8).bind fun c2=>
  if(c2==46)=true then
   (Ot s (some begin) (some t8)).bind fun s5=>
   (app out ([s5]:List af)).bind fun l6=>
   some (.inl (l6,aS (t8+1),aS (t8+1)))
  else
   some (.inl (out,begin,aS (t8+1)))
 else
  some (.inr (out,begin))
def Bx:Option ((waA×Int)):=loop (fun(zz:waA×Int×Int)=>jM s t7 zz.1 zz.2.1 zz.2.2) (out,begin,t8)
theorem Ld{y:(waA×Int×Int)⊕((waA×Int))}(h:jM s t7 out begin t8=some y):aV Pg GE 0 (cA qgO 247) (LQ (fun(zz:waA×Int×Int)=>jL s t7 zz.1 zz.2.1 zz.2.2) (fun _=>.exit 0) (wU s) y) (jL s t7 out begin t8):=by
 rcases bj h with⟨c1,h⟩|⟨c1,h⟩
 ·obtain⟨c2,bc2,h⟩:=ay h
  have p4:=fun{sc F} (r:PS sc F)=>sg 0 c1<|sv (sG (k:=.i64) underlying9 bc2)<|r
  rcases bj h with⟨c3,h⟩|⟨c3,h⟩
  ·obtain⟨s5,bs5,h⟩:=ay h
   obtain⟨l6,bl6,h⟩:=ay h
   obtain rfl:=lf h
   exact oo qeI (p4<|sg 0 c3<|sv (qgp underlying9 bs5)<|sv (bq.mk' (v:=PVal.str) Fs ([s5]:List af) 1 (by kernel_rfl))<|sv (bq.ap bl6)<|eF .normal (jL s t7 l6 (aS (t8+1)) (aS (t8+1))))<|by kernel_rfl
  ·obtain rfl:=lf h
   exact oo qeI (p4<|sg 0 c3<|eF .normal (jL s t7 out begin (aS (t8+1))))<|by kernel_rfl
 ·obtain rfl:=lf h
  have z:=sg 0 c1<|eF (.exit 0) (wU s (out,begin))
  exact gg qeI (by intro hx;cases hx) z<|by kernel_rfl
theorem Ni{x:(waA×Int)}(h:Bx s t7 out begin t8=some x):aV Pg GE 0 (.loop (cA qgO 247)) (EX (.exit 0) (wU s x)) (jL s t7 out begin t8):=
 aV.loop (S:=fun(zz:waA×Int×Int)=>jL s t7 zz.1 zz.2.1 zz.2.2) (ex:=(fun _=>.exit 0)) (s:=(out,begin,t8)) h fun zz y hy=>Ld s t7 zz.1 zz.2.1 zz.2.2 hy
end
def F1(s:af):Option waA:=
 (Bx s (s.length:Int) ([]:List af) 0 0).bind fun o7=>
 (Ot s (some o7.2) none).bind fun s8=>
 (app o7.1 ([s8]:List af)).bind fun l9=>
 some l9
theorem Uy{s:af}{r:waA}(h:F1 s=some r):CC Pg GE 126 [.str s] (sl cS r) [(0,9)]:=by
 obtain⟨o7,bo7,h⟩:=ay h
 obtain⟨s8,bs8,h⟩:=ay h
 obtain⟨l9,bl9,h⟩:=ay h
 obtain rfl:=lf h
 have z:=cq (iD underlying9 s)<|cY (Ni s (s.length:Int) ([]:List af) 0 0 bo7)<|sv (qgp underlying9 bs8)<|sv (bq.mk' (v:=PVal.str) Fs ([s8]:List af) 1 (by kernel_rfl))<|sv (bq.ap bl9)<|en (aI (rP (sl cS l9))<|(aj dN l9))
 exact bO qeI call126 func126 (c:=qgO) rfl (aI trivial trivial) z<|by kernel_rfl
noncomputable def qik:Code:=f102.body.getD .skip
def qhU:List Nat:=[]
def nn(c:Int):Option Bool:=
 if(decide (c>=97))=true then
  some (decide (c<=122))
 else
  some false
theorem np{c:Int}{r:Bool}(h:nn c=some r):CC Pg GE 102 [.int .u8 c] (.bool r) []:=by
 rcases bj h with⟨c1,h⟩|⟨c1,h⟩
 ·obtain rfl:=lf h
  have z:=sg 3 c1<|en (aI (rP (.bool (decide (c<=122))))<|trivial)
  exact bO qhU call102 func102 (c:=qik) rfl (aI trivial trivial) z<|by kernel_rfl
 ·obtain rfl:=lf h
  have z:=sg 3 c1<|en (aI (rP (.bool false))<|trivial)
  exact bO qhU call102 func102 (c:=qik) rfl (aI trivial trivial) z<|by kernel_rfl
noncomputable def qkd:Code:=f116.body.getD .skip
def qjU:List Nat:=[]
def Jg:Option waA:=
 some ([([97,110,100]:af),([97,115,115,117,109,101]:af),([98,111,111,108]:af),([98,111,117,110,100]:af),([99,97,115,101]:af),([99,101,108,108]:af),([99,108,97,115,115]:af),([100,97,116,97]:af),([100,101,102]:af),([100,105,118]:af),([101,108,115,101]:af),([101,110,100]:af),([102,97,108,115,101]:af),([102,111,114,97,108,108]:af),([102,117,110]:af),([103,101,116]:af),([105,102]:af),([105,110]:af),([105,110,115,116]:af),([105,110,116]:af),([105,110,118,97,114,105,97,110,116]:af),([108,101,116]:af),([109,97,116,99,104]:af),([109,101,97,115,117,114,101]:af),([109,101,116,114,105,99]:af),([109,111,100]:af),([109,117]:af),([110,101,119]:af),([110,111,116]:af),([111,102]:af),([111,114]:af),([113,117,97,108]:af),([114,101,102,108,101,99,116]:af),([115,101,116]:af),([116,104,101,110]:af),([116,114,117,101]:af),([117,115,101]:af),([118]:af),([118,97,108]:af),([116,97,103]:af),([119,104,101,114,101]:af),([119,105,116,104]:af)]:List af)
theorem Ng{r:waA}(h:Jg=some r):CC Pg GE 116 [] (sl cS r) [(0,9)]:=by
 obtain rfl:=lf h
 have z:=sv (bq.mk' (v:=PVal.str) Fs ([([97,110,100]:af),([97,115,115,117,109,101]:af),([98,111,111,108]:af),([98,111,117,110,100]:af),([99,97,115,101]:af),([99,101,108,108]:af),([99,108,97,115,115]:af),([100,97,116,97]:af),([100,101,102]:af),([100,105,118]:af),([101,108,115,101]:af),([101,110,100]:af),([102,97,108,115,101]:af),([102,111,114,97,108,108]:af),([102,117,110]:af),([103,101,116]:af),([105,102]:af),([105,110]:af),([105,110,115,116]:af),([105,110,116]:af),([105,110,118,97,114,105,97,110,116]:af),([108,101,116]:af),([109,97,116,99,104]:af),([109,101,97,115,117,114,101]:af),([109,101,116,114,105,99]:af),([109,111,100]:af),([109,117]:af),([110,101,119]:af),([110,111,116]:af),([111,102]:af),([111,114]:af),([113,117,97,108]:af),([114,101,102,108,101,99,116]:af),([115,101,116]:af),([116,104,101,110]:af),([116,114,117,101]:af),([117,115,101]:af),([118]:af),([118,97,108]:af),([116,97,103]:af),([119,104,101,114,101]:af),([119,105,116,104]:af)]:List af) 42 (by kernel_rfl))<|en (aI (rP (sl cS ([([97,110,100]:af),([97,115,115,117,109,101]:af),([98,111,111,108]:af),([98,111,117,110,100]:af),([99,97,115,101]:af),([99,101,108,108]:af),([99,108,97,115,115]:af),([100,97,116,97]:af),([100,101,102]:af),([100,105,118]:af),([101,108,115,101]:af),([101,110,100]:af),([102,97,108,115,101]:af),([102,111,114,97,108,108]:af),([102,117,110]:af),([103,101,116]:af),([105,102]:af),([105,110]:af),([105,110,115,116]:af),([105,110,116]:af),([105,110,118,97,114,105,97,110,116]:af),([108,101,116]:af),([109,97,116,99,104]:af),([109,101,97,115,117,114,101]:af),([109,101,116,114,105,99]:af),([109,111,100]:af),([109,117]:af),([110,101,119]:af),([110,111,116]:af),([111,102]:af),([111,114]:af),([113,117,97,108]:af),([114,101,102,108,101,99,116]:af),([115,101,116]:af),([116,104,101,110]:af),([116,114,117,101]:af),([117,115,101]:af),([118]:af),([118,97,108]:af),([116,97,103]:af),([119,104,101,114,101]:af),([119,105,116,104]:af)]:List af)))<|(aj dN ([([97,110,100]:af),([97,115,115,117,109,101]:af),([98,111,111,108]:af),([98,111,117,110,100]:af),([99,97,115,101]:af),([99,101,108,108]:af),([99,108,97,115,115]:af),([100,97,116,97]:af),([100,101,102]:af),([100,105,118]:af),([101,108,115,101]:af),([101,110,100]:af),([102,97,108,115,101]:af),([102,111,114,97,108,108]:af),([102,117,110]:af),([103,101,116]:af),([105,102]:af),([105,110]:af),([105,110,115,116]:af),([105,110,116]:af),([105,110,118,97,114,105,97,110,116]:af),([108,101,116]:af),([109,97,116,99,104]:af),([109,101,97,115,117,114,101]:af),([109,101,116,114,105,99]:af),([109,111,100]:af),([109,117]:af),([110,101,119]:af),([110,111,116]:af),([111,102]:af),([111,114]:af),([113,117,97,108]:af),([114,101,102,108,101,99,116]:af),([115,101,116]:af),([116,104,101,110]:af),([116,114,117,101]:af),([117,115,101]:af),([118]:af),([118,97,108]:af),([116,97,103]:af),([119,104,101,114,101]:af),([119,105,116,104]:af)]:List af)))
 exact bO qjU call116 func116 (c:=qkd) rfl trivial z<|by kernel_rfl
noncomputable def qjI:Code:=f83.body.getD .skip
def qh9:List Nat:=[10,17]
section
variable(v:waA)(s:af)(t7:Int)(t8:Int)
def oC:aC:=be 19 [(0,sl cS v),(1,.str s),(7,.int .i64 t7),(8,.int .i64 t8)] [] []
def oD(o:Int⊕(Unit)):Exit:=match o with
 |(.inl _)=>.ret
 |(.inr _)=>.exit 0
def lj(o:Int⊕(Unit)):aC:=match o with
 |(.inl o)=>be 19 [(4,.int .i64 o)] [] []
 |(.inr o)=>be 19 [] [] []
def eT:Option (Int⊕(Int⊕(Unit))):=
 if(decide (t8<t7))=true then
  (cz v t8).bind fun x2=>
  if(x2==s)=true then
   some (.inr (.inl t8))
  else
   some (.inl (aS (t8+1)))
 else
  some (.inr (.inr ()))
def yD:Option (Int⊕(Unit)):=loop (fun(zz:Int)=>eT v s t7 zz) t8
theorem M9{y:Int⊕(Int⊕(Unit))}(h:eT v s t7 t8=some y):aV Pg GE 0 (cA qjI 55) (LQ (fun(zz:Int)=>oC v s t7 zz) oD lj y) (oC v s t7 t8):=by
 rcases bj h with⟨c1,h⟩|⟨c1,h⟩
 ·obtain⟨x2,bx2,h⟩:=ay h
  have p4:=fun{sc F} (r:PS sc F)=>sg 0 c1<|sv (bq.ia (k:=.i64) bx2)<|sv (dB Bg (.str x2) [])<|r
  rcases bj h with⟨c3,h⟩|⟨c3,h⟩
  ·obtain rfl:=lf h
   have z:=p4<|sg 0 c3<|eF (oD (.inl t8)) (lj (.inl t8))
   exact gg qh9 (by intro hx;cases hx) z<|by kernel_rfl
  ·obtain rfl:=lf h
   exact oo qh9 (p4<|sg 0 c3<|eF .normal (oC v s t7 (aS (t8+1))))<|by kernel_rfl
 ·obtain rfl:=lf h
  have z:=sg 0 c1<|eF (oD (.inr ())) (lj (.inr ()))
  exact gg qh9 (by intro hx;cases hx) z<|by kernel_rfl
theorem DU{x:Int⊕(Unit)}(h:yD v s t7 t8=some x):aV Pg GE 0 (.loop (cA qjI 55)) (EX (oD x) (lj x)) (oC v s t7 t8):=
 aV.loop (S:=fun(zz:Int)=>oC v s t7 zz) (ex:=oD) (s:=t8) h fun zz y hy=>M9 v s t7 zz hy
end
def gM(a:waA)(s:af):Option Int:=
 (yD a s (a.length:Int) 0).bind fun o5=>match o5 with
 |(.inl o5)=>
  some o5
 |(.inr o5)=>
  some (-1)
theorem kb{a:waA}{s:af}{r:Int}(h:gM a s=some r):CC Pg GE 83 [sl cS a,.str s] (.int .i64 r) []:=by
 obtain⟨o5,bo5,h⟩:=ay h
 rcases o5 with o5|o5
 ·obtain rfl:=lf h
  have z:=cq (bq.ln a)<|cY (e:=.ret) (s1:=lj (.inl o5)) (DU a s (a.length:Int) 0 bo5)<|en (aI (rP (.int .i64 o5))<|trivial)
  exact bO qh9 call83 func83 (c:=qjI) rfl (aI (aj dN a) (aI trivial trivial)) z<|by kernel_rfl
 ·obtain rfl:=lf h
  have z:=cq (bq.ln a)<|cY (e:=.exit 0) (s1:=lj (.inr o5)) (DU a s (a.length:Int) 0 bo5)<|en (aI (rP (.int .i64 (-1)))<|trivial)
  exact bO qh9 call83 func83 (c:=qjI) rfl (aI (aj dN a) (aI trivial trivial)) z<|by kernel_rfl
noncomputable def qka:Code:=f103.body.getD .skip
def qjR:List Nat:=[]
def yE(s:af):Option Bool:=
 Jg.bind fun r1=>
 (gM r1 s).bind fun r2=>
 some (decide (r2>=0))
theorem OV{s:af}{r:Bool}(h:yE s=some r):CC Pg GE 103 [.str s] (.bool r) []:=by
 obtain⟨r1,br1,h⟩:=ay h
 obtain⟨r2,br2,h⟩:=ay h
 obtain rfl:=lf h
 have z:=bz (Ng br1)<|bz (kb br2)<|en (aI (rP (.bool (decide (r2>=0))))<|trivial)
 exact bO qjR call103 func103 (c:=qka) rfl (aI trivial trivial) z<|by kernel_rfl
noncomputable def qil:Code:=f104.body.getD .skip
def qhV:List Nat:=[]
def sO(c:Int):Option Bool:=
 if(decide (c>=48))=true then
  some (decide (c<=57))
 else
  some false
theorem vX{c:Int}{r:Bool}(h:sO c=some r):CC Pg GE 104 [.int .u8 c] (.bool r) []:=by
 rcases bj h with⟨c1,h⟩|⟨c1,h⟩
 ·obtain rfl:=lf h
  have z:=sg 3 c1<|en (aI (rP (.bool (decide (c<=57))))<|trivial)
  exact bO qhV call104 func104 (c:=qil) rfl (aI trivial trivial) z<|by kernel_rfl
 ·obtain rfl:=lf h
  have z:=sg 3 c1<|en (aI (rP (.bool false))<|trivial)
  exact bO qhV call104 func104 (c:=qil) rfl (aI trivial trivial) z<|by kernel_rfl
noncomputable def qgW:Code:=f87.body.getD .skip
def qaT:List Nat:=[26]
section
variable(s:af)
def OS:aC:=be 46 [(0,.str s)] [] []
def mf(o:Bool):aC:=be 46 [(0,.str s),(21,.bool o)] [] []
def Br:Option Bool:=
 if(decide ((s.length:Int)<1))=true then
  some true
 else
  if(decide ((s.length:Int)>24))=true then
   some true
  else
   (wr s 0).bind fun c4=>
   (nn c4).bind fun r5=>
   if(!r5)=true then
    some true
   else
    (yE s).bind fun r8=>
    some r8
theorem M5{x:Bool}(h:Br s=some x):aV Pg GE 0 (cA qgW 12) (EX .normal (mf s x)) (OS s):=by
 rcases bj h with⟨c1,h⟩|⟨c1,h⟩
 ·obtain rfl:=lf h
  exact cf qaT (cq (iD underlying9 s)<|sg 4 c1<|eF .normal (mf s true))<|by kernel_rfl
 ·have p3:=fun{sc F} (r:PS sc F)=>cq (iD underlying9 s)<|sg 4 c1<|cq (iD underlying9 s)<|r
  rcases bj h with⟨c2,h⟩|⟨c2,h⟩
  ·obtain rfl:=lf h
   exact cf qaT (p3<|sg 9 c2<|eF .normal (mf s true))<|by kernel_rfl
  ·obtain⟨c4,bc4,h⟩:=ay h
   obtain⟨r5,br5,h⟩:=ay h
   have p7:=fun{sc F} (r:PS sc F)=>p3<|sg 9 c2<|sv (sG (k:=.i64) underlying9 bc4)<|bz (np br5)<|r
   rcases bj h with⟨c6,h⟩|⟨c6,h⟩
   ·obtain rfl:=lf h
    exact cf qaT (p7<|sg 15 c6<|eF .normal (mf s true))<|by kernel_rfl
   ·obtain⟨r8,br8,h⟩:=ay h
    obtain rfl:=lf h
    exact cf qaT (p7<|sg 15 c6<|bz (OV br8)<|eF .normal (mf s r8))<|by kernel_rfl
end
section
variable(s:af)(i:Int)(t23:Int)
def OT:aC:=be 46 [(0,.str s),(3,.int .i64 i),(23,.int .i64 t23),(24,.int .i64 i)] [] []
def qK(o:Bool):aC:=be 46 [(0,.str s),(23,.int .i64 t23),(24,.int .i64 i),(44,.bool o)] [] []
def qJ:Option Bool:=
 (wr s i).bind fun c13=>
 (nn c13).bind fun r14=>
 if(!r14)=true then
  (wr s i).bind fun c17=>
  (sO c17).bind fun r18=>
  if(!r18)=true then
   (wr s i).bind fun c21=>
   some (c21 !=95)
  else
   some false
 else
  some false
theorem M6{x:Bool}(h:qJ s i=some x):aV Pg GE 0 (cA qgW 7670) (EX .normal (qK s i t23 x)) (OT s i t23):=by
 obtain⟨c13,bc13,h⟩:=ay h
 obtain⟨r14,br14,h⟩:=ay h
 have p16:=fun{sc F} (r:PS sc F)=>sv (sG (k:=.i64) underlying9 bc13)<|bz (np br14)<|r
 rcases bj h with⟨c15,h⟩|⟨c15,h⟩
 ·obtain⟨c17,bc17,h⟩:=ay h
  obtain⟨r18,br18,h⟩:=ay h
  have p20:=fun{sc F} (r:PS sc F)=>p16<|sg 6 c15<|sv (sG (k:=.i64) underlying9 bc17)<|bz (vX br18)<|r
  rcases bj h with⟨c19,h⟩|⟨c19,h⟩
  ·obtain⟨c21,bc21,h⟩:=ay h
   obtain rfl:=lf h
   exact cf qaT (p20<|sg 13 c19<|sv (sG (k:=.i64) underlying9 bc21)<|eF .normal (qK s i t23 (c21 !=95)))<|by kernel_rfl
  ·obtain rfl:=lf h
   exact cf qaT (p20<|sg 13 c19<|eF .normal (qK s i t23 false))<|by kernel_rfl
 ·obtain rfl:=lf h
  exact cf qaT (p16<|sg 6 c15<|eF .normal (qK s i t23 false))<|by kernel_rfl
end
section
variable(s:af)(t23:Int)(t24:Int)
def mg:aC:=be 46 [(0,.str s),(23,.int .i64 t23),(24,.int .i64 t24)] [] []
def mh(o:Unit⊕(Unit)):Exit:=match o with
 |(.inl _)=>.ret
 |(.inr _)=>.exit 0
def jH(o:Unit⊕(Unit)):aC:=match o with
 |(.inl o)=>be 46 [(2,.int .i64 3)] [] []
 |(.inr o)=>be 46 [] [] []
def DR:Option (Int⊕(Unit⊕(Unit))):=
 if(decide (t24<t23))=true then
  (qJ s t24).bind fun o22=>
  if o22=true then
   some (.inr (.inl ()))
  else
   some (.inl (aS (t24+1)))
 else
  some (.inr (.inr ()))
def Bt:Option (Unit⊕(Unit)):=loop (fun(zz:Int)=>DR s t23 zz) t24
theorem K8{y:Int⊕(Unit⊕(Unit))}(h:DR s t23 t24=some y):aV Pg GE 0 (cA qgW 119) (LQ (fun(zz:Int)=>mg s t23 zz) mh jH y) (mg s t23 t24):=by
 rcases bj h with⟨c12,h⟩|⟨c12,h⟩
 ·obtain⟨o22,bo22,h⟩:=ay h
  have p24:=fun{sc F} (r:PS sc F)=>sg 0 c12<|ka 2<|cY (M6 s t24 t23 bo22)<|r
  rcases bj h with⟨c23,h⟩|⟨c23,h⟩
  ·obtain rfl:=lf h
   have z:=p24<|sg 0 c23<|eF (mh (.inl ())) (jH (.inl ()))
   exact gg qaT (by intro hx;cases hx) z<|by kernel_rfl
  ·obtain rfl:=lf h
   exact oo qaT (p24<|sg 0 c23<|eF .normal (mg s t23 (aS (t24+1))))<|by kernel_rfl
 ·obtain rfl:=lf h
  have z:=sg 0 c12<|eF (mh (.inr ())) (jH (.inr ()))
  exact gg qaT (by intro hx;cases hx) z<|by kernel_rfl
theorem C6{x:Unit⊕(Unit)}(h:Bt s t23 t24=some x):aV Pg GE 0 (.loop (cA qgW 119)) (EX (mh x) (jH x)) (mg s t23 t24):=
 aV.loop (S:=fun(zz:Int)=>mg s t23 zz) (ex:=mh) (s:=t24) h fun zz y hy=>K8 s t23 zz hy
end
def sK(s:af):Option Int:=
 (Br s).bind fun o9=>
 if o9=true then
  some 3
 else
  (Bt s (s.length:Int) 0).bind fun o25=>match o25 with
  |(.inl o25)=>
   some 3
  |(.inr o25)=>
   some 0
theorem Jd{s:af}{r:Int}(h:sK s=some r):CC Pg GE 87 [.str s] (.int .i64 r) []:=by
 obtain⟨o9,bo9,h⟩:=ay h
 have p11:=fun{sc F} (r:PS sc F)=>ka 2<|cY (M5 s bo9)<|r
 rcases bj h with⟨c10,h⟩|⟨c10,h⟩
 ·obtain rfl:=lf h
  have z:=p11<|sg 0 c10<|en (aI (rP (.int .i64 3))<|trivial)
  exact bO qaT call87 func87 (c:=qgW) rfl (aI trivial trivial) z<|by kernel_rfl
 ·obtain⟨o25,bo25,h⟩:=ay h
  rcases o25 with o25|o25
  ·obtain rfl:=lf h
   have z:=p11<|sg 0 c10<|cq (iD underlying9 s)<|cY (e:=.ret) (s1:=jH (.inl o25)) (C6 s (s.length:Int) 0 bo25)<|en (aI (rP (.int .i64 3))<|trivial)
   exact bO qaT call87 func87 (c:=qgW) rfl (aI trivial trivial) z<|by kernel_rfl
  ·obtain rfl:=lf h
   have z:=p11<|sg 0 c10<|cq (iD underlying9 s)<|cY (e:=.exit 0) (s1:=jH (.inr o25)) (C6 s (s.length:Int) 0 bo25)<|en (aI (rP (.int .i64 0))<|trivial)
   exact bO qaT call87 func87 (c:=qgW) rfl (aI trivial trivial) z<|by kernel_rfl
noncomputable def qiq:Code:=f145.body.getD .skip
def qhZ:List Nat:=[]
def qo(c:Int):Option Bool:=
 if(decide (c>=65))=true then
  some (decide (c<=90))
 else
  some false
theorem wS{c:Int}{r:Bool}(h:qo c=some r):CC Pg GE 145 [.int .u8 c] (.bool r) []:=by
 rcases bj h with⟨c1,h⟩|⟨c1,h⟩
 ·obtain rfl:=lf h
  have z:=sg 3 c1<|en (aI (rP (.bool (decide (c<=90))))<|trivial)
  exact bO qhZ call145 func145 (c:=qiq) rfl (aI trivial trivial) z<|by kernel_rfl
 ·obtain rfl:=lf h
  have z:=sg 3 c1<|en (aI (rP (.bool false))<|trivial)
  exact bO qhZ call145 func145 (c:=qiq) rfl (aI trivial trivial) z<|by kernel_rfl
noncomputable def YE:Code:=f127.body.getD .skip
def GK:List Nat:=[38]
section
variable(s:af)
def OW:aC:=be 59 [(0,.str s)] [] []
def fU(o:Bool):aC:=be 59 [(0,.str s),(33,.bool o)] [] []
def Bv:Option Bool:=
 if(decide ((s.length:Int)<1))=true then
  some true
 else
  if(decide ((s.length:Int)>24))=true then
   some true
  else
   (wr s 0).bind fun c4=>
   (qo c4).bind fun r5=>
   if(!r5)=true then
    some true
   else
    if(s==([73,110,116]:af))=true then
     some true
    else
     if(s==([66,111,111,108]:af))=true then
      some true
     else
      if(s==([67,101,108,108]:af))=true then
       some true
      else
       some (s==([70,117,110]:af))
theorem Nb{x:Bool}(h:Bv s=some x):aV Pg GE 0 (cA YE 12) (EX .normal (fU s x)) (OW s):=by
 rcases bj h with⟨c1,h⟩|⟨c1,h⟩
 ·obtain rfl:=lf h
  exact cf GK (cq (iD underlying9 s)<|sg 4 c1<|eF .normal (fU s true))<|by kernel_rfl
 ·have p3:=fun{sc F} (r:PS sc F)=>cq (iD underlying9 s)<|sg 4 c1<|cq (iD underlying9 s)<|r
  rcases bj h with⟨c2,h⟩|⟨c2,h⟩
  ·obtain rfl:=lf h
   exact cf GK (p3<|sg 9 c2<|eF .normal (fU s true))<|by kernel_rfl
  ·obtain⟨c4,bc4,h⟩:=ay h
   obtain⟨r5,br5,h⟩:=ay h
   have p7:=fun{sc F} (r:PS sc F)=>p3<|sg 9 c2<|sv (sG (k:=.i64) underlying9 bc4)<|bz (wS br5)<|r
   rcases bj h with⟨c6,h⟩|⟨c6,h⟩
   ·obtain rfl:=lf h
    exact cf GK (p7<|sg 15 c6<|eF .normal (fU s true))<|by kernel_rfl
   ·have p9:=fun{sc F} (r:PS sc F)=>p7<|sg 15 c6<|r
    rcases bj h with⟨c8,h⟩|⟨c8,h⟩
    ·obtain rfl:=lf h
     exact cf GK (p9<|sg 19 c8<|eF .normal (fU s true))<|by kernel_rfl
    ·have p11:=fun{sc F} (r:PS sc F)=>p9<|sg 19 c8<|r
     rcases bj h with⟨c10,h⟩|⟨c10,h⟩
     ·obtain rfl:=lf h
      exact cf GK (p11<|sg 23 c10<|eF .normal (fU s true))<|by kernel_rfl
     ·have p13:=fun{sc F} (r:PS sc F)=>p11<|sg 23 c10<|r
      rcases bj h with⟨c12,h⟩|⟨c12,h⟩
      ·obtain rfl:=lf h
       exact cf GK (p13<|sg 27 c12<|eF .normal (fU s true))<|by kernel_rfl
      ·obtain rfl:=lf h
       exact cf GK (p13<|sg 27 c12<|eF .normal (fU s (s==([70,117,110]:af))))<|by kernel_rfl
end
section
variable(s:af)(i:Int)(t35:Int)
def OX:aC:=be 59 [(0,.str s),(3,.int .i64 i),(35,.int .i64 t35),(36,.int .i64 i)] [] []
def qM(o:Bool):aC:=be 59 [(0,.str s),(35,.int .i64 t35),(36,.int .i64 i),(57,.bool o)] [] []
def qL:Option Bool:=
 (wr s i).bind fun c18=>
 (nn c18).bind fun r19=>
 if(!r19)=true then
  (wr s i).bind fun c22=>
  (qo c22).bind fun r23=>
  if(!r23)=true then
   (wr s i).bind fun c26=>
   (sO c26).bind fun r27=>
   some (!r27)
  else
   some false
 else
  some false
theorem Nc{x:Bool}(h:qL s i=some x):aV Pg GE 0 (cA YE 7670) (EX .normal (qM s i t35 x)) (OX s i t35):=by
 obtain⟨c18,bc18,h⟩:=ay h
 obtain⟨r19,br19,h⟩:=ay h
 have p21:=fun{sc F} (r:PS sc F)=>sv (sG (k:=.i64) underlying9 bc18)<|bz (np br19)<|r
 rcases bj h with⟨c20,h⟩|⟨c20,h⟩
 ·obtain⟨c22,bc22,h⟩:=ay h
  obtain⟨r23,br23,h⟩:=ay h
  have p25:=fun{sc F} (r:PS sc F)=>p21<|sg 6 c20<|sv (sG (k:=.i64) underlying9 bc22)<|bz (wS br23)<|r
  rcases bj h with⟨c24,h⟩|⟨c24,h⟩
  ·obtain⟨c26,bc26,h⟩:=ay h
   obtain⟨r27,br27,h⟩:=ay h
   obtain rfl:=lf h
   exact cf GK (p25<|sg 13 c24<|sv (sG (k:=.i64) underlying9 bc26)<|bz (vX br27)<|eF .normal (qM s i t35 (!r27)))<|by kernel_rfl
  ·obtain rfl:=lf h
   exact cf GK (p25<|sg 13 c24<|eF .normal (qM s i t35 false))<|by kernel_rfl
 ·obtain rfl:=lf h
  exact cf GK (p21<|sg 6 c20<|eF .normal (qM s i t35 false))<|by kernel_rfl
end
section
variable(s:af)(t35:Int)(t36:Int)
def mj:aC:=be 59 [(0,.str s),(35,.int .i64 t35),(36,.int .i64 t36)] [] []
def ml(o:Unit⊕(Unit)):Exit:=match o with
 |(.inl _)=>.ret
 |(.inr _)=>.exit 0
def jI(o:Unit⊕(Unit)):aC:=match o with
 |(.inl o)=>be 59 [(2,.int .i64 3)] [] []
 |(.inr o)=>be 59 [] [] []
def DV:Option (Int⊕(Unit⊕(Unit))):=
 if(decide (t36<t35))=true then
  (qL s t36).bind fun o28=>
  if o28=true then
   some (.inr (.inl ()))
  else
   some (.inl (aS (t36+1)))
 else
  some (.inr (.inr ()))
def Bw:Option (Unit⊕(Unit)):=loop (fun(zz:Int)=>DV s t35 zz) t36
theorem La{y:Int⊕(Unit⊕(Unit))}(h:DV s t35 t36=some y):aV Pg GE 0 (cA YE 119) (LQ (fun(zz:Int)=>mj s t35 zz) ml jI y) (mj s t35 t36):=by
 rcases bj h with⟨c17,h⟩|⟨c17,h⟩
 ·obtain⟨o28,bo28,h⟩:=ay h
  have p30:=fun{sc F} (r:PS sc F)=>sg 0 c17<|ka 2<|cY (Nc s t36 t35 bo28)<|r
  rcases bj h with⟨c29,h⟩|⟨c29,h⟩
  ·obtain rfl:=lf h
   have z:=p30<|sg 0 c29<|eF (ml (.inl ())) (jI (.inl ()))
   exact gg GK (by intro hx;cases hx) z<|by kernel_rfl
  ·obtain rfl:=lf h
   exact oo GK (p30<|sg 0 c29<|eF .normal (mj s t35 (aS (t36+1))))<|by kernel_rfl
 ·obtain rfl:=lf h
  have z:=sg 0 c17<|eF (ml (.inr ())) (jI (.inr ()))
  exact gg GK (by intro hx;cases hx) z<|by kernel_rfl
theorem C7{x:Unit⊕(Unit)}(h:Bw s t35 t36=some x):aV Pg GE 0 (.loop (cA YE 119)) (EX (ml x) (jI x)) (mj s t35 t36):=
 aV.loop (S:=fun(zz:Int)=>mj s t35 zz) (ex:=ml) (s:=t36) h fun zz y hy=>La s t35 zz hy
end
def F0(s:af):Option Int:=
 (Bv s).bind fun o14=>
 if o14=true then
  some 3
 else
  (Bw s (s.length:Int) 0).bind fun o31=>match o31 with
  |(.inl o31)=>
   some 3
  |(.inr o31)=>
   some 0
theorem Ux{s:af}{r:Int}(h:F0 s=some r):CC Pg GE 127 [.str s] (.int .i64 r) []:=by
 obtain⟨o14,bo14,h⟩:=ay h
 have p16:=fun{sc F} (r:PS sc F)=>ka 2<|cY (Nb s bo14)<|r
 rcases bj h with⟨c15,h⟩|⟨c15,h⟩
 ·obtain rfl:=lf h
  have z:=p16<|sg 0 c15<|en (aI (rP (.int .i64 3))<|trivial)
  exact bO GK call127 func127 (c:=YE) rfl (aI trivial trivial) z<|by kernel_rfl
 ·obtain⟨o31,bo31,h⟩:=ay h
  rcases o31 with o31|o31
  ·obtain rfl:=lf h
   have z:=p16<|sg 0 c15<|cq (iD underlying9 s)<|cY (e:=.ret) (s1:=jI (.inl o31)) (C7 s (s.length:Int) 0 bo31)<|en (aI (rP (.int .i64 3))<|trivial)
   exact bO GK call127 func127 (c:=YE) rfl (aI trivial trivial) z<|by kernel_rfl
  ·obtain rfl:=lf h
   have z:=p16<|sg 0 c15<|cq (iD underlying9 s)<|cY (e:=.exit 0) (s1:=jI (.inr o31)) (C7 s (s.length:Int) 0 bo31)<|en (aI (rP (.int .i64 0))<|trivial)
   exact bO GK call127 func127 (c:=YE) rfl (aI trivial trivial) z<|by kernel_rfl
end Go.Proofs.YtbaamopmfmpfaaaGreatDoor
