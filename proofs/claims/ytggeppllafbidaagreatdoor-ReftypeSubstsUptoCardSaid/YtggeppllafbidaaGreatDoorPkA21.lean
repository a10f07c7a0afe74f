/- PROVED: parts of the proof (G10 G11 PlB). Conditions: none. -/
import Derived.Test.YtggeppllafbidaaGreatDoorPkA20
import Derived.Test.YtggeppllafbidaaGreatDoorPkA12
noncomputable section
namespace Go.Proofs.YtggeppllafbidaaGreatDoor
open Go
set_option linter.unusedVariables false
set_option maxRecDepth 100000
def Rg:Code:=Tryz.f38.body.getD .skip
def Qs:List Nat:=[32,53]
section
variable(t:ae)(t14:waB)(t15:Int)(out:waA)(t16:Int)
def jE:av:=aN 54 [(1,.eptr (af t)),(3,sl cS out),(14,sl ac t14),(15,.int .i64 t15),(16,.int .i64 t16)] [.dead] [((14,0),28),((3,0),9)]
def qM(o:waA):av:=aN 54 [(1,.eptr (af t)),(3,sl cS o)] [.dead] [((3,0),9)]
def xi:Option ((waA×Int)⊕(waA)):=
 if(decide (t16<t15))=true then
  (dv t14 t16).bind fun x3=>
  (mV x3).bind fun r4=>
  (iK r4 ([([118]:ag)]:List ag)).bind fun r5=>
  (d9 out r5).bind fun r6=>
  some (.inl (r6,bA (t16+1)))
 else
  some (.inr out)
def uT:Option waA:=loop (fun(zz:waA×Int)=>xi t14 t15 zz.1 zz.2) (out,t16)
theorem C4{y:(waA×Int)⊕(waA)}(h:xi t14 t15 out t16=some y):
  aB Pg GE 0 (cA Rg 119) (LQ (fun(zz:waA×Int)=>jE t t14 t15 zz.1 zz.2) (fun _=>.exit 0) (qM t) y) (jE t t14 t15 out t16):=by
 rcases aT h with⟨c2,h⟩|⟨c2,h⟩
 ·obtain⟨x3,bx3,h⟩:=aw h
  obtain⟨r4,br4,h⟩:=aw h
  obtain⟨r5,br5,h⟩:=aw h
  obtain⟨r6,br6,h⟩:=aw h
  obtain rfl:=lf h
  have z:=sg 0 c2<|sv (aR.ia (k:=.i64) bx3)<|sv (az x3)<|sx eX<|sx (bv x3)<|sv (aX x3 [])<|ba (uN br4)<|sv (aW.mk' (v:=PVal.str) CE ([([118]:ag)]:List ag) 1 (by kernel_rfl))<|ba (u6 br5)<|ba (i7 br6)<|pg 0 .normal (jE t t14 t15 r6 (bA (t16+1))) rfl (cF (aI (lq (al t)) (aI (up (am dS r6)) (aI (up (am ah t14)) (aI trivial (aI trivial trivial)))))) (aI trivial trivial)
  exact cz (A:=Qs) mixed z (by kernel_rfl)
 ·obtain rfl:=lf h
  have z:=sg 0 c2<|eF (.exit 0) (qM t out)
  exact gf Qs (by intro hx;cases hx) z (by kernel_rfl)
theorem Ec{x:waA}(h:uT t14 t15 out t16=some x):
  aB Pg GE 0 (.loop (cA Rg 119)) (EX (.exit 0) (qM t x)) (jE t t14 t15 out t16):=
 aB.loop (S:=fun(zz:waA×Int)=>jE t t14 t15 zz.1 zz.2) (ex:=(fun _=>.exit 0)) (s:=(out,t16)) h fun zz y hy=>C4 t t14 t15 zz.1 zz.2 hy
end
section
variable(t:ae)(out:waA)(bound:waA)(t28:waC)(t29:Int)(t30:Int)(m:Int)(m2:ag)(m3:waC)(m4:waA)(m5:Int)(m6:ag)(m7:Int)(m8:waB)(m9:waB)
def Gj:av:=aN 54 [(1,.eptr (af t)),(3,sl cS out),(7,.bptr 1 0),(8,sl cS bound),(28,sl af t28),(29,.int .i64 t29),(30,.int .i64 t30)] [.dead,.cells [.int .i64 m,.str m2,sl af m3,sl cS m4,.int .i64 m5,.str m6,.int .i64 m7,sl ac m8,sl ac m9] []] [((3,0),9)]
def qL(o:waA):av:=aN 54 [(1,.eptr (af t)),(3,sl cS out),(7,.bptr 1 0),(8,sl cS o),(28,sl af t28),(29,.int .i64 t29),(30,.int .i64 t30)] [.dead,.cells [.int .i64 m,.str m2,sl af m3,sl cS m4,.int .i64 m5,.str m6,.int .i64 m7,sl ac m8,sl ac m9] []] [((3,0),9)]
def mW:Option waA:=
 if(t.Op !=6)=true then
  some ([]:List ag)
 else
  some bound
theorem Eb{x:waA}(h:mW t bound=some x):
  aB Pg GE 0 (cA Rg 31726) (EX .normal (qL t out t28 t29 t30 m m2 m3 m4 m5 m6 m7 m8 m9 x)) (Gj t out bound t28 t29 t30 m m2 m3 m4 m5 m6 m7 m8 m9):=by
 have p12:=fun{sc F} (r:PS sc F)=>sv (aG t)<|sv (aJ t)<|r
 rcases aT h with⟨c11,h⟩|⟨c11,h⟩
 ·obtain rfl:=lf h
  exact co Qs (p12<|sg 0 c11<|eF .normal (qL t out t28 t29 t30 m m2 m3 m4 m5 m6 m7 m8 m9 ([]:List ag))) (by kernel_rfl)
 ·obtain rfl:=lf h
  exact co Qs (p12<|sg 0 c11<|eF .normal (qL t out t28 t29 t30 m m2 m3 m4 m5 m6 m7 m8 m9 bound)) (by kernel_rfl)
end
section
variable(R89:tb)(t:ae)(t28:waC)(t29:Int)(out:waA)(t30:Int)
def jF:av:=aN 54 [(1,.eptr (af t)),(3,sl cS out),(28,sl af t28),(29,.int .i64 t29),(30,.int .i64 t30)] [.dead] [((3,0),9)]
def qN(o:waA):av:=aN 54 [(3,sl cS o)] [.dead] [((3,0),9)]
def xj:Option ((waA×Int)⊕(waA)):=
 if(decide (t30<t29))=true then
  (dv t28 t30).bind fun x9=>
  (IK t.Names none (some (if(t.Names.length:Int)<t30 then(t.Names.length:Int)else t30))).bind fun l10=>
  (mW t l10).bind fun o13=>
  (R89 x9).bind fun r14=>
  (iK r14 o13).bind fun r15=>
  (d9 out r15).bind fun r16=>
  some (.inl (r16,bA (t30+1)))
 else
  some (.inr out)
def uU:Option waA:=loop (fun(zz:waA×Int)=>xj R89 t t28 t29 zz.1 zz.2) (out,t30)
theorem C5(hR89:yi R89){y:(waA×Int)⊕(waA)}(h:xj R89 t t28 t29 out t30=some y):
  aB Pg GE 0 (cA Rg 247) (LQ (fun(zz:waA×Int)=>jF t t28 t29 zz.1 zz.2) (fun _=>.exit 2) qN y) (jF t t28 t29 out t30):=by
 rcases aT h with⟨c8,h⟩|⟨c8,h⟩
 ·obtain⟨x9,bx9,h⟩:=aw h
  obtain⟨l10,bl10,h⟩:=aw h
  obtain⟨o13,bo13,h⟩:=aw h
  obtain⟨r14,br14,h⟩:=aw h
  obtain⟨r15,br15,h⟩:=aw h
  obtain⟨r16,br16,h⟩:=aw h
  obtain rfl:=lf h
  have z:=sg 0 c8<|sv (d5.ia (k:=.i64) bx9)<|sv (bh x9)<|sx jh<|sx (db x9)<|sv (aC t)<|sv (aD t)<|sv (aC t)<|sv (aD t)<|cD (aW.ln t.Names)<|sv (aW.sc bl10)<|kK 0<|cC (Eb t out l10 t28 t29 t30 x9.Op x9.Name x9.Args x9.Names x9.Pred.Op x9.Pred.Name x9.Pred.N x9.Pred.Kids x9.Preds bo13)<|sv (bz x9 [])<|ba (hR89 _ _ br14)<|ba (u6 br15)<|ba (i7 br16)<|pg 0 .normal (jF t t28 t29 r16 (bA (t30+1))) rfl (cF (aI (lq (al t)) (aI (up (am dS r16)) (aI (up (am al t28)) (aI trivial (aI trivial trivial)))))) (aI trivial trivial)
  exact cz (A:=Qs) mixed z (by kernel_rfl)
 ·obtain rfl:=lf h
  have z:=sg 0 c8<|eF (.exit 2) (qN out)
  exact gf Qs (by intro hx;cases hx) z (by kernel_rfl)
theorem Ed(hR89:yi R89){x:waA}(h:uU R89 t t28 t29 out t30=some x):
  aB Pg GE 0 (.loop (cA Rg 247)) (EX (.exit 2) (qN x)) (jF t t28 t29 out t30):=
 aB.loop (S:=fun(zz:waA×Int)=>jF t t28 t29 zz.1 zz.2) (ex:=(fun _=>.exit 2)) (s:=(out,t30)) h fun zz y hy=>C5 R89 t t28 t29 zz.1 zz.2 hR89 hy
end
def sX(R89:tb)(t:ae):Option waA:=
 (app ([t.Pred]:List aa) t.Preds).bind fun l1=>
 (uT l1 (l1.length:Int) ([]:List ag) 0).bind fun o7=>
 (uU R89 t t.Args (t.Args.length:Int) o7 0).bind fun o17=>
 some o17
theorem HO(R89:tb)(hR89:yi R89){t:ae}{r:waA}(h:sX R89 t=some r):CC Pg GE 38 [.agg (af t)] (sl cS r) [(0,9)]:=by
 obtain⟨l1,bl1,h⟩:=aw h
 obtain⟨o7,bo7,h⟩:=aw h
 obtain⟨o17,bo17,h⟩:=aw h
 obtain rfl:=lf h
 have z:=se (bQ t)<|sv (bU t)<|sv (bX t)<|sv (aR.mk' (v:=ce) aY ([t.Pred]:List aa) 1 (by kernel_rfl))<|sv (bN t)<|sv (bO t)<|sv (aR.ap bl1)<|cD (aR.ln l1)<|cC (Ec t l1 (l1.length:Int) ([]:List ag) 0 bo7)<|sv (aK t)<|sv (aL t)<|cD (d5.ln t.Args)<|cC (Ed R89 t t.Args (t.Args.length:Int) o7 0 hR89 bo17)<|en (aI (rP (sl cS o17))<|(am dS o17))
 exact b7 Qs Tryz.call38 Tryz.func38 (c:=Rg) rfl (aI (al t) trivial) z (by kernel_rfl)
def yt:(ae->Option waA)->(ae)->Option waA:=fun(rec:ae->Option waA) (x:ae)=>sX (fun t=>rec t) x
def Ea(t:ae):Option waA:=nw yt t
theorem I5{t:ae}{r:waA}(h:Ea t=some r):CC Pg GE 38 [.agg (af t)] (sl cS r) [(0,9)]:=
 cT (F:=yt) (M:=fun(x:ae) (r:waA)=>CC Pg GE 38 [.agg (af x)] (sl cS r) [(0,9)]) (fun rec hrec x r h=>HO _ (fun t r h=>hrec t r h) h) h
def SE:Code:=Tryz.f92.body.getD .skip
def Re:List Nat:=[14,28,34]
section
variable(name:ag)(c:aj)(i:Int)(s:ag)(t10:waA)(t11:Int)(m:waB)(m2:waA)(m3:waB)
def Gl:av:=aN 45 [(1,.str name),(2,.eptr (au c)),(4,.bptr 1 0),(5,.bptr 2 0),(6,.int .i64 i),(7,.str s),(10,sl cS t10),(11,.int .i64 t11),(12,.int .i64 i)] [.dead,.cells [sl cS ([]:List ag),sl ac m] [(0,9),(1,28)],.cells [sl cS m2,sl ac m3] [(0,9),(1,28)]] []
def qR(o:Bool):av:=aN 45 [(1,.str name),(2,.eptr (au c)),(4,.bptr 1 0),(5,.bptr 2 0),(6,.int .i64 i),(7,.str s),(10,sl cS t10),(11,.int .i64 t11),(12,.int .i64 i),(26,.bool o)] [.dead,.cells [sl cS ([]:List ag),sl ac m] [(0,9),(1,28)],.cells [sl cS m2,sl ac m3] [(0,9),(1,28)]] []
def u3:Option Bool:=
 if(decide (i<(c.By.length:Int)))=true then
  some (!(s==name))
 else
  some false
theorem Eg{x:Bool}(h:u3 name c i s=some x):
  aB Pg GE 0 (cA SE 7670) (EX .normal (qR name c i s t10 t11 m m2 m3 x)) (Gl name c i s t10 t11 m m2 m3):=by
 have p4:=fun{sc F} (r:PS sc F)=>sv (cK c)<|sv (cM c)<|cD (aR.ln c.By)<|r
 rcases aT h with⟨c3,h⟩|⟨c3,h⟩
 ·obtain rfl:=lf h
  exact co Re (p4<|sg 6 c3<|eF .normal (qR name c i s t10 t11 m m2 m3 (!(s==name)))) (by kernel_rfl)
 ·obtain rfl:=lf h
  exact co Re (p4<|sg 6 c3<|eF .normal (qR name c i s t10 t11 m m2 m3 false)) (by kernel_rfl)
end
section
variable(name:ag)(c:aj)(t10:waA)(t11:Int)(m:waB)(t12:Int)(m2:waA)(m3:waB)
def ik:av:=aN 45 [(1,.str name),(2,.eptr (au c)),(4,.bptr 1 0),(5,.bptr 2 0),(10,sl cS t10),(11,.int .i64 t11),(12,.int .i64 t12)] [.dead,.cells [sl cS ([]:List ag),sl ac m] [(0,9),(1,28)],.cells [sl cS m2,sl ac m3] [(0,9),(1,28)]] []
def qS(o:waA×waB):av:=aN 45 [(4,.bptr 1 0),(5,.bptr 2 0)] [.dead,.cells [sl cS ([]:List ag),sl ac m] [(0,9),(1,28)],.cells [sl cS o.1,sl ac o.2] [(0,9),(1,28)]] []
def fI:Option ((Int×waA×waB)⊕((waA×waB))):=
 if(decide (t12<t11))=true then
  (dv t10 t12).bind fun x2=>
  (u3 name c t12 x2).bind fun o5=>
  if o5=true then
   (app m2 ([x2]:List ag)).bind fun l8=>
   (dv c.By t12).bind fun x9=>
   (app m3 ([x9]:List aa)).bind fun l10=>
   some (.inl (bA (t12+1),l8,l10))
  else
   some (.inl (bA (t12+1),m2,m3))
 else
  some (.inr (m2,m3))
def u4:Option ((waA×waB)):=loop (fun(zz:Int×waA×waB)=>fI name c t10 t11 zz.1 zz.2.1 zz.2.2) (t12,m2,m3)
theorem C9{y:(Int×waA×waB)⊕((waA×waB))}(h:fI name c t10 t11 t12 m2 m3=some y):
  aB Pg GE 0 (cA SE 119) (LQ (fun(zz:Int×waA×waB)=>ik name c t10 t11 m zz.1 zz.2.1 zz.2.2) (fun _=>.exit 0) (qS m) y) (ik name c t10 t11 m t12 m2 m3):=by
 rcases aT h with⟨c1,h⟩|⟨c1,h⟩
 ·obtain⟨x2,bx2,h⟩:=aw h
  obtain⟨o5,bo5,h⟩:=aw h
  have p7:=fun{sc F} (r:PS sc F)=>sg 0 c1<|sv (aW.ia (k:=.i64) bx2)<|sv (cP xe (.str x2) [])<|kK 0<|cC (Eg name c t12 x2 t10 t11 m m2 m3 bo5)<|r
  rcases aT h with⟨c6,h⟩|⟨c6,h⟩
  ·obtain⟨l8,bl8,h⟩:=aw h
   obtain⟨x9,bx9,h⟩:=aw h
   obtain⟨l10,bl10,h⟩:=aw h
   obtain rfl:=lf h
   exact rY Re (p7<|sg 0 c6<|sv (aW.mk' (v:=PVal.str) CE ([x2]:List ag) 1 (by kernel_rfl))<|sv (aW.ap bl8)<|rp [0,1,0,4,0,28,60,124,255,511,1023]<|sv (cK c)<|sv (cM c)<|sv (aR.ia (k:=.i64) bx9)<|sv (az x9)<|sv (aR.mk' (v:=ce) aY ([x9]:List aa) 1 (by kernel_rfl))<|sv (aR.ap bl10)<|M0 (rfl:bR (sl ac l10)=some [sl ac l10])<|eF .normal (ik name c t10 t11 m (bA (t12+1)) l8 l10)) (by kernel_rfl)
  ·obtain rfl:=lf h
   exact rY Re (p7<|sg 0 c6<|eF .normal (ik name c t10 t11 m (bA (t12+1)) m2 m3)) (by kernel_rfl)
 ·obtain rfl:=lf h
  have z:=sg 0 c1<|eF (.exit 0) (qS m (m2,m3))
  exact gf Re (by intro hx;cases hx) z (by kernel_rfl)
theorem Eh{x:(waA×waB)}(h:u4 name c t10 t11 t12 m2 m3=some x):
  aB Pg GE 0 (.loop (cA SE 119)) (EX (.exit 0) (qS m x)) (ik name c t10 t11 m t12 m2 m3):=
 aB.loop (S:=fun(zz:Int×waA×waB)=>ik name c t10 t11 m zz.1 zz.2.1 zz.2.2) (ex:=(fun _=>.exit 0)) (s:=(t12,m2,m3)) h fun zz y hy=>C9 name c t10 t11 m zz.1 zz.2.1 zz.2.2 hy
end
def zA(c:aj)(name:ag):Option aj:=
 (u4 name c c.Names (c.Names.length:Int) 0 ([]:List ag) ([]:List aa)).bind fun o11=>
 some (⟨o11.1,o11.2⟩:aj)
theorem I6{c:aj}{name:ag}{r:aj}(h:zA c name=some r):CC Pg GE 92 [.agg (au c),.str name] (.agg (au r)) [(0,9),(1,28)]:=by
 obtain⟨o11,bo11,h⟩:=aw h
 obtain rfl:=lf h
 have z:=se (eU c)<|sx QX<|sb (gI) (gH)<|sx QX<|sy (cb (⟨([]:List ag),([]:List aa)⟩:aj))<|sv (lT c)<|sv (lU c)<|cD (aW.ln c.Names)<|cC (Eh name c c.Names (c.Names.length:Int) ([]:List aa) 0 ([]:List ag) ([]:List aa) bo11)<|sz (cG (⟨o11.1,o11.2⟩:aj) [])<|sy (cb (⟨o11.1,o11.2⟩:aj))<|en (aI (oA (⟨o11.1,o11.2⟩:aj))<|aI (cO (⟨o11.1,o11.2⟩:aj))<|rT)
 exact b7 Re Tryz.call92 Tryz.func92 (c:=SE) rfl (aI (cO c) (aI trivial trivial)) z (by kernel_rfl)
def SF:Code:=Tryz.f93.body.getD .skip
def Rx:List Nat:=[]
section
variable(name:ag)(t8:waB)(t9:Int)(t10:Int)
def iH:av:=aN 20 [(1,.str name),(8,sl ac t8),(9,.int .i64 t9),(10,.int .i64 t10)] [.dead] []
def iI(o:Unit⊕(Unit)):Exit:=match o with
 |(.inl _)=>.ret
 |(.inr _)=>.exit 0
def fX(o:Unit⊕(Unit)):av:=match o with
 |(.inl o)=>aN 20 [(4,.bool true)] [.dead] []
 |(.inr o)=>aN 20 [] [.dead] []
def oV:Option (Int⊕(Unit⊕(Unit))):=
 if(decide (t10<t9))=true then
  (dv t8 t10).bind fun x2=>
  (mV x2).bind fun r3=>
  (fp r3 name).bind fun r4=>
  if(decide (r4>=0))=true then
   some (.inr (.inl ()))
  else
   some (.inl (bA (t10+1)))
 else
  some (.inr (.inr ()))
def sZ:Option (Unit⊕(Unit)):=loop (fun(zz:Int)=>oV name t8 t9 zz) t10
theorem Bm{y:Int⊕(Unit⊕(Unit))}(h:oV name t8 t9 t10=some y):
  aB Pg GE 0 (cA SF 55) (LQ (fun(zz:Int)=>iH name t8 t9 zz) iI fX y) (iH name t8 t9 t10):=by
 rcases aT h with⟨c1,h⟩|⟨c1,h⟩
 ·obtain⟨x2,bx2,h⟩:=aw h
  obtain⟨r3,br3,h⟩:=aw h
  obtain⟨r4,br4,h⟩:=aw h
  have p6:=fun{sc F} (r:PS sc F)=>sg 0 c1<|sv (aR.ia (k:=.i64) bx2)<|sv (az x2)<|sx eX<|sx (bv x2)<|sv (aX x2 [])<|ba (uN br3)<|ba (kw br4)<|r
  rcases aT h with⟨c5,h⟩|⟨c5,h⟩
  ·obtain rfl:=lf h
   have z:=p6<|sg 0 c5<|pg 0 (iI (.inl ())) (fX (.inl ())) rfl (cF (aI trivial trivial)) (aI trivial trivial)
   exact tE (A:=Rx) mixed (by intro hx;cases hx) z (by kernel_rfl)
  ·obtain rfl:=lf h
   have z:=p6<|sg 0 c5<|pg 0 .normal (iH name t8 t9 (bA (t10+1))) rfl (cF (aI trivial (aI (up (am ah t8)) (aI trivial (aI trivial trivial))))) (aI trivial trivial)
   exact cz (A:=Rx) mixed z (by kernel_rfl)
 ·obtain rfl:=lf h
  have z:=sg 0 c1<|eF (iI (.inr ())) (fX (.inr ()))
  exact gf Rx (by intro hx;cases hx) z (by kernel_rfl)
theorem tU{x:Unit⊕(Unit)}(h:sZ name t8 t9 t10=some x):
  aB Pg GE 0 (.loop (cA SF 55)) (EX (iI x) (fX x)) (iH name t8 t9 t10):=
 aB.loop (S:=fun(zz:Int)=>iH name t8 t9 zz) (ex:=iI) (s:=t10) h fun zz y hy=>Bm name t8 t9 zz hy
end
def wn(c:aj)(name:ag):Option Bool:=
 (sZ name c.By (c.By.length:Int) 0).bind fun o7=>match o7 with
 |(.inl o7)=>
  some true
 |(.inr o7)=>
  some false
theorem HR{c:aj}{name:ag}{r:Bool}(h:wn c name=some r):CC Pg GE 93 [.agg (au c),.str name] (.bool r) []:=by
 obtain⟨o7,bo7,h⟩:=aw h
 rcases o7 with o7|o7
 ·obtain rfl:=lf h
  have z:=se (eU c)<|sv (cK c)<|sv (cM c)<|cD (aR.ln c.By)<|cC (e:=.ret) (s1:=fX (.inl o7)) (tU name c.By (c.By.length:Int) 0 bo7)<|en (aI (rP (.bool true))<|trivial)
  exact b7 Rx Tryz.call93 Tryz.func93 (c:=SF) rfl (aI (cO c) (aI trivial trivial)) z (by kernel_rfl)
 ·obtain rfl:=lf h
  have z:=se (eU c)<|sv (cK c)<|sv (cM c)<|cD (aR.ln c.By)<|cC (e:=.exit 0) (s1:=fX (.inr o7)) (tU name c.By (c.By.length:Int) 0 bo7)<|en (aI (rP (.bool false))<|trivial)
  exact b7 Rx Tryz.call93 Tryz.func93 (c:=SF) rfl (aI (cO c) (aI trivial trivial)) z (by kernel_rfl)
def L8:Code:=Tryz.f120.body.getD .skip
def Ki:List Nat:=[8,30]
section
variable(n:Int)(s:ag)(m:Int)(d:Int)
def Gb:av:=aN 31 [(0,.int .i64 n),(3,.str s),(4,.int .i64 m),(5,.int .i64 d)] [] []
def qG(o:Int):av:=aN 31 [(0,.int .i64 n),(3,.str s),(4,.int .i64 m),(5,.int .i64 o)] [] []
def pS:Option Int:=
 if(decide (d<0))=true then
  some (IntKind.i64.wrap (0 - d))
 else
  some d
theorem D1{x:Int}(h:pS d=some x):
  aB Pg GE 0 (cA L8 7926) (EX .normal (qG n s m x)) (Gb n s m d):=by
 rcases aT h with⟨c4,h⟩|⟨c4,h⟩
 ·obtain rfl:=lf h
  exact co Ki (sg 0 c4<|eF .normal (qG n s m (IntKind.i64.wrap (0 - d)))) (by kernel_rfl)
 ·obtain rfl:=lf h
  exact co Ki (sg 0 c4<|eF .normal (qG n s m d)) (by kernel_rfl)
end
section
variable(n:Int)(s:ag)(m:Int)
def jr:av:=aN 31 [(0,.int .i64 n),(3,.str s),(4,.int .i64 m)] [] []
def qH(o:ag):av:=aN 31 [(0,.int .i64 n),(3,.str o)] [] []
def jt:Option ((ag×Int)⊕(ag)):=
 if(m !=0)=true then
  (re m 10).bind fun q3=>
  (pS q3).bind fun o5=>
  (pe ([IntKind.u8.wrap (bA (48+o5))]:List Int)).bind fun s6=>
  (QL s6 s).bind fun s7=>
  (qu .i64 m 10).bind fun q8=>
  some (.inl (s7,q8))
 else
  some (.inr s)
def kv:Option ag:=loop (fun(zz:ag×Int)=>jt zz.1 zz.2) (s,m)
theorem CV{y:(ag×Int)⊕(ag)}(h:jt s m=some y):
  aB Pg GE 0 (cA L8 247) (LQ (fun(zz:ag×Int)=>jr n zz.1 zz.2) (fun _=>.exit 0) (qH n) y) (jr n s m):=by
 rcases aT h with⟨c2,h⟩|⟨c2,h⟩
 ·obtain⟨q3,bq3,h⟩:=aw h
  obtain⟨o5,bo5,h⟩:=aw h
  obtain⟨s6,bs6,h⟩:=aw h
  obtain⟨s7,bs7,h⟩:=aw h
  obtain⟨q8,bq8,h⟩:=aw h
  obtain rfl:=lf h
  exact rY Ki (sg 0 c2<|sv (R0 (P:=Pg) (t:=3) (k:=.i64) bq3)<|kK 0<|cC (D1 n s m q3 bo5)<|sv (UX Tryz.underlying3 Tryz.underlying5 (bA (48+o5)))<|sv (Sp.mk' (v:=(PVal.int .u8)) (Vc .u8) ([IntKind.u8.wrap (bA (48+o5))]:List Int) 1 (by kernel_rfl))<|sv (UW Tryz.underlying122 Tryz.underlying9 Tryz.underlying5 bs6)<|sv (IM (P:=Pg) (t:=9) bs7)<|sv (RZ (P:=Pg) (t:=3) bq8)<|eF .normal (jr n s7 q8)) (by kernel_rfl)
 ·obtain rfl:=lf h
  have z:=sg 0 c2<|eF (.exit 0) (qH n s)
  exact gf Ki (by intro hx;cases hx) z (by kernel_rfl)
theorem D2{x:ag}(h:kv s m=some x):
  aB Pg GE 0 (.loop (cA L8 247)) (EX (.exit 0) (qH n x)) (jr n s m):=
 aB.loop (S:=fun(zz:ag×Int)=>jr n zz.1 zz.2) (ex:=(fun _=>.exit 0)) (s:=(s,m)) h fun zz y hy=>CV n zz.1 zz.2 hy
end
def zp(n:Int):Option ag:=
 if(n==0)=true then
  some ([48]:ag)
 else
  (kv ([]:ag) n).bind fun o9=>
  if(decide (n<0))=true then
   (QL ([45]:ag) o9).bind fun s12=>
   some s12
  else
   some o9
theorem I1{n:Int}{r:ag}(h:zp n=some r):CC Pg GE 120 [.int .i64 n] (.str r) []:=by
 rcases aT h with⟨c1,h⟩|⟨c1,h⟩
 ·obtain rfl:=lf h
  have z:=sg 0 c1<|en (aI (rP (.str ([48]:ag)))<|trivial)
  exact b7 Ki Tryz.call120 Tryz.func120 (c:=L8) rfl (aI trivial trivial) z (by kernel_rfl)
 ·obtain⟨o9,bo9,h⟩:=aw h
  have p11:=fun{sc F} (r:PS sc F)=>sg 0 c1<|cC (D2 n ([]:ag) n bo9)<|r
  rcases aT h with⟨c10,h⟩|⟨c10,h⟩
  ·obtain⟨s12,bs12,h⟩:=aw h
   obtain rfl:=lf h
   have z:=p11<|sg 0 c10<|sv (IM (P:=Pg) (t:=9) bs12)<|en (aI (rP (.str s12))<|trivial)
   exact b7 Ki Tryz.call120 Tryz.func120 (c:=L8) rfl (aI trivial trivial) z (by kernel_rfl)
  ·obtain rfl:=lf h
   have z:=p11<|sg 0 c10<|en (aI (rP (.str o9))<|trivial)
   exact b7 Ki Tryz.call120 Tryz.func120 (c:=L8) rfl (aI trivial trivial) z (by kernel_rfl)
def Te:Code:=Tryz.f94.body.getD .skip
def SW:List Nat:=[7,18]
section
variable(used:waA)(base:ag)(s:ag)(n:Int)
def iC:av:=aN 19 [(0,sl cS used),(1,.str base),(5,.str s),(6,.int .i64 n)] [] []
def oL(o:ag):av:=aN 19 [(5,.str o)] [] []
def ck:Option ((ag×Int)⊕(ag)):=
 (fp used s).bind fun r1=>
 if(decide (r1>=0))=true then
  (zp n).bind fun r3=>
  (QL base r3).bind fun s4=>
  some (.inl (s4,bA (n+1)))
 else
  some (.inr s)
def gq:Option ag:=loop (fun(zz:ag×Int)=>ck used base zz.1 zz.2) (s,n)
theorem Bg{y:(ag×Int)⊕(ag)}(h:ck used base s n=some y):
  aB Pg GE 0 (cA Te 119) (LQ (fun(zz:ag×Int)=>iC used base zz.1 zz.2) (fun _=>.exit 0) oL y) (iC used base s n):=by
 obtain⟨r1,br1,h⟩:=aw h
 rcases aT h with⟨c2,h⟩|⟨c2,h⟩
 ·obtain⟨r3,br3,h⟩:=aw h
  obtain⟨s4,bs4,h⟩:=aw h
  obtain rfl:=lf h
  exact rY SW (ba (kw br1)<|sg 0 c2<|ba (I1 br3)<|sv (IM (P:=Pg) (t:=9) bs4)<|eF .normal (iC used base s4 (bA (n+1)))) (by kernel_rfl)
 ·obtain rfl:=lf h
  have z:=ba (kw br1)<|sg 0 c2<|eF (.exit 0) (oL s)
  exact gf SW (by intro hx;cases hx) z (by kernel_rfl)
theorem CX{x:ag}(h:gq used base s n=some x):
  aB Pg GE 0 (.loop (cA Te 119)) (EX (.exit 0) (oL x)) (iC used base s n):=
 aB.loop (S:=fun(zz:ag×Int)=>iC used base zz.1 zz.2) (ex:=(fun _=>.exit 0)) (s:=(s,n)) h fun zz y hy=>Bg used base zz.1 zz.2 hy
end
def wl(used:waA)(base:ag):Option ag:=
 (gq used base base 1).bind fun o5=>
 some o5
theorem HI{used:waA}{base:ag}{r:ag}(h:wl used base=some r):CC Pg GE 94 [sl cS used,.str base] (.str r) []:=by
 obtain⟨o5,bo5,h⟩:=aw h
 obtain rfl:=lf h
 have z:=cC (CX used base base 1 bo5)<|en (aI (rP (.str o5))<|trivial)
 exact b7 SW Tryz.call94 Tryz.func94 (c:=Te) rfl (aI (am dS used) (aI trivial trivial)) z (by kernel_rfl)
section
variable(v:waA)(lo:Int)(n:Nat)(t9:Int)(w0:List ag)(out:waA)(t10:Int)
def fS:av:=aN 33 [(0,sl cS v),(1,.bsl 0 (ir Pg 9 lo) n),(5,sl cS out),(9,.int .i64 t9),(10,.int .i64 t10)] [.cells (lS cS w0) []] [((5,0),9)]
def mb(o:waA):av:=aN 33 [(1,.bsl 0 (ir Pg 9 lo) n),(5,sl cS o)] [.cells (lS cS w0) []] [((5,0),9)]
def rq:Option ((waA×Int)⊕(waA)):=
 if(decide (t10<t9))=true then
  (dv v t10).bind fun x2=>
  (pV out x2).bind fun r3=>
  some (.inl (r3,bA (t10+1)))
 else
  some (.inr out)
def oM:Option waA:=loop (fun(zz:waA×Int)=>rq v t9 zz.1 zz.2) (out,t10)
theorem yk{y:(waA×Int)⊕(waA)}(h:rq v t9 out t10=some y):
  aB Pg GE 1 (cA OP 119) (LQ (fun(zz:waA×Int)=>fS v lo n t9 w0 zz.1 zz.2) (fun _=>.exit 0) (mb lo n w0) y) (fS v lo n t9 w0 out t10):=by
 rcases aT h with⟨c1,h⟩|⟨c1,h⟩
 ·obtain⟨x2,bx2,h⟩:=aw h
  obtain⟨r3,br3,h⟩:=aw h
  obtain rfl:=lf h
  exact rY OO (sg 0 c1<|sv (aW.ia (k:=.i64) bx2)<|sv (cP xe (.str x2) [])<|ba (sS br3)<|eF .normal (fS v lo n t9 w0 r3 (bA (t10+1)))) (by kernel_rfl)
 ·obtain rfl:=lf h
  have z:=sg 0 c1<|eF (.exit 0) (mb lo n w0 out)
  exact gf OO (by intro hx;cases hx) z (by kernel_rfl)
theorem zq{x:waA}(h:oM v t9 out t10=some x):
  aB Pg GE 1 (.loop (cA OP 119)) (EX (.exit 0) (mb lo n w0 x)) (fS v lo n t9 w0 out t10):=
 aB.loop (S:=fun(zz:waA×Int)=>fS v lo n t9 w0 zz.1 zz.2) (ex:=(fun _=>.exit 0)) (s:=(out,t10)) h fun zz y hy=>yk v lo n t9 w0 zz.1 zz.2 hy
end
section
variable(lo:Int)(n:Nat)(t21:Int)(w0:List ag)(out:waA)(t22:Int)
def fT:av:=aN 33 [(1,.bsl 0 (ir Pg 9 lo) n),(5,sl cS out),(21,.int .i64 t21),(22,.int .i64 t22)] [.cells (lS cS w0) []] [((5,0),9)]
def mc(o:waA):av:=aN 33 [(5,sl cS o)] [.cells (lS cS w0) []] [((5,0),9)]
def eK:Option ((waA×Int)⊕(waA)):=
 if(decide (t22<t21))=true then
  (QP lo n w0 t22).bind fun x6=>
  (pV out x6).bind fun r7=>
  some (.inl (r7,bA (t22+1)))
 else
  some (.inr out)
def kP:Option waA:=loop (fun(zz:waA×Int)=>eK lo n t21 w0 zz.1 zz.2) (out,t22)
theorem yl{y:(waA×Int)⊕(waA)}(h:eK lo n t21 w0 out t22=some y):
  aB Pg GE 1 (cA OP 247) (LQ (fun(zz:waA×Int)=>fT lo n t21 w0 zz.1 zz.2) (fun _=>.exit 2) (mc w0) y) (fT lo n t21 w0 out t22):=by
 rcases aT h with⟨c5,h⟩|⟨c5,h⟩
 ·obtain⟨x6,bx6,h⟩:=aw h
  obtain⟨r7,br7,h⟩:=aw h
  obtain rfl:=lf h
  exact rY OO (sg 0 c5<|sv (aW.iaM 0 (k:=.i64) bx6)<|sv (aW.ldM (fun r=>cP xe (.str x6) r) bx6)<|ba (sS br7)<|eF .normal (fT lo n t21 w0 r7 (bA (t22+1)))) (by kernel_rfl)
 ·obtain rfl:=lf h
  have z:=sg 0 c5<|eF (.exit 2) (mc w0 out)
  exact gf OO (by intro hx;cases hx) z (by kernel_rfl)
theorem zr{x:waA}(h:kP lo n t21 w0 out t22=some x):
  aB Pg GE 1 (.loop (cA OP 247)) (EX (.exit 2) (mc w0 x)) (fT lo n t21 w0 out t22):=
 aB.loop (S:=fun(zz:waA×Int)=>fT lo n t21 w0 zz.1 zz.2) (ex:=(fun _=>.exit 2)) (s:=(out,t22)) h fun zz y hy=>yl lo n t21 w0 zz.1 zz.2 hy
end
def pU(a:waA)(lo:Int)(n:Nat)(k0:List ag):Option waA:=
 (oM a (a.length:Int) ([]:List ag) 0).bind fun o4=>
 (kP lo n (n:Int) k0 o4 0).bind fun o8=>
 some o8
theorem D3{a:waA}{lo:Int}{n:Nat}{k0:List ag}{r:waA}(h:pU a lo n k0=some r):C Pg GE 33 [sl cS a,.bsl 0 (ir Pg 9 lo) n] [] [.cells (lS cS k0) []] (sl cS r) [(0,9)] [.cells (lS cS k0) []]:=by
 obtain⟨o4,bo4,h⟩:=aw h
 obtain⟨o8,bo8,h⟩:=aw h
 obtain rfl:=lf h
 have z:=cD (aW.ln a)<|cC (zq a lo n (a.length:Int) k0 ([]:List ag) 0 bo4)<|cD (aW.lnR 0 (ir Pg 9 lo) n)<|cC (zr lo n (n:Int) k0 o4 0 bo8)<|en (aI (rP (sl cS o8))<|aI (up (n:=1) (am dS o8))<|aI (rL [.cells (lS cS k0) []])<|(aI (OS 1 dS k0) trivial))
 exact C.evGp (A:=OO) mixed (m:=1) (c:=OP) rfl Tryz.call33 Tryz.func33 rfl z (by kernel_rfl)
def Rh:Code:=Tryz.f51.body.getD .skip
def OZ:List Nat:=[31,43,62,66,117,127]
section
variable(t:ae)(t24:waB)(t25:Int)(m:waA)(m2:waB)(m3:waC)(m4:waB)(m5:Int)(m6:ag)(m7:Int)(m8:ag)(m9:Int)(m10:waB)(t26:Int)(m11:waB)
def fU:av:=aN 139 [(2,.eptr (af t)),(3,.bptr 1 0),(4,.bptr 2 0),(5,.bptr 3 0),(24,sl ac t24),(25,.int .i64 t25),(26,.int .i64 t26)] [.dead,.cells [sl cS m,sl ac m2] [],.cells [.int .i64 0,.str ([]:ag),sl af m3,sl cS ([]:List ag),.int .i64 0,.str ([]:ag),.int .i64 0,sl ac m4,sl ac m4] [(2,30),(3,9),(7,28),(8,28)],.cells [.int .i64 m5,.str m6,sl af m3,sl cS ([]:List ag),.int .i64 m7,.str m8,.int .i64 m9,sl ac m10,sl ac m11] [(2,30),(3,9),(8,28)]] []
def mg(o:waB):av:=aN 139 [(2,.eptr (af t)),(3,.bptr 1 0),(4,.bptr 2 0),(5,.bptr 3 0)] [.dead,.cells [sl cS m,sl ac m2] [],.cells [.int .i64 0,.str ([]:ag),sl af m3,sl cS ([]:List ag),.int .i64 0,.str ([]:ag),.int .i64 0,sl ac m4,sl ac m4] [(2,30),(3,9),(7,28),(8,28)],.cells [.int .i64 m5,.str m6,sl af m3,sl cS ([]:List ag),.int .i64 m7,.str m8,.int .i64 m9,sl ac m10,sl ac o] [(2,30),(3,9),(8,28)]] []
def rt:Option ((Int×waB)⊕(waB)):=
 if(decide (t26<t25))=true then
  (dv t24 t26).bind fun x3=>
  (kV x3 m m2).bind fun r4=>
  (app m11 ([r4]:List aa)).bind fun l5=>
  some (.inl (bA (t26+1),l5))
 else
  some (.inr m11)
def la:Option waB:=loop (fun(zz:Int×waB)=>rt t24 t25 m m2 zz.1 zz.2) (t26,m11)
theorem yy{y:(Int×waB)⊕(waB)}(h:rt t24 t25 m m2 t26 m11=some y):
  aB Pg GE 0 (cA Rh 119) (LQ (fun(zz:Int×waB)=>fU t t24 t25 m m2 m3 m4 m5 m6 m7 m8 m9 m10 zz.1 zz.2) (fun _=>.exit 0) (mg t m m2 m3 m4 m5 m6 m7 m8 m9 m10) y) (fU t t24 t25 m m2 m3 m4 m5 m6 m7 m8 m9 m10 t26 m11):=by
 rcases aT h with⟨c2,h⟩|⟨c2,h⟩
 ·obtain⟨x3,bx3,h⟩:=aw h
  obtain⟨r4,br4,h⟩:=aw h
  obtain⟨l5,bl5,h⟩:=aw h
  obtain rfl:=lf h
  have z:=sg 0 c2<|sv (aR.ia (k:=.i64) bx3)<|sv (az x3)<|sx eX<|sx (bv x3)<|rp [0,1,0,0,8,0,32,124,252,511,1023,2047]<|sv (aX x3 [])<|ss<|ss<|ba (tS br4)<|sv (aR.mk' (v:=ce) aY ([r4]:List aa) 1 (by kernel_rfl))<|sv (aR.ap bl5)<|M0 (rfl:bR (sl ac l5)=some [sl ac l5])<|pg 0 .normal (fU t t24 t25 m m2 m3 m4 m5 m6 m7 m8 m9 m10 (bA (t26+1)) l5) rfl (cF (aI (lq (al t)) (aI (cV rfl) (aI (cV rfl) (aI (cV rfl) (aI (up (am ah t24)) (aI trivial (aI trivial trivial)))))))) (aI trivial (aI (aI (up (am dS m)) (aI (up (am ah m2)) trivial)) (aI (aI trivial (aI trivial (aI (up (am al m3)) (aI (up (am dS ([]:List ag))) (aI trivial (aI trivial (aI trivial (aI (up (am ah m4)) (aI (up (am ah m4)) trivial))))))))) (aI (aI trivial (aI trivial (aI (up (am al m3)) (aI (up (am dS ([]:List ag))) (aI trivial (aI trivial (aI trivial (aI (up (am ah m10)) (aI (up (am ah l5)) trivial))))))))) trivial))))
  exact cz (A:=OZ) mixed z (by kernel_rfl)
 ·obtain rfl:=lf h
  have z:=sg 0 c2<|eF (.exit 0) (mg t m m2 m3 m4 m5 m6 m7 m8 m9 m10 m11)
  exact gf OZ (by intro hx;cases hx) z (by kernel_rfl)
theorem zx{x:waB}(h:la t24 t25 m m2 t26 m11=some x):
  aB Pg GE 0 (.loop (cA Rh 119)) (EX (.exit 0) (mg t m m2 m3 m4 m5 m6 m7 m8 m9 m10 x)) (fU t t24 t25 m m2 m3 m4 m5 m6 m7 m8 m9 m10 t26 m11):=
 aB.loop (S:=fun(zz:Int×waB)=>fU t t24 t25 m m2 m3 m4 m5 m6 m7 m8 m9 m10 zz.1 zz.2) (ex:=(fun _=>.exit 0)) (s:=(t26,m11)) h fun zz y hy=>yy t t24 t25 m m2 m3 m4 m5 m6 m7 m8 m9 m10 zz.1 zz.2 hy
end
section
variable(t:ae)(used:waA)(i:Int)(t58:waC)(t59:Int)(m:waA)(m2:waB)(m3:waC)(m4:waB)(m5:Int)(m6:ag)(m7:waC)(n:Nat)(m8:Int)(m9:ag)(m10:Int)(m11:waB)(m12:waB)(w4:List ag)(m13:Int)(m14:ag)(m15:waC)(m16:waA)(m17:Int)(m18:ag)(m19:Int)(m20:waB)(m21:waB)
def Bl:av:=aN 139 [(2,.eptr (af t)),(3,.bptr 1 0),(4,.bptr 2 0),(5,.bptr 3 0),(8,sl cS used),(9,.int .i64 i),(58,sl af t58),(59,.int .i64 t59),(60,.int .i64 i)] [.dead,.cells [sl cS m,sl ac m2] [],.cells [.int .i64 0,.str ([]:ag),sl af m3,sl cS ([]:List ag),.int .i64 0,.str ([]:ag),.int .i64 0,sl ac m4,sl ac m4] [(2,30),(3,9),(7,28),(8,28)],.cells [.int .i64 m5,.str m6,sl af m7,.bsl 4 0 n,.int .i64 m8,.str m9,.int .i64 m10,sl ac m11,sl ac m12] [(2,30),(8,28)],.cells (lS cS w4) [],.cells [.int .i64 m13,.str m14,sl af m15,sl cS m16,.int .i64 m17,.str m18,.int .i64 m19,sl ac m20,sl ac m21] []] [((8,0),9)]
def mf(o:Bool):av:=aN 139 [(2,.eptr (af t)),(3,.bptr 1 0),(4,.bptr 2 0),(5,.bptr 3 0),(8,sl cS used),(9,.int .i64 i),(58,sl af t58),(59,.int .i64 t59),(60,.int .i64 i),(82,.bool o)] [.dead,.cells [sl cS m,sl ac m2] [],.cells [.int .i64 0,.str ([]:ag),sl af m3,sl cS ([]:List ag),.int .i64 0,.str ([]:ag),.int .i64 0,sl ac m4,sl ac m4] [(2,30),(3,9),(7,28),(8,28)],.cells [.int .i64 m5,.str m6,sl af m7,.bsl 4 0 n,.int .i64 m8,.str m9,.int .i64 m10,sl ac m11,sl ac m12] [(2,30),(8,28)],.cells (lS cS w4) [],.cells [.int .i64 m13,.str m14,sl af m15,sl cS m16,.int .i64 m17,.str m18,.int .i64 m19,sl ac m20,sl ac m21] []] [((8,0),9)]
def oT:Option Bool:=
 if(t.Op !=6)=true then
  some true
 else
  some (decide (i>=(t.Names.length:Int)))
theorem zw{x:Bool}(h:oT t i=some x):
  aB Pg GE 0 (cA Rh 260060) (EX .normal (mf t used i t58 t59 m m2 m3 m4 m5 m6 m7 n m8 m9 m10 m11 m12 w4 m13 m14 m15 m16 m17 m18 m19 m20 m21 x)) (Bl t used i t58 t59 m m2 m3 m4 m5 m6 m7 n m8 m9 m10 m11 m12 w4 m13 m14 m15 m16 m17 m18 m19 m20 m21):=by
 have p17:=fun{sc F} (r:PS sc F)=>sv (aG t)<|sv (aJ t)<|r
 rcases aT h with⟨c16,h⟩|⟨c16,h⟩
 ·obtain rfl:=lf h
  exact co OZ (p17<|sg 4 c16<|eF .normal (mf t used i t58 t59 m m2 m3 m4 m5 m6 m7 n m8 m9 m10 m11 m12 w4 m13 m14 m15 m16 m17 m18 m19 m20 m21 true)) (by kernel_rfl)
 ·obtain rfl:=lf h
  exact co OZ (p17<|sg 4 c16<|sv (aC t)<|sv (aD t)<|cD (aW.ln t.Names)<|eF .normal (mf t used i t58 t59 m m2 m3 m4 m5 m6 m7 n m8 m9 m10 m11 m12 w4 m13 m14 m15 m16 m17 m18 m19 m20 m21 (decide (i>=(t.Names.length:Int))))) (by kernel_rfl)
end
section
variable(R82:mK)(t:ae)(t58:waC)(t59:Int)(m3:waC)(m4:waB)(m5:Int)(m6:ag)(n:Nat)(m8:Int)(m9:ag)(m10:Int)(m11:waB)(m12:waB)(used:waA)(t60:Int)(m:waA)(m2:waB)(m7:waC)(w4:List ag)
def dR:av:=aN 139 [(2,.eptr (af t)),(3,.bptr 1 0),(4,.bptr 2 0),(5,.bptr 3 0),(8,sl cS used),(58,sl af t58),(59,.int .i64 t59),(60,.int .i64 t60)] [.dead,.cells [sl cS m,sl ac m2] [],.cells [.int .i64 0,.str ([]:ag),sl af m3,sl cS ([]:List ag),.int .i64 0,.str ([]:ag),.int .i64 0,sl ac m4,sl ac m4] [(2,30),(3,9),(7,28),(8,28)],.cells [.int .i64 m5,.str m6,sl af m7,.bsl 4 0 n,.int .i64 m8,.str m9,.int .i64 m10,sl ac m11,sl ac m12] [(2,30),(8,28)],.cells (lS cS w4) []] [((8,0),9)]
def mh(o:waA×waB×waC×List ag):av:=aN 139 [(4,.bptr 2 0),(5,.bptr 3 0)] [.dead,.cells [sl cS o.1,sl ac o.2.1] [],.cells [.int .i64 0,.str ([]:ag),sl af m3,sl cS ([]:List ag),.int .i64 0,.str ([]:ag),.int .i64 0,sl ac m4,sl ac m4] [(2,30),(3,9),(7,28),(8,28)],.cells [.int .i64 m5,.str m6,sl af o.2.2.1,.bsl 4 0 n,.int .i64 m8,.str m9,.int .i64 m10,sl ac m11,sl ac m12] [(2,30),(8,28)],.cells (lS cS o.2.2.2) []] []
def dm:Option ((waA×Int×waA×waB×waC×List ag)⊕((waA×waB×waC×List ag))):=
 if (decide (t60 < t59)) = true then
  (dv t58 t60).bind fun x13=>
  (R82 x13 (⟨m,m2⟩:aj)).bind fun r14=>
  (app m7 ([r14]:List ae)).bind fun l15=>
  (oT t t60).bind fun o18=>
  if o18=true then
   some (.inl (used,bA (t60+1),m,m2,l15,w4))
  else
   (dv t.Names t60).bind fun x21=>
   (zA (⟨m,m2⟩:aj) x21).bind fun r22=>
   (dv t.Names t60).bind fun x23=>
   (wn r22 x23).bind fun r24=>
   if r24=true then
    (dv t.Names t60).bind fun x27=>
    (wl used x27).bind fun r28=>
    (Nb n w4 t60).bind fun x29=>
    (Q6 w4 t60 r28).bind fun l30=>
    (OD n t60 (bA (t60+1))).bind fun n31=>
    (pU used t60 n31 l30).bind fun r32=>
    (dv t.Names t60).bind fun x33=>
    (app r22.Names ([x33]:List ag)).bind fun l34=>
    (Nb n l30 t60).bind fun x35=>
    (app r22.By ([(⟨3,x35,0,([]:List aa)⟩:aa)]:List aa)).bind fun l36=>
    some (.inl (r32,bA (t60+1),l34,l36,l15,l30))
   else
    some (.inl (used,bA (t60+1),r22.Names,r22.By,l15,w4))
 else
  some (.inr (m,m2,m7,w4))
def oU:Option ((waA×waB×waC×List ag)):=loop (fun(zz:waA×Int×waA×waB×waC×List ag)=>dm R82 t t58 t59 n zz.1 zz.2.1 zz.2.2.1 zz.2.2.2.1 zz.2.2.2.2.1 zz.2.2.2.2.2) (used,t60,m,m2,m7,w4)
theorem yz(hR82:qD R82){y:(waA×Int×waA×waB×waC×List ag)⊕((waA×waB×waC×List ag))}(h:dm R82 t t58 t59 n used t60 m m2 m7 w4=some y):
  aB Pg GE 0 (cA Rh 1015) (LQ (fun(zz:waA×Int×waA×waB×waC×List ag)=>dR t t58 t59 m3 m4 m5 m6 n m8 m9 m10 m11 m12 zz.1 zz.2.1 zz.2.2.1 zz.2.2.2.1 zz.2.2.2.2.1 zz.2.2.2.2.2) (fun _=>.exit 2) (mh m3 m4 m5 m6 n m8 m9 m10 m11 m12) y) (dR t t58 t59 m3 m4 m5 m6 n m8 m9 m10 m11 m12 used t60 m m2 m7 w4):=by
 rcases aT h with⟨c12,h⟩|⟨c12,h⟩
 ·obtain⟨x13,bx13,h⟩:=aw h
  obtain⟨r14,br14,h⟩:=aw h
  obtain⟨l15,bl15,h⟩:=aw h
  obtain⟨o18,bo18,h⟩:=aw h
  have p20:=fun{sc F} (r:PS sc F)=>sg 0 c12<|sv (d5.ia (k:=.i64) bx13)<|sv (bh x13)<|sx jh<|sx (db x13)<|rp [0,1,0,0,12,28,63,127,255]<|sv (bz x13 [])<|sv (cG (⟨m,m2⟩:aj) [])<|ba (hR82 _ _ _ br14)<|sv (d5.mk' (v:=tR) oH ([r14]:List ae) 1 (by kernel_rfl))<|sv (d5.ap bl15)<|M0 (rfl:bR (sl af l15)=some [sl af l15])<|kK 1<|cC (zw t used t60 t58 t59 m m2 m3 m4 m5 m6 l15 n m8 m9 m10 m11 m12 w4 x13.Op x13.Name x13.Args x13.Names x13.Pred.Op x13.Pred.Name x13.Pred.N x13.Pred.Kids x13.Preds bo18)<|r
  rcases aT h with⟨c19,h⟩|⟨c19,h⟩
  ·obtain rfl:=lf h
   have z:=p20<|sg 0 c19<|pg 0 .normal (dR t t58 t59 m3 m4 m5 m6 n m8 m9 m10 m11 m12 used (bA (t60+1)) m m2 l15 w4) rfl (cF (aI (lq (al t)) (aI (cV rfl) (aI (cV rfl) (aI (cV rfl) (aI (up (am dS used)) (aI (up (am al t58)) (aI trivial (aI trivial trivial))))))))) (aI trivial (aI (aI (up (am dS m)) (aI (up (am ah m2)) trivial)) (aI (aI trivial (aI trivial (aI (up (am al m3)) (aI (up (am dS ([]:List ag))) (aI trivial (aI trivial (aI trivial (aI (up (am ah m4)) (aI (up (am ah m4)) trivial))))))))) (aI (aI trivial (aI trivial (aI (up (am al l15)) (aI (cV rfl) (aI trivial (aI trivial (aI trivial (aI (up (am ah m11)) (aI (up (am ah m12)) trivial))))))))) (aI (OS _ dS w4) trivial)))))
   exact cz (A:=OZ) mixed z (by kernel_rfl)
  ·obtain⟨x21,bx21,h⟩:=aw h
   obtain⟨r22,br22,h⟩:=aw h
   obtain⟨x23,bx23,h⟩:=aw h
   obtain⟨r24,br24,h⟩:=aw h
   have p26:=fun{sc F} (r:PS sc F)=>p20<|sg 0 c19<|rp [0,0,2,0,14,30,63,127]<|sv (cG (⟨m,m2⟩:aj) [])<|sv (aC t)<|sv (aD t)<|sv (aW.ia (k:=.i64) bx21)<|sv (cP xe (.str x21) [])<|ba (I6 br22)<|OG (iw r22)<|rp [0,0,2,0,14,30,63]<|sv (cG r22 [])<|sv (aC t)<|sv (aD t)<|sv (aW.ia (k:=.i64) bx23)<|sv (cP xe (.str x23) [])<|ba (HR br24)<|r
   rcases aT h with⟨c25,h⟩|⟨c25,h⟩
   ·obtain⟨x27,bx27,h⟩:=aw h
    obtain⟨r28,br28,h⟩:=aw h
    obtain⟨x29,bx29,h⟩:=aw h
    obtain⟨l30,bl30,h⟩:=aw h
    obtain⟨n31,bn31,h⟩:=aw h
    obtain⟨r32,br32,h⟩:=aw h
    obtain⟨x33,bx33,h⟩:=aw h
    obtain⟨l34,bl34,h⟩:=aw h
    obtain⟨x35,bx35,h⟩:=aw h
    obtain⟨l36,bl36,h⟩:=aw h
    obtain rfl:=lf h
    have z:=p26<|sg 0 c25<|Tz (.dx [0,1,0,0,0,16,0,112,240,504,1023,2047] [] [] [4])<|ss<|sv (aC t)<|sv (aD t)<|sv (aW.ia (k:=.i64) bx27)<|sv (cP xe (.str x27) [])<|ba (HI br28)<|sv (aW.iaN 4 (k:=.i64) bx29)<|Uj (aW.stR (CE r28) bl30)<|ss<|sv (aW.scN 4 bn31)<|si (.cg ⟨[4],[sl cS used,.bsl 0 (ir Pg 9 t60) n31],[],[.cells (lS cS l30) []],[.cells (lS cS l30) []],[.cells (lS cS l30) []],[.cells (lS cS l30) []],sl cS r32,sl cS r32,[(0,9)]⟩) (D3 br32)<|sf (aI (xR [4] (sl cS used) (am dS used)) (aI (xS [4] 0 4 (ir Pg 9 t60) n31 rfl) trivial))<|sf (aI (aI (rB (.cells (lS cS l30) [])) (aI (rW []) (TK [4] _ (OS 0 dS l30)))) trivial)<|sf (aI (aI (rW []) (TK [4] _ (OS 0 dS l30))) trivial)<|sf (xR [4] (sl cS r32) (am dS r32))<|rp [0,1,0,4,0,28,60,124,255,511,1023]<|sv (aC t)<|sv (aD t)<|sv (aW.ia (k:=.i64) bx33)<|sv (cP xe (.str x33) [])<|sv (aW.mk' (v:=PVal.str) CE ([x33]:List ag) 1 (by kernel_rfl))<|sv (aW.ap bl34)<|M0 (rfl:bR (sl cS l34)=some [sl cS l34])<|rp [0,1,0,4,0,28,60,124,252,511,1023,2047]<|ss<|sv (aW.iaN 4 (k:=.i64) bx35)<|sv (aW.ldN (fun r=>cP xe (.str x35) r) bx35)<|sb (lm 3 x35) (ll 3 x35)<|sv (aR.mk' (v:=ce) aY ([(⟨3,x35,0,([]:List aa)⟩:aa)]:List aa) 1 (by kernel_rfl))<|sv (aR.ap bl36)<|M0 (rfl:bR (sl ac l36)=some [sl ac l36])<|pg 0 .normal (dR t t58 t59 m3 m4 m5 m6 n m8 m9 m10 m11 m12 r32 (bA (t60+1)) l34 l36 l15 l30) rfl (cF (aI (lq (al t)) (aI (cV rfl) (aI (cV rfl) (aI (cV rfl) (aI (up (am dS r32)) (aI (up (am al t58)) (aI trivial (aI trivial trivial))))))))) (aI trivial (aI (aI (up (am dS l34)) (aI (up (am ah l36)) trivial)) (aI (aI trivial (aI trivial (aI (up (am al m3)) (aI (up (am dS ([]:List ag))) (aI trivial (aI trivial (aI trivial (aI (up (am ah m4)) (aI (up (am ah m4)) trivial))))))))) (aI (aI trivial (aI trivial (aI (up (am al l15)) (aI (cV rfl) (aI trivial (aI trivial (aI trivial (aI (up (am ah m11)) (aI (up (am ah m12)) trivial))))))))) (aI (OS _ dS l30) trivial)))))
    exact cz (A:=OZ) mixed z (by kernel_rfl)
   ·obtain rfl:=lf h
    have z:=p26<|sg 0 c25<|pg 0 .normal (dR t t58 t59 m3 m4 m5 m6 n m8 m9 m10 m11 m12 used (bA (t60+1)) r22.Names r22.By l15 w4) rfl (cF (aI (lq (al t)) (aI (cV rfl) (aI (cV rfl) (aI (cV rfl) (aI (up (am dS used)) (aI (up (am al t58)) (aI trivial (aI trivial trivial))))))))) (aI trivial (aI (aI (up (am dS r22.Names)) (aI (up (am ah r22.By)) trivial)) (aI (aI trivial (aI trivial (aI (up (am al m3)) (aI (up (am dS ([]:List ag))) (aI trivial (aI trivial (aI trivial (aI (up (am ah m4)) (aI (up (am ah m4)) trivial))))))))) (aI (aI trivial (aI trivial (aI (up (am al l15)) (aI (cV rfl) (aI trivial (aI trivial (aI trivial (aI (up (am ah m11)) (aI (up (am ah m12)) trivial))))))))) (aI (OS _ dS w4) trivial)))))
    exact cz (A:=OZ) mixed z (by kernel_rfl)
 ·obtain rfl:=lf h
  have z:=sg 0 c12<|eF (.exit 2) (mh m3 m4 m5 m6 n m8 m9 m10 m11 m12 (m,m2,m7,w4))
  exact gf OZ (by intro hx;cases hx) z (by kernel_rfl)
theorem zy(hR82:qD R82){x:(waA×waB×waC×List ag)}(h:oU R82 t t58 t59 n used t60 m m2 m7 w4=some x):
  aB Pg GE 0 (.loop (cA Rh 1015)) (EX (.exit 2) (mh m3 m4 m5 m6 n m8 m9 m10 m11 m12 x)) (dR t t58 t59 m3 m4 m5 m6 n m8 m9 m10 m11 m12 used t60 m m2 m7 w4):=
 aB.loop (S:=fun(zz:waA×Int×waA×waB×waC×List ag)=>dR t t58 t59 m3 m4 m5 m6 n m8 m9 m10 m11 m12 zz.1 zz.2.1 zz.2.2.1 zz.2.2.2.1 zz.2.2.2.2.1 zz.2.2.2.2.2) (ex:=(fun _=>.exit 2)) (s:=(used,t60,m,m2,m7,w4)) h fun zz y hy=>yz R82 t t58 t59 m3 m4 m5 m6 n m8 m9 m10 m11 m12 zz.1 zz.2.1 zz.2.2.1 zz.2.2.2.1 zz.2.2.2.2.1 zz.2.2.2.2.2 hR82 hy
end
def mJ(R82:mK)(t:ae)(c:aj):Option ae:=
 (kV t.Pred c.Names c.By).bind fun r1=>
 (la t.Preds (t.Preds.length:Int) c.Names c.By 0 ([]:List aa)).bind fun o6=>
 (app [] t.Names).bind fun l7=>
 (wo c.By).bind fun r8=>
 (Ea t).bind fun r9=>
 (d9 r8 r9).bind fun r10=>
 (d9 r10 t.Names).bind fun r11=>
 (oU R82 t t.Args (t.Args.length:Int) l7.length r11 0 c.Names c.By ([]:List ae) l7).bind fun o37=>
 (QO l7.length o37.2.2.2).bind fun l38=>
 some (⟨t.Op,t.Name,o37.2.2.1,l38,r1,o6⟩:ae)
theorem C8(R82:mK)(hR82:qD R82){t:ae}{c:aj}{r:ae}(h:mJ R82 t c=some r):CC Pg GE 51 [.agg (af t),.agg (au c)] (.agg (af r)) [(2,30),(8,28)]:=by
 obtain⟨r1,br1,h⟩:=aw h
 obtain⟨o6,bo6,h⟩:=aw h
 obtain⟨l7,bl7,h⟩:=aw h
 obtain⟨r8,br8,h⟩:=aw h
 obtain⟨r9,br9,h⟩:=aw h
 obtain⟨r10,br10,h⟩:=aw h
 obtain⟨r11,br11,h⟩:=aw h
 obtain⟨o37,bo37,h⟩:=aw h
 obtain⟨l38,bl38,h⟩:=aw h
 obtain rfl:=lf h
 have z:=se (bQ t)<|sx (iw c)<|sx jh<|rp [0,1,0,4,0,16,0,64,0,256,1008,2047,0,8191]<|sv (aG t)<|sv (aJ t)<|sv (dc t)<|sv (dC t)<|sv (bU t)<|sv (bX t)<|ss<|ss<|ba (tS br1)<|sb (Et t.Op t.Name r1) (Er t.Op t.Name r1)<|OG (db (⟨t.Op,t.Name,([]:List ae),([]:List ag),r1,([]:List aa)⟩:ae))<|sv (bN t)<|sv (bO t)<|cD (aR.ln t.Preds)<|cC (zx t t.Preds (t.Preds.length:Int) c.Names c.By ([]:List ae) ([]:List aa) t.Op t.Name r1.Op r1.Name r1.N r1.Kids 0 ([]:List aa) bo6)<|sv (aC t)<|sv (aD t)<|Uh 4 9 (aW.apR bl7)<|ss<|rp [0,1,3,0,15,31,0,64,255,511]<|ss<|ba (HS br8)<|sv (bh t)<|ba (I5 br9)<|ba (i7 br10)<|sv (aC t)<|sv (aD t)<|ba (i7 br11)<|sv (aK t)<|sv (aL t)<|cD (d5.ln t.Args)<|cC (zy R82 t t.Args (t.Args.length:Int) ([]:List ae) ([]:List aa) t.Op t.Name l7.length r1.Op r1.Name r1.N r1.Kids o6 r11 0 c.Names c.By ([]:List ae) l7 hR82 bo37)<|SL 4 (l38.map cS) [4,5] [] (aW.fz1 (m:=0) (b:=4) rfl l38) (aW.fz2 4 l38) (T8 cS bl38)<|sf (GB 4 (p:=sl cS o37.1) (am dS o37.1))<|sf (GB 4 (p:=sl ac o37.2.1) (am ah o37.2.1))<|sf (GB 4 (p:=sl af ([]:List ae)) (am al ([]:List ae)))<|sf (GB 4 (p:=sl cS ([]:List ag)) (am dS ([]:List ag)))<|sf (GB 4 (p:=sl ac ([]:List aa)) (am ah ([]:List aa)))<|sf (GB 4 (p:=sl ac ([]:List aa)) (am ah ([]:List aa)))<|sf (GB 4 (p:=sl af o37.2.2.1) (am al o37.2.2.1))<|sf (T9 cS bl38)<|sf (GB 4 (p:=sl ac r1.Kids) (am ah r1.Kids))<|sf (GB 4 (p:=sl ac o6) (am ah o6))<|sz (bz (⟨t.Op,t.Name,o37.2.2.1,l38,r1,o6⟩:ae) [])<|sy (aS (⟨t.Op,t.Name,o37.2.2.1,l38,r1,o6⟩:ae))<|en (aI (cR (⟨t.Op,t.Name,o37.2.2.1,l38,r1,o6⟩:ae))<|aI (al (⟨t.Op,t.Name,o37.2.2.1,l38,r1,o6⟩:ae))<|rT)
 exact b7 OZ Tryz.call51 Tryz.func51 (c:=Rh) rfl (aI (al t) (aI (cO c) trivial)) z (by kernel_rfl)
def qQ:((ae×aj)->Option ae)->(ae×aj)->Option ae:=fun(rec:(ae×aj)->Option ae) (x:ae×aj)=>mJ (fun t c=>rec (t,c)) x.1 x.2
def uZ(t:ae)(c:aj):Option ae:=nw qQ (t,c)
theorem Ef{t:ae}{c:aj}{r:ae}(h:uZ t c=some r):CC Pg GE 51 [.agg (af t),.agg (au c)] (.agg (af r)) [(2,30),(8,28)]:=
 cT (F:=qQ) (M:=fun(x:ae×aj) (r:ae)=>CC Pg GE 51 [.agg (af x.1),.agg (au x.2)] (.agg (af r)) [(2,30),(8,28)]) (fun rec hrec x r h=>C8 _ (fun t c r h=>hrec (t,c) r h) h) h
def Sy:Code:=Tryz.f16.body.getD .skip
def Qn:List Nat:=[15,34,40]
section
variable(v:waB)(t:ae)(i:Int)(s:ag)(t11:waA)(t12:Int)(m:waC)(m2:waB)(m3:waA)(m4:waB)
def zv:av:=aN 52 [(2,sl ac v),(3,.eptr (af t)),(6,.bptr 1 0),(7,.bptr 2 0),(8,.int .i64 i),(9,.str s),(11,sl cS t11),(12,.int .i64 t12),(13,.int .i64 i)] [.dead,.cells [.int .i64 0,.str ([]:ag),sl af m,sl cS ([]:List ag),.int .i64 0,.str ([]:ag),.int .i64 0,sl ac m2,sl ac m2] [(2,30),(3,9),(7,28),(8,28)],.cells [sl cS m3,sl ac m4] [(0,9),(1,28)]] []
def iu(o:Bool):av:=aN 52 [(2,sl ac v),(3,.eptr (af t)),(6,.bptr 1 0),(7,.bptr 2 0),(8,.int .i64 i),(9,.str s),(11,sl cS t11),(12,.int .i64 t12),(13,.int .i64 i),(32,.bool o)] [.dead,.cells [.int .i64 0,.str ([]:ag),sl af m,sl cS ([]:List ag),.int .i64 0,.str ([]:ag),.int .i64 0,sl ac m2,sl ac m2] [(2,30),(3,9),(7,28),(8,28)],.cells [sl cS m3,sl ac m4] [(0,9),(1,28)]] []
def fb:Option Bool:=
 if(decide (i<(v.length:Int)))=true then
  if(!(s==([118]:ag)))=true then
   (fp m3 s).bind fun r6=>
   some (decide (r6<0))
  else
   some false
 else
  some false
theorem yw{x:Bool}(h:fb v i s m3=some x):
  aB Pg GE 0 (cA Sy 7670) (EX .normal (iu v t i s t11 t12 m m2 m3 m4 x)) (zv v t i s t11 t12 m m2 m3 m4):=by
 rcases aT h with⟨c3,h⟩|⟨c3,h⟩
 ·have p5:=fun{sc F} (r:PS sc F)=>cD (aR.ln v)<|sg 5 c3<|r
  rcases aT h with⟨c4,h⟩|⟨c4,h⟩
  ·obtain⟨r6,br6,h⟩:=aw h
   obtain rfl:=lf h
   exact co Qn (p5<|sg 9 c4<|ss<|ba (kw br6)<|eF .normal (iu v t i s t11 t12 m m2 m3 m4 (decide (r6<0)))) (by kernel_rfl)
  ·obtain rfl:=lf h
   exact co Qn (p5<|sg 9 c4<|eF .normal (iu v t i s t11 t12 m m2 m3 m4 false)) (by kernel_rfl)
 ·obtain rfl:=lf h
  exact co Qn (cD (aR.ln v)<|sg 5 c3<|eF .normal (iu v t i s t11 t12 m m2 m3 m4 false)) (by kernel_rfl)
end
section
variable(v:waB)(t:ae)(t11:waA)(t12:Int)(m:waC)(m2:waB)(t13:Int)(m3:waA)(m4:waB)
def eb:av:=aN 52 [(2,sl ac v),(3,.eptr (af t)),(6,.bptr 1 0),(7,.bptr 2 0),(11,sl cS t11),(12,.int .i64 t12),(13,.int .i64 t13)] [.dead,.cells [.int .i64 0,.str ([]:ag),sl af m,sl cS ([]:List ag),.int .i64 0,.str ([]:ag),.int .i64 0,sl ac m2,sl ac m2] [(2,30),(3,9),(7,28),(8,28)],.cells [sl cS m3,sl ac m4] [(0,9),(1,28)]] []
def kZ(o:waA×waB):av:=aN 52 [(3,.eptr (af t)),(6,.bptr 1 0),(7,.bptr 2 0)] [.dead,.cells [.int .i64 0,.str ([]:ag),sl af m,sl cS ([]:List ag),.int .i64 0,.str ([]:ag),.int .i64 0,sl ac m2,sl ac m2] [(2,30),(3,9),(7,28),(8,28)],.cells [sl cS o.1,sl ac o.2] [(0,9),(1,28)]] []
def cu:Option ((Int×waA×waB)⊕((waA×waB))):=
 if(decide (t13<t12))=true then
  (dv t11 t13).bind fun x2=>
  (fb v t13 x2 m3).bind fun o7=>
  if o7=true then
   (app m3 ([x2]:List ag)).bind fun l10=>
   (dv v t13).bind fun x11=>
   (app m4 ([x11]:List aa)).bind fun l12=>
   some (.inl (bA (t13+1),l10,l12))
  else
   some (.inl (bA (t13+1),m3,m4))
 else
  some (.inr (m3,m4))
def j0:Option ((waA×waB)):=loop (fun(zz:Int×waA×waB)=>cu v t11 t12 zz.1 zz.2.1 zz.2.2) (t13,m3,m4)
theorem wO{y:(Int×waA×waB)⊕((waA×waB))}(h:cu v t11 t12 t13 m3 m4=some y):
  aB Pg GE 0 (cA Sy 119) (LQ (fun(zz:Int×waA×waB)=>eb v t t11 t12 m m2 zz.1 zz.2.1 zz.2.2) (fun _=>.exit 0) (kZ t m m2) y) (eb v t t11 t12 m m2 t13 m3 m4):=by
 rcases aT h with⟨c1,h⟩|⟨c1,h⟩
 ·obtain⟨x2,bx2,h⟩:=aw h
  obtain⟨o7,bo7,h⟩:=aw h
  have p9:=fun{sc F} (r:PS sc F)=>sg 0 c1<|sv (aW.ia (k:=.i64) bx2)<|sv (cP xe (.str x2) [])<|kK 0<|cC (yw v t t13 x2 t11 t12 m m2 m3 m4 bo7)<|r
  rcases aT h with⟨c8,h⟩|⟨c8,h⟩
  ·obtain⟨l10,bl10,h⟩:=aw h
   obtain⟨x11,bx11,h⟩:=aw h
   obtain⟨l12,bl12,h⟩:=aw h
   obtain rfl:=lf h
   exact rY Qn (p9<|sg 0 c8<|sv (aW.mk' (v:=PVal.str) CE ([x2]:List ag) 1 (by kernel_rfl))<|sv (aW.ap bl10)<|rp [0,1,0,0,12,28,60,127,255,511]<|sv (aR.ia (k:=.i64) bx11)<|sv (az x11)<|sv (aR.mk' (v:=ce) aY ([x11]:List aa) 1 (by kernel_rfl))<|sv (aR.ap bl12)<|M0 (rfl:bR (sl ac l12)=some [sl ac l12])<|eF .normal (eb v t t11 t12 m m2 (bA (t13+1)) l10 l12)) (by kernel_rfl)
  ·obtain rfl:=lf h
   exact rY Qn (p9<|sg 0 c8<|eF .normal (eb v t t11 t12 m m2 (bA (t13+1)) m3 m4)) (by kernel_rfl)
 ·obtain rfl:=lf h
  have z:=sg 0 c1<|eF (.exit 0) (kZ t m m2 (m3,m4))
  exact gf Qn (by intro hx;cases hx) z (by kernel_rfl)
theorem yx{x:(waA×waB)}(h:j0 v t11 t12 t13 m3 m4=some x):
  aB Pg GE 0 (.loop (cA Sy 119)) (EX (.exit 0) (kZ t m m2 x)) (eb v t t11 t12 m m2 t13 m3 m4):=
 aB.loop (S:=fun(zz:Int×waA×waB)=>eb v t t11 t12 m m2 zz.1 zz.2.1 zz.2.2) (ex:=(fun _=>.exit 0)) (s:=(t13,m3,m4)) h fun zz y hy=>wO v t t11 t12 m m2 zz.1 zz.2.1 zz.2.2 hy
end
def i8(t:ae)(names:waA)(a:waB):Option ae:=
 (j0 a names (names.length:Int) 0 ([]:List ag) ([]:List aa)).bind fun o13=>
 (uZ t (⟨o13.1,o13.2⟩:aj)).bind fun r14=>
 some r14
theorem tT{t:ae}{names:waA}{a:waB}{r:ae}(h:i8 t names a=some r):CC Pg GE 16 [.agg (af t),sl cS names,sl ac a] (.agg (af r)) [(2,30),(8,28)]:=by
 obtain⟨o13,bo13,h⟩:=aw h
 obtain⟨r14,br14,h⟩:=aw h
 obtain rfl:=lf h
 have z:=se (bQ t)<|sx jh<|sb (gI) (gH)<|sx QX<|sy (cb (⟨([]:List ag),([]:List aa)⟩:aj))<|cD (aW.ln names)<|cC (yx a t names (names.length:Int) ([]:List ae) ([]:List aa) 0 ([]:List ag) ([]:List aa) bo13)<|sv (bh t)<|sv (cG (⟨o13.1,o13.2⟩:aj) [])<|ba (Ef br14)<|sy (aS r14)<|en (aI (cR r14)<|aI (al r14)<|rT)
 exact b7 Qn Tryz.call16 Tryz.func16 (c:=Sy) rfl (aI (al t) (aI (am dS names) (aI (am ah a) trivial))) z (by kernel_rfl)
def UH:Code:=Tryz.f14.body.getD .skip
def Us:List Nat:=[]
def wm(t:ae)(name:ag)(a:aa):Option ae:=
 (i8 t ([name]:List ag) ([a]:List aa)).bind fun r1=>
 some r1
theorem HQ{t:ae}{name:ag}{a:aa}{r:ae}(h:wm t name a=some r):CC Pg GE 14 [.agg (af t),.str name,.agg (ac a)] (.agg (af r)) [(2,30),(8,28)]:=by
 obtain⟨r1,br1,h⟩:=aw h
 obtain rfl:=lf h
 have z:=se (bQ t)<|se (bM a)<|sx jh<|sv (bh t)<|sv (aW.mk' (v:=PVal.str) CE ([name]:List ag) 1 (by kernel_rfl))<|sv (az a)<|sv (aR.mk' (v:=ce) aY ([a]:List aa) 1 (by kernel_rfl))<|ba (tT br1)<|sy (aS r1)<|en (aI (cR r1)<|aI (al r1)<|rT)
 exact b7 Us Tryz.call14 Tryz.func14 (c:=UH) rfl (aI (al t) (aI trivial (aI (ah a) trivial))) z (by kernel_rfl)
def b3:Code:=Tryz.f3.body.getD .skip
def A3:List Nat:=[]
section
variable(names:waA)(v:waB)(t:ae)
def td:av:=aN 67 [(1,sl cS names),(2,sl ac v),(3,.eptr (af t))] [.dead] []
def dA(o:Bool):av:=aN 67 [(1,sl cS names),(2,sl ac v),(3,.eptr (af t)),(25,.bool o)] [.dead] []
def ft:Option Bool:=
 (HU ([t]:List ae)).bind fun r1=>
 if(!r1)=true then
  some true
 else
  (yF t).bind fun r4=>
  if(!r4)=true then
   some true
  else
   if(decide ((names.length:Int)>20))=true then
    some true
   else
    (ws v).bind fun r9=>
    some (!r9)
theorem ry{x:Bool}(h:ft names v t=some x):
  aB Pg GE 0 (cA b3 12) (EX .normal (dA names v t x)) (td names v t):=by
 obtain⟨r1,br1,h⟩:=aw h
 have p3:=fun{sc F} (r:PS sc F)=>sv (bh t)<|sv (d5.mk' (v:=tR) oH ([t]:List ae) 1 (by kernel_rfl))<|ba (Kl br1)<|r
 rcases aT h with⟨c2,h⟩|⟨c2,h⟩
 ·obtain rfl:=lf h
  exact co A3 (p3<|sg 5 c2<|eF .normal (dA names v t true)) (by kernel_rfl)
 ·obtain⟨r4,br4,h⟩:=aw h
  have p6:=fun{sc F} (r:PS sc F)=>p3<|sg 5 c2<|sv (bh t)<|ba (Gq br4)<|r
  rcases aT h with⟨c5,h⟩|⟨c5,h⟩
  ·obtain rfl:=lf h
   exact co A3 (p6<|sg 10 c5<|eF .normal (dA names v t true)) (by kernel_rfl)
  ·have p8:=fun{sc F} (r:PS sc F)=>p6<|sg 10 c5<|cD (aW.ln names)<|r
   rcases aT h with⟨c7,h⟩|⟨c7,h⟩
   ·obtain rfl:=lf h
    exact co A3 (p8<|sg 15 c7<|eF .normal (dA names v t true)) (by kernel_rfl)
   ·obtain⟨r9,br9,h⟩:=aw h
    obtain rfl:=lf h
    exact co A3 (p8<|sg 15 c7<|ba (HW br9)<|eF .normal (dA names v t (!r9))) (by kernel_rfl)
end
section
variable(names:waA)(v:waB)(t:ae)
def te:av:=aN 67 [(1,sl cS names),(2,sl ac v),(3,.eptr (af t))] [.dead] []
def eH(o:Bool):av:=aN 67 [(1,sl cS names),(2,sl ac v),(3,.eptr (af t)),(54,.bool o)] [.dead] []
def fu:Option Bool:=
 if(decide ((names.length:Int)>0))=true then
  if(decide ((v.length:Int)>0))=true then
   (dv names 0).bind fun x18=>
   (dv v 0).bind fun x19=>
   (fN t x18 x19).bind fun r20=>
   (dv names 0).bind fun x21=>
   (dv v 0).bind fun x22=>
   (wm t x21 x22).bind fun r23=>
   (jG r20 r23).bind fun r24=>
   some (!r24)
  else
   some false
 else
  some false
theorem rz{x:Bool}(h:fu names v t=some x):
  aB Pg GE 0 (cA b3 28) (EX .normal (eH names v t x)) (te names v t):=by
 have p15:=fun{sc F} (r:PS sc F)=>rp [0,1,3,7,15,31,63,127,255,511,511,1535,3583,511,8703,25087,65535,511,511,262655,786943,511,2097663,6291967,16777215,33554431,67108863,134217727]<|cD (aW.ln names)<|r
 rcases aT h with⟨c14,h⟩|⟨c14,h⟩
 ·have p17:=fun{sc F} (r:PS sc F)=>p15<|sg 4 c14<|cD (aR.ln v)<|r
  rcases aT h with⟨c16,h⟩|⟨c16,h⟩
  ·obtain⟨x18,bx18,h⟩:=aw h
   obtain⟨x19,bx19,h⟩:=aw h
   obtain⟨r20,br20,h⟩:=aw h
   obtain⟨x21,bx21,h⟩:=aw h
   obtain⟨x22,bx22,h⟩:=aw h
   obtain⟨r23,br23,h⟩:=aw h
   obtain⟨r24,br24,h⟩:=aw h
   obtain rfl:=lf h
   exact co A3 (p17<|sg 9 c16<|sv (bh t)<|sv (aW.ia (k:=.i64) bx18)<|sv (cP xe (.str x18) [])<|sv (aR.ia (k:=.i64) bx19)<|sv (az x19)<|ba (ji br20)<|sv (bh t)<|sv (aW.ia (k:=.i64) bx21)<|sv (cP xe (.str x21) [])<|sv (aR.ia (k:=.i64) bx22)<|sv (az x22)<|ba (HQ br23)<|ba (kz br24)<|eF .normal (eH names v t (!r24))) (by kernel_rfl)
  ·obtain rfl:=lf h
   exact co A3 (p17<|sg 9 c16<|eF .normal (eH names v t false)) (by kernel_rfl)
 ·obtain rfl:=lf h
  exact co A3 (p15<|sg 4 c14<|eF .normal (eH names v t false)) (by kernel_rfl)
end
def lh(t:ae)(names:waA)(a:waB):Option Bool:=
 (ft names a t).bind fun o10=>
 if o10=true then
  wq.bind fun r13=>
  some r13
 else
  (fu names a t).bind fun o25=>
  if o25=true then
   some false
  else
   (dX t names a).bind fun r28=>
   (i8 t names a).bind fun r29=>
   (jG r28 r29).bind fun r30=>
   if r30=true then
    wq.bind fun r33=>
    some r33
   else
    some false
theorem u7{t:ae}{names:waA}{a:waB}{r:Bool}(h:lh t names a=some r):CC Pg GE 3 [.agg (af t),sl cS names,sl ac a] (.bool r) []:=by
 obtain⟨o10,bo10,h⟩:=aw h
 have p12:=fun{sc F} (r:PS sc F)=>se (bQ t)<|kK 1<|cC (ry names a t bo10)<|r
 rcases aT h with⟨c11,h⟩|⟨c11,h⟩
 ·obtain⟨r13,br13,h⟩:=aw h
  obtain rfl:=lf h
  have z:=p12<|sg 0 c11<|ba (zD br13)<|en (aI (rP (.bool r13))<|trivial)
  exact b7 A3 Tryz.call3 Tryz.func3 (c:=b3) rfl (aI (al t) (aI (am dS names) (aI (am ah a) trivial))) z (by kernel_rfl)
 ·obtain⟨o25,bo25,h⟩:=aw h
  have p27:=fun{sc F} (r:PS sc F)=>p12<|sg 0 c11<|kK 1<|cC (rz names a t bo25)<|r
  rcases aT h with⟨c26,h⟩|⟨c26,h⟩
  ·obtain rfl:=lf h
   have z:=p27<|sg 0 c26<|en (aI (rP (.bool false))<|trivial)
   exact b7 A3 Tryz.call3 Tryz.func3 (c:=b3) rfl (aI (al t) (aI (am dS names) (aI (am ah a) trivial))) z (by kernel_rfl)
  ·obtain⟨r28,br28,h⟩:=aw h
   obtain⟨r29,br29,h⟩:=aw h
   obtain⟨r30,br30,h⟩:=aw h
   have p32:=fun{sc F} (r:PS sc F)=>p27<|sg 0 c26<|rp [0,0,0,7,0,0,0,127,255,511,1023,2047,4095]<|sv (bh t)<|ba (jn br28)<|sv (bh t)<|ba (tT br29)<|ba (kz br30)<|r
   rcases aT h with⟨c31,h⟩|⟨c31,h⟩
   ·obtain⟨r33,br33,h⟩:=aw h
    obtain rfl:=lf h
    have z:=p32<|sg 10 c31<|ba (zD br33)<|en (aI (rP (.bool r33))<|trivial)
    exact b7 A3 Tryz.call3 Tryz.func3 (c:=b3) rfl (aI (al t) (aI (am dS names) (aI (am ah a) trivial))) z (by kernel_rfl)
   ·obtain rfl:=lf h
    have z:=p32<|sg 10 c31<|en (aI (rP (.bool false))<|trivial)
    exact b7 A3 Tryz.call3 Tryz.func3 (c:=b3) rfl (aI (al t) (aI (am dS names) (aI (am ah a) trivial))) z (by kernel_rfl)
theorem J3{α β X:Type}(g:α->β)(e:List β->X):∀(l:List α) (i:Nat) (s:List β),lN (fun _ x (s:List β)=>(Sum.inl (s++[g x]):List β⊕X)) e l i s=e (s++l.map g)
 |[],i,s=>by simp[lN]
 |x::l,i,s=>by
  unfold lN
  simp only
  rw[J3 g e l (i+1) (s++[g x])]
  simp
theorem JG{α β τ X:Type}(l:List α)(hl:l.length<9223372036854775808)(mk:Int->List β->τ)(body:τ->Option (τ⊕X))(g:α->β)(e:List β->X)
  (hin:∀(i:Nat) (h:i<l.length) s,s.length=i->body (mk i s)=some (.inl (mk (bA ((i:Int)+1)) (s++[g l[i]])))) (hend:∀s,body (mk l.length s)=some (.inr (e s))):loop body (mk 0 [])=some (e (l.map g)):=by
 have:=jP l hl mk body (fun i s=>s.length=i) (fun _ x s=>.inl (s++[g x])) e (fun i h s hs=>⟨hin i h s hs,fun s' hs'=>by cases hs';simp[hs]⟩) (fun s _=>hend s) 0 [] (vaJ _) rfl
 rw[J3]at this
 exact this
end Go.Proofs.YtggeppllafbidaaGreatDoor
