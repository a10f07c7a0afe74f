/- PROVED: a part of the proof. Conditions: none. -/
import Derived.Test.YtggeppllafbidaaGreatDoorPkC14
import Derived.Test.YtggeppllafbidaaGreatDoorPkC8
import Derived.Test.YtggeppllafbidaaGreatDoorPkC7
noncomputable section
namespace Go.Proofs.YtggeppllafbidaaGreatDoor
open Go Go.Proofs.Tryz
set_option linter.unusedVariables false
set_option maxRecDepth 100000
noncomputable def Ud:Code:=f16.body.getD .skip
def RS:List Nat:=[15,34,40]
section
variable(v:waB)(t:ae)(i:Int)(s:ag)(t11:waA)(t12:Int)(m:waC)(m2:waB)(m3:waA)(m4:waB)
def At:av:=aM 52 [(2,sl ac v),(3,.eptr (af t)),(6,.bptr 1 0),(7,.bptr 2 0),(8,.int .i64 i),(9,.str s),(11,sl cS t11),(12,.int .i64 t12),(13,.int .i64 i)] [.dead,.cells [.int .i64 0,.str ([]:ag),sl af m,sl cS ([]:List ag),.int .i64 0,.str ([]:ag),.int .i64 0,sl ac m2,sl ac m2] [(2,30),(3,9),(7,28),(8,28)],.cells [sl cS m3,sl ac m4] [(0,9),(1,28)]] []
def iO(o:Bool):av:=aM 52 [(2,sl ac v),(3,.eptr (af t)),(6,.bptr 1 0),(7,.bptr 2 0),(8,.int .i64 i),(9,.str s),(11,sl cS t11),(12,.int .i64 t12),(13,.int .i64 i),(32,.bool o)] [.dead,.cells [.int .i64 0,.str ([]:ag),sl af m,sl cS ([]:List ag),.int .i64 0,.str ([]:ag),.int .i64 0,sl ac m2,sl ac m2] [(2,30),(3,9),(7,28),(8,28)],.cells [sl cS m3,sl ac m4] [(0,9),(1,28)]] []
def gO:Option Bool:=
 if(decide (i<(v.length:Int)))=true then
  if(!(s==([118]:ag)))=true then
   (fx m3 s).bind fun r6=>
   some (decide (r6<0))
  else
   some false
 else
  some false
theorem zi{x:Bool}(h:gO v i s m3=some x):aF Pg GE 0 (cA Ud 7670) (EX .normal (iO v t i s t11 t12 m m2 m3 m4 x)) (At v t i s t11 t12 m m2 m3 m4):=by
 rcases aU h with⟨c3,h⟩|⟨c3,h⟩
 ·have p5:=fun{sc F} (r:PS sc F)=>cG (aP.ln v)<|sg 5 c3<|r
  rcases aU h with⟨c4,h⟩|⟨c4,h⟩
  ·obtain⟨r6,br6,h⟩:=aw h
   obtain rfl:=lf h
   exact cm RS (p5<|sg 9 c4<|ss<|bg (kY br6)<|eF .normal (iO v t i s t11 t12 m m2 m3 m4 (decide (r6<0))))<|by kernel_rfl
  ·obtain rfl:=lf h
   exact cm RS (p5<|sg 9 c4<|eF .normal (iO v t i s t11 t12 m m2 m3 m4 false))<|by kernel_rfl
 ·obtain rfl:=lf h
  exact cm RS (cG (aP.ln v)<|sg 5 c3<|eF .normal (iO v t i s t11 t12 m m2 m3 m4 false))<|by kernel_rfl
end
section
variable(v:waB)(t:ae)(t11:waA)(t12:Int)(m:waC)(m2:waB)(t13:Int)(m3:waA)(m4:waB)
def ee:av:=aM 52 [(2,sl ac v),(3,.eptr (af t)),(6,.bptr 1 0),(7,.bptr 2 0),(11,sl cS t11),(12,.int .i64 t12),(13,.int .i64 t13)] [.dead,.cells [.int .i64 0,.str ([]:ag),sl af m,sl cS ([]:List ag),.int .i64 0,.str ([]:ag),.int .i64 0,sl ac m2,sl ac m2] [(2,30),(3,9),(7,28),(8,28)],.cells [sl cS m3,sl ac m4] [(0,9),(1,28)]] []
def lD(o:waA×waB):av:=aM 52 [(3,.eptr (af t)),(6,.bptr 1 0),(7,.bptr 2 0)] [.dead,.cells [.int .i64 0,.str ([]:ag),sl af m,sl cS ([]:List ag),.int .i64 0,.str ([]:ag),.int .i64 0,sl ac m2,sl ac m2] [(2,30),(3,9),(7,28),(8,28)],.cells [sl cS o.1,sl ac o.2] [(0,9),(1,28)]] []
def iP:Option ((Int×waA×waB)⊕((waA×waB))):=
 if(decide (t13<t12))=true then
  (dz t11 t13).bind fun x2=>
  (gO v t13 x2 m3).bind fun o7=>
  if o7=true then
   (app m3 ([x2]:List ag)).bind fun l10=>
   (dz v t13).bind fun x11=>
   (app m4 ([x11]:List aa)).bind fun l12=>
   some (.inl (bC (t13+1),l10,l12))
  else
   some (.inl (bC (t13+1),m3,m4))
 else
  some (.inr (m3,m4))
def oq:Option ((waA×waB)):=loop (fun(zz:Int×waA×waB)=>iP v t11 t12 zz.1 zz.2.1 zz.2.2) (t13,m3,m4)
theorem xQ{y:(Int×waA×waB)⊕((waA×waB))}(h:iP v t11 t12 t13 m3 m4=some y):aF Pg GE 0 (cA Ud 119) (LQ (fun(zz:Int×waA×waB)=>ee v t t11 t12 m m2 zz.1 zz.2.1 zz.2.2) (fun _=>.exit 0) (lD t m m2) y) (ee v t t11 t12 m m2 t13 m3 m4):=by
 rcases aU h with⟨c1,h⟩|⟨c1,h⟩
 ·obtain⟨x2,bx2,h⟩:=aw h
  obtain⟨o7,bo7,h⟩:=aw h
  have p9:=fun{sc F} (r:PS sc F)=>sg 0 c1<|sv (ba.ia (k:=.i64) bx2)<|sv (cY yR (.str x2) [])<|kq 0<|cC (zi v t t13 x2 t11 t12 m m2 m3 m4 bo7)<|r
  rcases aU h with⟨c8,h⟩|⟨c8,h⟩
  ·obtain⟨l10,bl10,h⟩:=aw h
   obtain⟨x11,bx11,h⟩:=aw h
   obtain⟨l12,bl12,h⟩:=aw h
   obtain rfl:=lf h
   exact sT RS (p9<|sg 0 c8<|sv (ba.mk' (v:=PVal.str) CW ([x2]:List ag) 1 (by kernel_rfl))<|sv (ba.ap bl10)<|sU [0,1,0,0,12,28,60,127,255,511]<|sv (aP.ia (k:=.i64) bx11)<|sv (az x11)<|sv (aP.mk' (v:=bR) aY ([x11]:List aa) 1 (by kernel_rfl))<|sv (aP.ap bl12)<|Ol (rfl:b6 (sl ac l12)=some [sl ac l12])<|eF .normal (ee v t t11 t12 m m2 (bC (t13+1)) l10 l12))<|by kernel_rfl
  ·obtain rfl:=lf h
   exact sT RS (p9<|sg 0 c8<|eF .normal (ee v t t11 t12 m m2 (bC (t13+1)) m3 m4))<|by kernel_rfl
 ·obtain rfl:=lf h
  have z:=sg 0 c1<|eF (.exit 0) (lD t m m2 (m3,m4))
  exact fX RS (by intro hx;cases hx) z<|by kernel_rfl
theorem zj{x:(waA×waB)}(h:oq v t11 t12 t13 m3 m4=some x):aF Pg GE 0 (.loop (cA Ud 119)) (EX (.exit 0) (lD t m m2 x)) (ee v t t11 t12 m m2 t13 m3 m4):=
 aF.loop (S:=fun(zz:Int×waA×waB)=>ee v t t11 t12 m m2 zz.1 zz.2.1 zz.2.2) (ex:=(fun _=>.exit 0)) (s:=(t13,m3,m4)) h fun zz y hy=>xQ v t t11 t12 m m2 zz.1 zz.2.1 zz.2.2 hy
end
def pb(t:ae)(names:waA)(a:waB):Option ae:=
 (oq a names (names.length:Int) 0 ([]:List ag) ([]:List aa)).bind fun o13=>
 (wk t (⟨o13.1,o13.2⟩:aj)).bind fun r14=>
 some r14
theorem D5{t:ae}{names:waA}{a:waB}{r:ae}(h:pb t names a=some r):CC Pg GE 16 [.agg (af t),sl cS names,sl ac a] (.agg (af r)) [(2,30),(8,28)]:=by
 obtain⟨o13,bo13,h⟩:=aw h
 obtain⟨r14,br14,h⟩:=aw h
 obtain rfl:=lf h
 have z:=se (bE t)<|sx iq<|sb (gX) (gW)<|sx SA<|sy (cf (⟨([]:List ag),([]:List aa)⟩:aj))<|cG (ba.ln names)<|cC (zj a t names (names.length:Int) ([]:List ae) ([]:List aa) 0 ([]:List ag) ([]:List aa) bo13)<|sv (aW t)<|sv (cM (⟨o13.1,o13.2⟩:aj) [])<|bg (Fi br14)<|sy (aT r14)<|en (aI (cr r14)<|aI (ak r14)<|rT)
 exact bS RS call16 func16 (c:=Ud) rfl (aI (ak t) (aI (am d7 names) (aI (am ah a) trivial))) z<|by kernel_rfl
noncomputable def SV:Code:=f19.body.getD .skip
def Rx:List Nat:=[34,42]
section
variable(args:waB)(t:ae)(m:waC)(m2:waB)
def Fa:av:=aM 58 [(1,sl ac args),(2,.eptr (af t)),(4,.bptr 1 0)] [.dead,.cells [.int .i64 0,.str ([]:ag),sl af m,sl cS ([]:List ag),.int .i64 0,.str ([]:ag),.int .i64 0,sl ac m2,sl ac m2] [(2,30),(3,9),(7,28),(8,28)]] []
def pT(o:Bool):av:=aM 58 [(1,sl ac args),(2,.eptr (af t)),(4,.bptr 1 0),(20,.bool o)] [.dead,.cells [.int .i64 0,.str ([]:ag),sl af m,sl cS ([]:List ag),.int .i64 0,.str ([]:ag),.int .i64 0,sl ac m2,sl ac m2] [(2,30),(3,9),(7,28),(8,28)]] []
def oZ:Option Bool:=
 if(t.Op !=6)=true then
  some true
 else
  some ((t.Args.length:Int)!=(bC ((args.length:Int)+1)))
theorem DY{x:Bool}(h:oZ args t=some x):aF Pg GE 0 (cA SV 12) (EX .normal (pT args t m m2 x)) (Fa args t m m2):=by
 have p2:=fun{sc F} (r:PS sc F)=>sv (aA t)<|sv (aC t)<|r
 rcases aU h with⟨c1,h⟩|⟨c1,h⟩
 ·obtain rfl:=lf h
  exact cm Rx (p2<|sg 4 c1<|eF .normal (pT args t m m2 true))<|by kernel_rfl
 ·obtain rfl:=lf h
  exact cm Rx (p2<|sg 4 c1<|sv (aH t)<|sv (aJ t)<|cG (dP.ln t.Args)<|cG (aP.ln args)<|eF .normal (pT args t m m2 ((t.Args.length:Int)!=(bC ((args.length:Int)+1)))))<|by kernel_rfl
end
section
variable(args:waB)(t:ae)(names:waA)(v:waB)(i:Int)(m:waC)(m2:waB)
def Fb:av:=aM 58 [(1,sl ac args),(2,.eptr (af t)),(4,.bptr 1 0),(6,sl cS names),(7,sl ac v),(8,.int .i64 i)] [.dead,.cells [.int .i64 0,.str ([]:ag),sl af m,sl cS ([]:List ag),.int .i64 0,.str ([]:ag),.int .i64 0,sl ac m2,sl ac m2] [(2,30),(3,9),(7,28),(8,28)]] [((7,0),28),((6,0),9)]
def pU(o:waA×waB):av:=aM 58 [(1,sl ac args),(2,.eptr (af t)),(4,.bptr 1 0),(6,sl cS o.1),(7,sl ac o.2),(8,.int .i64 i)] [.dead,.cells [.int .i64 0,.str ([]:ag),sl af m,sl cS ([]:List ag),.int .i64 0,.str ([]:ag),.int .i64 0,sl ac m2,sl ac m2] [(2,30),(3,9),(7,28),(8,28)]] [((7,0),28),((6,0),9)]
def uc:Option ((waA×waB)):=
 if(decide (i<(t.Names.length:Int)))=true then
  (dz t.Names i).bind fun x9=>
  (app names ([x9]:List ag)).bind fun l10=>
  (dz args i).bind fun x11=>
  (app v ([x11]:List aa)).bind fun l12=>
  some (l10,l12)
 else
  some (names,v)
theorem DZ{x:(waA×waB)}(h:uc args t names v i=some x):aF Pg GE 0 (cA SV 2014) (EX .normal (pU args t i m m2 x)) (Fb args t names v i m m2):=by
 have p8:=fun{sc F} (r:PS sc F)=>sv (aB t)<|sv (aD t)<|cG (ba.ln t.Names)<|r
 rcases aU h with⟨c7,h⟩|⟨c7,h⟩
 ·obtain⟨x9,bx9,h⟩:=aw h
  obtain⟨l10,bl10,h⟩:=aw h
  obtain⟨x11,bx11,h⟩:=aw h
  obtain⟨l12,bl12,h⟩:=aw h
  obtain rfl:=lf h
  exact cm Rx (p8<|sg 0 c7<|sv (aB t)<|sv (aD t)<|sv (ba.ia (k:=.i64) bx9)<|sv (cY yR (.str x9) [])<|sv (ba.mk' (v:=PVal.str) CW ([x9]:List ag) 1 (by kernel_rfl))<|sv (ba.ap bl10)<|sv (aP.ia (k:=.i64) bx11)<|sv (az x11)<|sv (aP.mk' (v:=bR) aY ([x11]:List aa) 1 (by kernel_rfl))<|sv (aP.ap bl12)<|eF .normal (pU args t i m m2 (l10,l12)))<|by kernel_rfl
 ·obtain rfl:=lf h
  exact cm Rx (p8<|sg 0 c7<|eF .normal (pU args t i m m2 (names,v)))<|by kernel_rfl
end
section
variable(args:waB)(t:ae)(m:waC)(m2:waB)(names:waA)(v:waB)(i:Int)
def i8:av:=aM 58 [(1,sl ac args),(2,.eptr (af t)),(4,.bptr 1 0),(6,sl cS names),(7,sl ac v),(8,.int .i64 i)] [.dead,.cells [.int .i64 0,.str ([]:ag),sl af m,sl cS ([]:List ag),.int .i64 0,.str ([]:ag),.int .i64 0,sl ac m2,sl ac m2] [(2,30),(3,9),(7,28),(8,28)]] [((7,0),28),((6,0),9)]
def pV(o:waA×waB):av:=aM 58 [(1,sl ac args),(2,.eptr (af t)),(4,.bptr 1 0),(6,sl cS o.1),(7,sl ac o.2)] [.dead,.cells [.int .i64 0,.str ([]:ag),sl af m,sl cS ([]:List ag),.int .i64 0,.str ([]:ag),.int .i64 0,sl ac m2,sl ac m2] [(2,30),(3,9),(7,28),(8,28)]] [((7,0),28),((6,0),9)]
def eU:Option ((waA×waB×Int)⊕((waA×waB))):=
 if(decide (i>=0))=true then
  (uc args t names v i).bind fun o13=>
  some (.inl (o13.1,o13.2,bC (i - 1)))
 else
  some (.inr (names,v))
def o0:Option ((waA×waB)):=loop (fun(zz:waA×waB×Int)=>eU args t zz.1 zz.2.1 zz.2.2) (names,v,i)
theorem Cm{y:(waA×waB×Int)⊕((waA×waB))}(h:eU args t names v i=some y):aF Pg GE 0 (cA SV 503) (LQ (fun(zz:waA×waB×Int)=>i8 args t m m2 zz.1 zz.2.1 zz.2.2) (fun _=>.exit 0) (pV args t m m2) y) (i8 args t m m2 names v i):=by
 rcases aU h with⟨c6,h⟩|⟨c6,h⟩
 ·obtain⟨o13,bo13,h⟩:=aw h
  obtain rfl:=lf h
  exact sT Rx (sg 0 c6<|kq 0<|cC (DZ args t names v i m m2 bo13)<|eF .normal (i8 args t m m2 o13.1 o13.2 (bC (i - 1))))<|by kernel_rfl
 ·obtain rfl:=lf h
  have z:=sg 0 c6<|eF (.exit 0) (pV args t m m2 (names,v))
  exact fX Rx (by intro hx;cases hx) z<|by kernel_rfl
theorem D0{x:(waA×waB)}(h:o0 args t names v i=some x):aF Pg GE 0 (.loop (cA SV 503)) (EX (.exit 0) (pV args t m m2 x)) (i8 args t m m2 names v i):=
 aF.loop (S:=fun(zz:waA×waB×Int)=>i8 args t m m2 zz.1 zz.2.1 zz.2.2) (ex:=(fun _=>.exit 0)) (s:=(names,v,i)) h fun zz y hy=>Cm args t m m2 zz.1 zz.2.1 zz.2.2 hy
end
def mI(t:ae)(args:waB):Option (ae×Int):=
 (oZ args t).bind fun o3=>
 if o3=true then
  some ((⟨0,([]:ag),([]:List ae),([]:List ag),(⟨0,([]:ag),0,([]:List aa)⟩:aa),([]:List aa)⟩:ae),13)
 else
  (o0 args t ([]:List ag) ([]:List aa) (bC ((args.length:Int) - 1))).bind fun o14=>
  (dz t.Args (args.length:Int)).bind fun x15=>
  (pb x15 o14.1 o14.2).bind fun r16=>
  some (r16,0)
theorem I0{t:ae}{args:waB}{r:ae×Int}(h:mI t args=some r):CC Pg GE 19 [.agg (af t),sl ac args] (.tuple [.agg (af r.1),.int .i64 r.2]) []:=by
 obtain⟨o3,bo3,h⟩:=aw h
 have p5:=fun{sc F} (r:PS sc F)=>se (bE t)<|sx iq<|kq 1<|cC (DY args t ([]:List ae) ([]:List aa) bo3)<|r
 rcases aU h with⟨c4,h⟩|⟨c4,h⟩
 ·obtain rfl:=lf h
  have z:=p5<|sg 0 c4<|sb (FB) (Fw)<|sy (aT (⟨0,([]:ag),([]:List ae),([]:List ag),(⟨0,([]:ag),0,([]:List aa)⟩:aa),([]:List aa)⟩:ae))<|en (aI (vbo PVal.tuple (Dr (cr (⟨0,([]:ag),([]:List ae),([]:List ag),(⟨0,([]:ag),0,([]:List aa)⟩:aa),([]:List aa)⟩:ae)) (Dr (rP (.int .i64 13)) (rfl:([]:List PVal)=[]))))<|(aI (ak (⟨0,([]:ag),([]:List ae),([]:List ag),(⟨0,([]:ag),0,([]:List aa)⟩:aa),([]:List aa)⟩:ae)) (aI trivial trivial)))
  exact bS Rx call19 func19 (c:=SV) rfl (aI (ak t) (aI (am ah args) trivial)) z<|by kernel_rfl
 ·obtain⟨o14,bo14,h⟩:=aw h
  obtain⟨x15,bx15,h⟩:=aw h
  obtain⟨r16,br16,h⟩:=aw h
  obtain rfl:=lf h
  have z:=p5<|sg 0 c4<|cG (aP.ln args)<|cC (D0 args t ([]:List ae) ([]:List aa) ([]:List ag) ([]:List aa) (bC ((args.length:Int) - 1)) bo14)<|sv (aH t)<|sv (aJ t)<|cG (aP.ln args)<|sv (dP.ia (k:=.i64) bx15)<|sv (aW x15)<|bg (D5 br16)<|sy (aT r16)<|en (aI (vbo PVal.tuple (Dr (cr r16) (Dr (rP (.int .i64 0)) (rfl:([]:List PVal)=[]))))<|(aI (ak r16) (aI trivial trivial)))
  exact bS Rx call19 func19 (c:=SV) rfl (aI (ak t) (aI (am ah args) trivial)) z<|by kernel_rfl
noncomputable def UH:Code:=f100.body.getD .skip
def Us:List Nat:=[]
def xm:Option aa:=
 some (⟨2,([]:ag),0,([]:List aa)⟩:aa)
theorem An{r:aa}(h:xm=some r):CC Pg GE 100 [] (.agg (ac r)) [(3,28)]:=by
 obtain rfl:=lf h
 have z:=sx dW<|sb (Fx 2) (Ft 2)<|sy (aE (⟨2,([]:ag),0,([]:List aa)⟩:aa))<|en (aI (co (⟨2,([]:ag),0,([]:List aa)⟩:aa))<|aI (ah (⟨2,([]:ag),0,([]:List aa)⟩:aa))<|rT)
 exact bS Us call100 func100 (c:=UH) rfl trivial z<|by kernel_rfl
noncomputable def Uj:Code:=f55.body.getD .skip
def RZ:List Nat:=[]
section
variable(t7:waB)(t8:Int)(t9:Int)(m:Int)(m2:ag)(m3:Int)(m4:waB)(m5:Int)(m6:ag)(m7:Int)(m8:waB)
def gG:av:=aM 28 [(2,.bptr 0 0),(3,.bptr 1 0),(7,sl ac t7),(8,.int .i64 t8),(9,.int .i64 t9)] [.cells [.int .i64 m,.str m2,.int .i64 m3,sl ac m4] [(3,28)],.cells [.int .i64 m5,.str m6,.int .i64 m7,sl ac m8] []] []
def ly(o:(Int×ag×Int×waB×Int×ag×Int×waB)⊕(Int×ag×Int×waB×Int×ag×Int×waB)):Exit:=match o with
 |(.inl _)=>.ret
 |(.inr _)=>.exit 0
def jA(o:(Int×ag×Int×waB×Int×ag×Int×waB)⊕(Int×ag×Int×waB×Int×ag×Int×waB)):av:=match o with
 |(.inl o)=>aM 28 [(2,.bptr 0 0)] [.cells [.int .i64 o.1,.str o.2.1,.int .i64 o.2.2.1,sl ac o.2.2.2.1] [(3,28)],.cells [.int .i64 o.2.2.2.2.1,.str o.2.2.2.2.2.1,.int .i64 o.2.2.2.2.2.2.1,sl ac o.2.2.2.2.2.2.2] []] []
 |(.inr o)=>aM 28 [(2,.bptr 0 0),(3,.bptr 1 0)] [.cells [.int .i64 o.1,.str o.2.1,.int .i64 o.2.2.1,sl ac o.2.2.2.1] [(3,28)],.cells [.int .i64 o.2.2.2.2.1,.str o.2.2.2.2.2.1,.int .i64 o.2.2.2.2.2.2.1,sl ac o.2.2.2.2.2.2.2] []] []
def fy:Option ((Int×Int×ag×Int×waB×Int×ag×Int×waB)⊕((Int×ag×Int×waB×Int×ag×Int×waB)⊕(Int×ag×Int×waB×Int×ag×Int×waB))):=
 if (decide (t9 < t8)) = true then
  (dz t7 t9).bind fun x3=>
  xm.bind fun r4=>
  (fA x3 r4).bind fun r5=>
  if r5=true then
   xm.bind fun r8=>
   some (.inr (.inl (r8.Op,r8.Name,r8.N,r8.Kids,m5,m6,m7,m8)))
  else
   (pS x3).bind fun r9=>
   if r9=true then
    some (.inl (bC (t9+1),m,m2,m3,m4,m5,m6,m7,m8))
   else
    (pS (⟨m5,m6,m7,m8⟩:aa)).bind fun r12=>
    if r12=true then
     some (.inl (bC (t9+1),m,m2,m3,m4,x3.Op,x3.Name,x3.N,x3.Kids))
    else
     some (.inl (bC (t9+1),m,m2,m3,m4,15,([]:ag),0,([(⟨m5,m6,m7,m8⟩:aa),x3]:List aa)))
 else
  some (.inr (.inr (m,m2,m3,m4,m5,m6,m7,m8)))
def zb:Option ((Int×ag×Int×waB×Int×ag×Int×waB)⊕(Int×ag×Int×waB×Int×ag×Int×waB)):=loop (fun(zz:Int×Int×ag×Int×waB×Int×ag×Int×waB)=>fy t7 t8 zz.1 zz.2.1 zz.2.2.1 zz.2.2.2.1 zz.2.2.2.2.1 zz.2.2.2.2.2.1 zz.2.2.2.2.2.2.1 zz.2.2.2.2.2.2.2.1 zz.2.2.2.2.2.2.2.2) (t9,m,m2,m3,m4,m5,m6,m7,m8)
theorem E5{y:(Int×Int×ag×Int×waB×Int×ag×Int×waB)⊕((Int×ag×Int×waB×Int×ag×Int×waB)⊕(Int×ag×Int×waB×Int×ag×Int×waB))}(h:fy t7 t8 t9 m m2 m3 m4 m5 m6 m7 m8=some y):aF Pg GE 0 (cA Uj 119) (LQ (fun(zz:Int×Int×ag×Int×waB×Int×ag×Int×waB)=>gG t7 t8 zz.1 zz.2.1 zz.2.2.1 zz.2.2.2.1 zz.2.2.2.2.1 zz.2.2.2.2.2.1 zz.2.2.2.2.2.2.1 zz.2.2.2.2.2.2.2.1 zz.2.2.2.2.2.2.2.2) ly jA y) (gG t7 t8 t9 m m2 m3 m4 m5 m6 m7 m8):=by
 rcases aU h with⟨c2,h⟩|⟨c2,h⟩
 ·obtain⟨x3,bx3,h⟩:=aw h
  obtain⟨r4,br4,h⟩:=aw h
  obtain⟨r5,br5,h⟩:=aw h
  have p7:=fun{sc F} (r:PS sc F)=>sg 0 c2<|sv (aP.ia (k:=.i64) bx3)<|sv (az x3)<|sx dW<|sx (aZ x3)<|sU [0,0,3]<|sv (aO x3 [])<|bg (An br4)<|bg (fC br5)<|r
  rcases aU h with⟨c6,h⟩|⟨c6,h⟩
  ·obtain⟨r8,br8,h⟩:=aw h
   obtain rfl:=lf h
   have z:=p7<|sg 0 c6<|bg (An br8)<|sy (aE r8)<|oz 0 (ly (.inl (r8.Op,r8.Name,r8.N,r8.Kids,m5,m6,m7,m8))) (jA (.inl (r8.Op,r8.Name,r8.N,r8.Kids,m5,m6,m7,m8))) rfl (cz (aI (cF rfl) trivial)) (aI (aI trivial (aI trivial (aI trivial (aI (up (am ah r8.Kids)) trivial)))) (aI (aI trivial (aI trivial (aI trivial (aI (up (am ah m8)) trivial)))) trivial))
   exact sI (A:=RZ) mixed (by intro hx;cases hx) z<|by kernel_rfl
  ·obtain⟨r9,br9,h⟩:=aw h
   have p11:=fun{sc F} (r:PS sc F)=>p7<|sg 0 c6<|sv (aO x3 [])<|bg (qY br9)<|r
   rcases aU h with⟨c10,h⟩|⟨c10,h⟩
   ·obtain rfl:=lf h
    have z:=p11<|sg 0 c10<|oz 0 .normal (gG t7 t8 (bC (t9+1)) m m2 m3 m4 m5 m6 m7 m8) rfl (cz (aI (cF rfl) (aI (cF rfl) (aI (up (am ah t7)) (aI trivial (aI trivial trivial)))))) (aI (aI trivial (aI trivial (aI trivial (aI (up (am ah m4)) trivial)))) (aI (aI trivial (aI trivial (aI trivial (aI (up (am ah m8)) trivial)))) trivial))
    exact cw (A:=RZ) mixed z<|by kernel_rfl
   ·obtain⟨r12,br12,h⟩:=aw h
    have p14:=fun{sc F} (r:PS sc F)=>p11<|sg 0 c10<|sv (aO (⟨m5,m6,m7,m8⟩:aa) [])<|bg (qY br12)<|r
    rcases aU h with⟨c13,h⟩|⟨c13,h⟩
    ·obtain rfl:=lf h
     have z:=p14<|sg 0 c13<|sv (aO x3 [])<|sx (aZ x3)<|oz 0 .normal (gG t7 t8 (bC (t9+1)) m m2 m3 m4 x3.Op x3.Name x3.N x3.Kids) rfl (cz (aI (cF rfl) (aI (cF rfl) (aI (up (am ah t7)) (aI trivial (aI trivial trivial)))))) (aI (aI trivial (aI trivial (aI trivial (aI (up (am ah m4)) trivial)))) (aI (aI trivial (aI trivial (aI trivial (aI (up (am ah x3.Kids)) trivial)))) trivial))
     exact cw (A:=RZ) mixed z<|by kernel_rfl
    ·obtain rfl:=lf h
     have z:=p14<|sg 0 c13<|sv (aO (⟨m5,m6,m7,m8⟩:aa) [])<|sv (aO x3 [])<|sv (aP.mk' (v:=bR) aY ([(⟨m5,m6,m7,m8⟩:aa),x3]:List aa) 2 (by kernel_rfl))<|sv (jF 15 ([(⟨m5,m6,m7,m8⟩:aa),x3]:List aa))<|sx (aZ (⟨15,([]:ag),0,([(⟨m5,m6,m7,m8⟩:aa),x3]:List aa)⟩:aa))<|oz 0 .normal (gG t7 t8 (bC (t9+1)) m m2 m3 m4 15 ([]:ag) 0 ([(⟨m5,m6,m7,m8⟩:aa),x3]:List aa)) rfl (cz (aI (cF rfl) (aI (cF rfl) (aI (up (am ah t7)) (aI trivial (aI trivial trivial)))))) (aI (aI trivial (aI trivial (aI trivial (aI (up (am ah m4)) trivial)))) (aI (aI trivial (aI trivial (aI trivial (aI (up (am ah ([(⟨m5,m6,m7,m8⟩:aa),x3]:List aa))) trivial)))) trivial))
     exact cw (A:=RZ) mixed z<|by kernel_rfl
 ·obtain rfl:=lf h
  have z:=sg 0 c2<|eF (ly (.inr (m,m2,m3,m4,m5,m6,m7,m8))) (jA (.inr (m,m2,m3,m4,m5,m6,m7,m8)))
  exact fX RZ (by intro hx;cases hx) z<|by kernel_rfl
theorem yj{x:(Int×ag×Int×waB×Int×ag×Int×waB)⊕(Int×ag×Int×waB×Int×ag×Int×waB)}(h:zb t7 t8 t9 m m2 m3 m4 m5 m6 m7 m8=some x):aF Pg GE 0 (.loop (cA Uj 119)) (EX (ly x) (jA x)) (gG t7 t8 t9 m m2 m3 m4 m5 m6 m7 m8):=
 aF.loop (S:=fun(zz:Int×Int×ag×Int×waB×Int×ag×Int×waB)=>gG t7 t8 zz.1 zz.2.1 zz.2.2.1 zz.2.2.2.1 zz.2.2.2.2.1 zz.2.2.2.2.2.1 zz.2.2.2.2.2.2.1 zz.2.2.2.2.2.2.2.1 zz.2.2.2.2.2.2.2.2) (ex:=ly) (s:=(t9,m,m2,m3,m4,m5,m6,m7,m8)) h fun zz y hy=>E5 t7 t8 zz.1 zz.2.1 zz.2.2.1 zz.2.2.2.1 zz.2.2.2.2.1 zz.2.2.2.2.2.1 zz.2.2.2.2.2.2.1 zz.2.2.2.2.2.2.2.1 zz.2.2.2.2.2.2.2.2 hy
end
def EI(a:waB):Option aa:=
 sW.bind fun r1=>
 (zb a (a.length:Int) 0 0 ([]:ag) 0 ([]:List aa) r1.Op r1.Name r1.N r1.Kids).bind fun o15=>match o15 with
 |(.inl o15)=>
  some (⟨o15.1,o15.2.1,o15.2.2.1,o15.2.2.2.1⟩:aa)
 |(.inr o15)=>
  some (⟨o15.2.2.2.2.1,o15.2.2.2.2.2.1,o15.2.2.2.2.2.2.1,o15.2.2.2.2.2.2.2⟩:aa)
theorem LD{a:waB}{r:aa}(h:EI a=some r):CC Pg GE 55 [sl ac a] (.agg (ac r)) []:=by
 obtain⟨r1,br1,h⟩:=aw h
 obtain⟨o15,bo15,h⟩:=aw h
 rcases o15 with o15|o15
 ·obtain rfl:=lf h
  have z:=sx dW<|bg (qX br1)<|sx dW<|sy (aE r1)<|cG (aP.ln a)<|cC (e:=.ret) (s1:=jA (.inl o15)) (yj a (a.length:Int) 0 0 ([]:ag) 0 ([]:List aa) r1.Op r1.Name r1.N r1.Kids bo15)<|en (aI (co (⟨o15.1,o15.2.1,o15.2.2.1,o15.2.2.2.1⟩:aa))<|(ah (⟨o15.1,o15.2.1,o15.2.2.1,o15.2.2.2.1⟩:aa)))
  exact bS RZ call55 func55 (c:=Uj) rfl (aI (am ah a) trivial) z<|by kernel_rfl
 ·obtain rfl:=lf h
  have z:=sx dW<|bg (qX br1)<|sx dW<|sy (aE r1)<|cG (aP.ln a)<|cC (e:=.exit 0) (s1:=jA (.inr o15)) (yj a (a.length:Int) 0 0 ([]:ag) 0 ([]:List aa) r1.Op r1.Name r1.N r1.Kids bo15)<|sv (aO (⟨o15.2.2.2.2.1,o15.2.2.2.2.2.1,o15.2.2.2.2.2.2.1,o15.2.2.2.2.2.2.2⟩:aa) [])<|sx (aZ (⟨o15.2.2.2.2.1,o15.2.2.2.2.2.1,o15.2.2.2.2.2.2.1,o15.2.2.2.2.2.2.2⟩:aa))<|en (aI (co (⟨o15.2.2.2.2.1,o15.2.2.2.2.2.1,o15.2.2.2.2.2.2.1,o15.2.2.2.2.2.2.2⟩:aa))<|(ah (⟨o15.2.2.2.2.1,o15.2.2.2.2.2.1,o15.2.2.2.2.2.2.1,o15.2.2.2.2.2.2.2⟩:aa)))
  exact bS RZ call55 func55 (c:=Uj) rfl (aI (am ah a) trivial) z<|by kernel_rfl
noncomputable def VH:Code:=f21.body.getD .skip
def Vv:List Nat:=[]
def Aq(t:ae)(p:aa):Option ae:=
 if(t.Op !=6)=true then
  (EI ([t.Pred,p]:List aa)).bind fun r3=>
  some (⟨t.Op,t.Name,t.Args,t.Names,r3,t.Preds⟩:ae)
 else
  some t
theorem E9{t:ae}{p:aa}{r:ae}(h:Aq t p=some r):CC Pg GE 21 [.agg (af t),.agg (ac p)] (.agg (af r)) []:=by
 have p2:=fun{sc F} (r:PS sc F)=>sx (cn t)<|se (bz p)<|sx iq<|ss<|r
 rcases aU h with⟨c1,h⟩|⟨c1,h⟩
 ·obtain⟨r3,br3,h⟩:=aw h
  obtain rfl:=lf h
  have z:=p2<|sg 0 c1<|sv (aO t.Pred [sl ac t.Preds])<|sv (az p)<|sv (aP.mk' (v:=bR) aY ([t.Pred,p]:List aa) 2 (by kernel_rfl))<|bg (LD br3)<|sx (aZ r3)<|sv (bh (⟨t.Op,t.Name,t.Args,t.Names,r3,t.Preds⟩:ae) [])<|sx (cn (⟨t.Op,t.Name,t.Args,t.Names,r3,t.Preds⟩:ae))<|en (aI (cr (⟨t.Op,t.Name,t.Args,t.Names,r3,t.Preds⟩:ae))<|(ak (⟨t.Op,t.Name,t.Args,t.Names,r3,t.Preds⟩:ae)))
  exact bS Vv call21 func21 (c:=VH) rfl (aI (ak t) (aI (ah p) trivial)) z<|by kernel_rfl
 ·obtain rfl:=lf h
  have z:=p2<|sg 0 c1<|sv (bh t [])<|sx (cn t)<|en (aI (cr t)<|(ak t))
  exact bS Vv call21 func21 (c:=VH) rfl (aI (ak t) (aI (ah p) trivial)) z<|by kernel_rfl
noncomputable def WG:Code:=f58.body.getD .skip
def Wq:List Nat:=[]
def Az(p:aa):Option Bool:=
 (fA p (⟨0,([]:ag),0,([]:List aa)⟩:aa)).bind fun r1=>
 some r1
theorem Kk{p:aa}{r:Bool}(h:Az p=some r):CC Pg GE 58 [.agg (ac p)] (.bool r) []:=by
 obtain⟨r1,br1,h⟩:=aw h
 obtain rfl:=lf h
 have z:=se (bz p)<|sv (az p)<|sb (qh) (qf)<|bg (fC br1)<|en (aI (rP (.bool r1))<|trivial)
 exact bS Wq call58 func58 (c:=WG) rfl (aI (ah p) trivial) z<|by kernel_rfl
noncomputable def WI:Code:=f60.body.getD .skip
def Ws:List Nat:=[]
def xn(p:aa)(name:ag)(a:aa):Option aa:=
 (jB p ([name]:List ag) ([a]:List aa)).bind fun r1=>
 some r1
theorem IZ{p:aa}{name:ag}{a:aa}{r:aa}(h:xn p name a=some r):CC Pg GE 60 [.agg (ac p),.str name,.agg (ac a)] (.agg (ac r)) []:=by
 obtain⟨r1,br1,h⟩:=aw h
 obtain rfl:=lf h
 have z:=se (bz p)<|se (bz a)<|sx dW<|sv (az p)<|sv (ba.mk' (v:=PVal.str) CW ([name]:List ag) 1 (by kernel_rfl))<|sv (az a)<|sv (aP.mk' (v:=bR) aY ([a]:List aa) 1 (by kernel_rfl))<|bg (oo br1)<|sx (aZ r1)<|en (aI (co r1)<|(ah r1))
 exact bS Ws call60 func60 (c:=WI) rfl (aI (ah p) (aI trivial (aI (ah a) trivial))) z<|by kernel_rfl
noncomputable def UN:Code:=f24.body.getD .skip
def T7:List Nat:=[]
section
variable(t:ae)(v:aa)(m:waB)
def Kf:av:=aM 18 [(2,.eptr (af t)),(3,.eptr (ac v)),(4,.bptr 2 0)] [.dead,.dead,.cells [.int .i64 0,.str ([]:ag),.int .i64 0,sl ac m] [(3,28)]] []
def wa(o:Bool):av:=aM 18 [(2,.eptr (af t)),(3,.eptr (ac v)),(4,.bptr 2 0),(12,.bool o)] [.dead,.dead,.cells [.int .i64 0,.str ([]:ag),.int .i64 0,sl ac m] [(3,28)]] []
def Cn:Option Bool:=
 if(t.Op==6)=true then
  some true
 else
  (Az t.Pred).bind fun r3=>
  some r3
theorem I2{x:Bool}(h:Cn t=some x):aF Pg GE 0 (cA UN 12) (EX .normal (wa t v m x)) (Kf t v m):=by
 have p2:=fun{sc F} (r:PS sc F)=>sv (aA t)<|sv (aC t)<|r
 rcases aU h with⟨c1,h⟩|⟨c1,h⟩
 ·obtain rfl:=lf h
  exact cm T7 (p2<|sg 4 c1<|eF .normal (wa t v m true))<|by kernel_rfl
 ·obtain⟨r3,br3,h⟩:=aw h
  obtain rfl:=lf h
  exact cm T7 (p2<|sg 4 c1<|sv (bF t)<|sv (bG t)<|bg (Kk br3)<|eF .normal (wa t v m r3))<|by kernel_rfl
end
def I1(t:ae)(a:aa):Option aa:=
 (Cn t).bind fun o4=>
 if o4=true then
  sW.bind fun r7=>
  some r7
 else
  (xn t.Pred ([118]:ag) a).bind fun r8=>
  some r8
theorem Nm{t:ae}{a:aa}{r:aa}(h:I1 t a=some r):CC Pg GE 24 [.agg (af t),.agg (ac a)] (.agg (ac r)) []:=by
 obtain⟨o4,bo4,h⟩:=aw h
 have p6:=fun{sc F} (r:PS sc F)=>se (bE t)<|se (bz a)<|sx dW<|kq 1<|cC (I2 t a ([]:List aa) bo4)<|r
 rcases aU h with⟨c5,h⟩|⟨c5,h⟩
 ·obtain⟨r7,br7,h⟩:=aw h
  obtain rfl:=lf h
  have z:=p6<|sg 0 c5<|bg (qX br7)<|sy (aE r7)<|en (aI (co r7)<|(ah r7))
  exact bS T7 call24 func24 (c:=UN) rfl (aI (ak t) (aI (ah a) trivial)) z<|by kernel_rfl
 ·obtain⟨r8,br8,h⟩:=aw h
  obtain rfl:=lf h
  have z:=p6<|sg 0 c5<|sv (bF t)<|sv (bG t)<|sv (az a)<|bg (IZ br8)<|sx (aZ r8)<|en (aI (co r8)<|(ah r8))
  exact bS T7 call24 func24 (c:=UN) rfl (aI (ak t) (aI (ah a) trivial)) z<|by kernel_rfl
noncomputable def VK:Code:=f61.body.getD .skip
def Vy:List Nat:=[]
def Ar(t:ae):Option Bool:=
 if(decide (t.Op>=1))=true then
  some (decide (t.Op<=4))
 else
  some false
theorem Kg{t:ae}{r:Bool}(h:Ar t=some r):CC Pg GE 61 [.agg (af t)] (.bool r) []:=by
 have p2:=fun{sc F} (r:PS sc F)=>se (bE t)<|sv (aA t)<|sv (aC t)<|r
 rcases aU h with⟨c1,h⟩|⟨c1,h⟩
 ·obtain rfl:=lf h
  have z:=p2<|sg 4 c1<|sv (aA t)<|sv (aC t)<|en (aI (rP (.bool (decide (t.Op<=4))))<|trivial)
  exact bS Vy call61 func61 (c:=VK) rfl (aI (ak t) trivial) z<|by kernel_rfl
 ·obtain rfl:=lf h
  have z:=p2<|sg 4 c1<|en (aI (rP (.bool false))<|trivial)
  exact bS Vy call61 func61 (c:=VK) rfl (aI (ak t) trivial) z<|by kernel_rfl
noncomputable def UO:Code:=f26.body.getD .skip
def T9:List Nat:=[]
section
variable(name:ag)(t:ae)(m:waC)(m2:waB)
def Ht:av:=aM 21 [(1,.str name),(2,.eptr (af t)),(4,.bptr 1 0),(5,.int .i64 10)] [.dead,.cells [.int .i64 0,.str ([]:ag),sl af m,sl cS ([]:List ag),.int .i64 0,.str ([]:ag),.int .i64 0,sl ac m2,sl ac m2] [(2,30),(3,9),(7,28),(8,28)]] []
def sn(o:Int):av:=aM 21 [(1,.str name),(2,.eptr (af t)),(4,.bptr 1 0),(5,.int .i64 o)] [.dead,.cells [.int .i64 0,.str ([]:ag),sl af m,sl cS ([]:List ag),.int .i64 0,.str ([]:ag),.int .i64 0,sl ac m2,sl ac m2] [(2,30),(3,9),(7,28),(8,28)]] []
def qZ:Option Int:=
 if(t.Op==2)=true then
  some 18
 else
  some 10
theorem Fh{x:Int}(h:qZ t=some x):aF Pg GE 0 (cA UO 30) (EX .normal (sn name t m m2 x)) (Ht name t m m2):=by
 have p5:=fun{sc F} (r:PS sc F)=>sv (aA t)<|sv (aC t)<|r
 rcases aU h with⟨c4,h⟩|⟨c4,h⟩
 ·obtain rfl:=lf h
  exact cm T9 (p5<|sg 0 c4<|eF .normal (sn name t m m2 18))<|by kernel_rfl
 ·obtain rfl:=lf h
  exact cm T9 (p5<|sg 0 c4<|eF .normal (sn name t m m2 10))<|by kernel_rfl
end
def As(t:ae)(name:ag):Option ae:=
 (Ar t).bind fun r1=>
 if(!r1)=true then
  some t
 else
  (qZ t).bind fun o6=>
  (Aq t (⟨o6,([]:ag),0,([(⟨3,([118]:ag),0,([]:List aa)⟩:aa),(⟨3,name,0,([]:List aa)⟩:aa)]:List aa)⟩:aa)).bind fun r7=>
  some r7
theorem Ki{t:ae}{name:ag}{r:ae}(h:As t name=some r):CC Pg GE 26 [.agg (af t),.str name] (.agg (af r)) []:=by
 obtain⟨r1,br1,h⟩:=aw h
 have p3:=fun{sc F} (r:PS sc F)=>se (bE t)<|sx iq<|sv (aW t)<|bg (Kg br1)<|r
 rcases aU h with⟨c2,h⟩|⟨c2,h⟩
 ·obtain rfl:=lf h
  have z:=p3<|sg 0 c2<|sv (aW t)<|sx (cn t)<|en (aI (cr t)<|(ak t))
  exact bS T9 call26 func26 (c:=UO) rfl (aI (ak t) (aI trivial trivial)) z<|by kernel_rfl
 ·obtain⟨o6,bo6,h⟩:=aw h
  obtain⟨r7,br7,h⟩:=aw h
  obtain rfl:=lf h
  have z:=p3<|sg 0 c2<|kq 1<|cC (Fh name t ([]:List ae) ([]:List aa) bo6)<|sv (aW t)<|sb (gJ 3 ([118]:ag)) (gI 3 ([118]:ag))<|sb (gJ 3 name) (gI 3 name)<|sv (aP.mk' (v:=bR) aY ([(⟨3,([118]:ag),0,([]:List aa)⟩:aa),(⟨3,name,0,([]:List aa)⟩:aa)]:List aa) 2 (by kernel_rfl))<|sv (jF o6 ([(⟨3,([118]:ag),0,([]:List aa)⟩:aa),(⟨3,name,0,([]:List aa)⟩:aa)]:List aa))<|bg (E9 br7)<|sx (cn r7)<|en (aI (cr r7)<|(ak r7))
  exact bS T9 call26 func26 (c:=UO) rfl (aI (ak t) (aI trivial trivial)) z<|by kernel_rfl
noncomputable def b4:Code:=Tryz.f4.body.getD .skip
def A4:List Nat:=[]
section
variable(name:ag)(args:waB)(t:ae)(p:aa)
def vC:av:=aM 83 [(2,.str name),(3,sl ac args),(4,.eptr (af t)),(5,.eptr (ac p))] [.dead,.dead] []
def dQ(o:Bool):av:=aM 83 [(2,.str name),(3,sl ac args),(4,.eptr (af t)),(5,.eptr (ac p)),(31,.bool o)] [.dead,.dead] []
def fY:Option Bool:=
 (I8 ([t]:List ae)).bind fun r1=>
 if(!r1)=true then
  some true
 else
  (uo t).bind fun r4=>
  if(!r4)=true then
   some true
  else
   (xt args).bind fun r7=>
   if(!r7)=true then
    some true
   else
    (pD p).bind fun r10=>
    some (decide (r10>30))
theorem ul{x:Bool}(h:fY args t p=some x):aF Pg GE 0 (cA b4 12) (EX .normal (dQ name args t p x)) (vC name args t p):=by
 obtain⟨r1,br1,h⟩:=aw h
 have p3:=fun{sc F} (r:PS sc F)=>sv (aW t)<|sv (dP.mk' (v:=uV) pI ([t]:List ae) 1 (by kernel_rfl))<|bg (LE br1)<|r
 rcases aU h with⟨c2,h⟩|⟨c2,h⟩
 ·obtain rfl:=lf h
  exact cm A4 (p3<|sg 5 c2<|eF .normal (dQ name args t p true))<|by kernel_rfl
 ·obtain⟨r4,br4,h⟩:=aw h
  have p6:=fun{sc F} (r:PS sc F)=>p3<|sg 5 c2<|sv (aW t)<|bg (Hy br4)<|r
  rcases aU h with⟨c5,h⟩|⟨c5,h⟩
  ·obtain rfl:=lf h
   exact cm A4 (p6<|sg 10 c5<|eF .normal (dQ name args t p true))<|by kernel_rfl
  ·obtain⟨r7,br7,h⟩:=aw h
   have p9:=fun{sc F} (r:PS sc F)=>p6<|sg 10 c5<|bg (Ja br7)<|r
   rcases aU h with⟨c8,h⟩|⟨c8,h⟩
   ·obtain rfl:=lf h
    exact cm A4 (p9<|sg 15 c8<|eF .normal (dQ name args t p true))<|by kernel_rfl
   ·obtain⟨r10,br10,h⟩:=aw h
    obtain rfl:=lf h
    exact cm A4 (p9<|sg 15 c8<|sv (az p)<|bg (oY br10)<|eF .normal (dQ name args t p (decide (r10>30))))<|by kernel_rfl
end
def mN (t:ae) (p:aa) (name:ag) (args:waB):Option Bool :=
 (fY args t p).bind fun o11=>
 if o11=true then
  xq.bind fun r14=>
  some r14
 else
  (eP t args).bind fun r15=>
  (mI t args).bind fun r16=>
  (n8 t p).bind fun r17=>
  (Aq t p).bind fun r18=>
  (f7 r17 r18).bind fun r19=>
  if r19=true then
   (qD t p).bind fun r22=>
   (I1 t p).bind fun r23=>
   (fA r22 r23).bind fun r24=>
   if r24=true then
    (mf t name).bind fun r27=>
    (As t name).bind fun r28=>
    (f7 r27 r28).bind fun r29=>
    if r29=true then
     (f7 r15.1 r16.1).bind fun r32=>
     if r32=true then
      if(r15.2==r16.2)=true then
       xq.bind fun r37=>
       some r37
      else
       some false
     else
      some false
    else
     some false
   else
    some false
  else
   some false
theorem xT{t:ae}{p:aa}{name:ag}{args:waB}{r:Bool}(h:mN t p name args=some r):CC Pg GE 4 [.agg (af t),.agg (ac p),.str name,sl ac args] (.bool r) []:=by
 obtain⟨o11,bo11,h⟩:=aw h
 have p13:=fun{sc F} (r:PS sc F)=>se (bE t)<|se (bz p)<|kq 1<|cC (ul name args t p bo11)<|r
 rcases aU h with⟨c12,h⟩|⟨c12,h⟩
 ·obtain⟨r14,br14,h⟩:=aw h
  obtain rfl:=lf h
  have z:=p13<|sg 0 c12<|bg (AB br14)<|en (aI (rP (.bool r14))<|trivial)
  exact bS A4 call4 func4 (c:=b4) rfl (aI (ak t) (aI (ah p) (aI trivial (aI (am ah args) trivial)))) z<|by kernel_rfl
 ·obtain⟨r15,br15,h⟩:=aw h
  obtain⟨r16,br16,h⟩:=aw h
  obtain⟨r17,br17,h⟩:=aw h
  obtain⟨r18,br18,h⟩:=aw h
  obtain⟨r19,br19,h⟩:=aw h
  have p21:=fun{sc F} (r:PS sc F)=>p13<|sg 0 c12<|sv (aW t)<|bg (tA br15)<|sx iq<|sx (cn r15.1)<|sv (aW t)<|bg (I0 br16)<|sx iq<|sx (cn r16.1)<|sU [0,0,3,0,0,31,63,127,255,255,1023,255,255,8191,16383,32767,65535,131071,131071,524287,131071,131071,4194303,8388607,16777215,33554431,67108863,67108863,268435455,536870911,1073741823,2147483647,2147483647,8589934591,17179869183,34359738367,68719476735,137438953471,274877906943]<|sv (aW t)<|sv (az p)<|bg (wW br17)<|sv (aW t)<|sv (az p)<|bg (E9 br18)<|bg (ja br19)<|r
  rcases aU h with⟨c20,h⟩|⟨c20,h⟩
  ·obtain⟨r22,br22,h⟩:=aw h
   obtain⟨r23,br23,h⟩:=aw h
   obtain⟨r24,br24,h⟩:=aw h
   have p26:=fun{sc F} (r:PS sc F)=>p21<|sg 8 c20<|sv (aW t)<|sv (az p)<|bg (yO br22)<|sv (aW t)<|sv (az p)<|bg (Nm br23)<|bg (fC br24)<|r
   rcases aU h with⟨c25,h⟩|⟨c25,h⟩
   ·obtain⟨r27,br27,h⟩:=aw h
    obtain⟨r28,br28,h⟩:=aw h
    obtain⟨r29,br29,h⟩:=aw h
    have p31:=fun{sc F} (r:PS sc F)=>p26<|sg 17 c25<|sv (aW t)<|bg (vb br27)<|sv (aW t)<|bg (Ki br28)<|bg (ja br29)<|r
    rcases aU h with⟨c30,h⟩|⟨c30,h⟩
    ·obtain⟨r32,br32,h⟩:=aw h
     have p34:=fun{sc F} (r:PS sc F)=>p31<|sg 26 c30<|sv (bh r15.1 [])<|sv (bh r16.1 [])<|bg (ja br32)<|r
     rcases aU h with⟨c33,h⟩|⟨c33,h⟩
     ·have p36:=fun{sc F} (r:PS sc F)=>p34<|sg 31 c33<|r
      rcases aU h with⟨c35,h⟩|⟨c35,h⟩
      ·obtain⟨r37,br37,h⟩:=aw h
       obtain rfl:=lf h
       have z:=p36<|sg 36 c35<|bg (AB br37)<|en (aI (rP (.bool r37))<|trivial)
       exact bS A4 call4 func4 (c:=b4) rfl (aI (ak t) (aI (ah p) (aI trivial (aI (am ah args) trivial)))) z<|by kernel_rfl
      ·obtain rfl:=lf h
       have z:=p36<|sg 36 c35<|en (aI (rP (.bool false))<|trivial)
       exact bS A4 call4 func4 (c:=b4) rfl (aI (ak t) (aI (ah p) (aI trivial (aI (am ah args) trivial)))) z<|by kernel_rfl
     ·obtain rfl:=lf h
      have z:=p34<|sg 31 c33<|en (aI (rP (.bool false))<|trivial)
      exact bS A4 call4 func4 (c:=b4) rfl (aI (ak t) (aI (ah p) (aI trivial (aI (am ah args) trivial)))) z<|by kernel_rfl
    ·obtain rfl:=lf h
     have z:=p31<|sg 26 c30<|en (aI (rP (.bool false))<|trivial)
     exact bS A4 call4 func4 (c:=b4) rfl (aI (ak t) (aI (ah p) (aI trivial (aI (am ah args) trivial)))) z<|by kernel_rfl
   ·obtain rfl:=lf h
    have z:=p26<|sg 17 c25<|en (aI (rP (.bool false))<|trivial)
    exact bS A4 call4 func4 (c:=b4) rfl (aI (ak t) (aI (ah p) (aI trivial (aI (am ah args) trivial)))) z<|by kernel_rfl
  ·obtain rfl:=lf h
   have z:=p21<|sg 8 c20<|en (aI (rP (.bool false))<|trivial)
   exact bS A4 call4 func4 (c:=b4) rfl (aI (ak t) (aI (ah p) (aI trivial (aI (am ah args) trivial)))) z<|by kernel_rfl
open Go
theorem Lm{α β X:Type}(g:α->β)(e:List β->X):∀(l:List α) (i:Nat) (s:List β),jM (fun _ x (s:List β)=>(Sum.inl (s++[g x]):List β⊕X)) e l i s=e (s++l.map g)
 |[],i,s=>by simp[jM]
 |x::l,i,s=>by
  unfold jM
  simp only
  rw[Lm g e l (i+1) (s++[g x])]
  simp
theorem KW{α β τ X:Type}(l:List α)(hl:l.length<9223372036854775808)(mk:Int->List β->τ)(body:τ->Option (τ⊕X))(g:α->β)(e:List β->X)
  (hin:∀(i:Nat) (h:i<l.length) s,s.length=i->body (mk i s)=some (.inl (mk (bC ((i:Int)+1)) (s++[g l[i]])))) (hend:∀s,body (mk l.length s)=some (.inr (e s))):loop body (mk 0 [])=some (e (l.map g)):=by
 have:=hO l hl mk body (fun i s=>s.length=i) (fun _ x s=>.inl (s++[g x])) e (fun i h s hs=>⟨hin i h s hs,fun s' hs'=>by cases hs';simp[hs]⟩) (fun s _=>hend s) 0 [] (vaJ _) rfl
 rw[Lm]at this
 exact this
set_option linter.unusedSimpArgs false
abbrev UF(a:List ag):Prop:=a.length<9223372036854775808
def KL(l:List ag)(s:ag):Int:=match l.findIdx? (fun x=>x==s)with|some j=>(j:Int)|none=>-1
theorem nG(l:List ag)(s:ag)(hl:l.length<9223372036854775808):fx l s=some (KL l s):=by
 unfold fx qS
 have:=CG l hl (fun zz=>dy l s l.length zz) (fun x=>x==s) (fun j=>Sum.inl (j:Int)) (Sum.inr ()) (fun i h=>by
  simp only[dy]
  rw[vad (by simp;omega),bD _ i h]
  simp only[vaa]
  split<;>simp_all) (by simp only[dy];rw[vag (by simp)])
 rw[this]
 unfold KL
 cases l.findIdx? (fun x=>x==s)<;>rfl
theorem lQ(l:List ag)(s:ag):decide (KL l s>=0)=l.any fun k=>k==s:=by
 unfold KL
 cases h:l.findIdx? (fun x=>x==s)with
 |none=>
  rw[vco]at h
  symm
  simp only[vbm]
  rw[show decide ((-1:Int)>=0)=false from rfl]
  simp only[vbm,Bool.not_eq_true]
  exact h
 | some j =>
  have h2:l.any (fun x=>x==s)=true:=by
   have:=List.findIdx?_isSome (xs:=l) (p:=fun x=>x==s)
   rw[h]at this
   exact this.symm
  rw[h2]
  simp
theorem NH(l:List ag)(s:ag):decide (KL l s<0)= !l.any fun k=>k==s:=by
 rw[<-lQ]
 rw[<-decide_not]
 simp
theorem Ip{α:Type}(k:ag)(v:α)(j:ag):∀(m:List (ag×α)),uB (xV m k v) j=if(j==k)=true then some v else uB m j
 |[]=>by
  simp only[xV,uB,List.find?_cons,List.find?_nil]
  cases(j==k)<;>rfl
 | e :: r => by
  have ih:=Ip k v j r
  unfold xV
  by_cases h:(k==e.1)=true
  ·have h':k=e.1:=by simpa using h
   rw[vad h]
   unfold uB
   simp only[List.find?_cons]
   rw[<-h']
   cases hj:(j==k)<;>simp
  ·rw [vag h]
   unfold uB at ih ⊢
   simp only[List.find?_cons]
   cases hj:(j==e.1)
   ·simpa using ih
   ·have:¬(j==k)=true:=fun hk=>h (by
      have h1:j=e.1:=by simpa using hj
      have h2:j=k:=by simpa using hk
      simp[<-h1,<-h2])
    simp[this]
abbrev Gb(m:List (ag×Bool))(k:ag):Bool:=(uB m k).getD false
theorem Pt(m:List (ag×Bool))(k j:ag):Gb (xV m k true) j=(j==k||Gb m j):=by
 unfold Gb
 rw[Ip]
 cases(j==k)<;>rfl
def LX(l:ag):Nat:=l.foldl (fun a c=>10 * a+(c.toNat - 48)) 0
theorem FH(u:Nat):LX (Lib.decDigits u)=u:=by
 induction u using Nat.strongRecOn with
 | _ u ih =>
  rw[Lib.decDigits]
  by_cases h:u<10
  ·rw[dif_pos h]
   unfold LX
   simp
   omega
  ·rw[dif_neg h]
   have:=ih (u / 10) (by omega)
   unfold LX at this ⊢
   rw[vcs,this]
   simp
   omega
theorem QT{u v:Nat}(h:Lib.decDigits u=Lib.decDigits v):u=v:=by rw[<-FH u,<-FH v,h]
theorem Jk(u:Nat):(Lib.decDigits u).length<=u+1:=by
 induction u using Nat.strongRecOn with
 | _ u ih =>
  rw[Lib.decDigits]
  by_cases h:u<10
  ·rw[dif_pos h];simp
  ·rw[dif_neg h]
   have:=ih (u / 10) (by omega)
   simp
   omega
theorem II:∀(k n:Nat) (acc:ag),n<=k->n<=1000000000->acc.length<=1000000000 - n->kX acc n=some (if n=0 then acc else Lib.decDigits n++acc)
 |k,0,acc,_,_,_=>by
  unfold kX
  exact mT rfl
 |0,n+1,_,h,_,_=>absurd h (by omega)
 | k + 1,n + 1,acc,hk,hn,ha => by
  have hb:jV acc ((n+1:Nat):Int)=some (.inl (UInt8.ofNat (48+(n+1) % 10)::acc,(((n+1) / 10:Nat):Int))):=by
   simp only[jV]
   have h1:(((n+1:Nat):Int)!=0)=true:=by simp;omega
   have h2:re ((n+1:Nat):Int) 10=some (((n+1) % 10:Nat):Int):=by
    simp only[re]
    have e:((n+1:Nat):Int) % 10=(((n+1) % 10:Nat):Int):=by omega
    rw[vag (by omega),Int.tmod_eq_emod_of_nonneg (by omega),e]
   have h3:qR (((n+1) % 10:Nat):Int)=some (((n+1) % 10:Nat):Int):=by
    simp only[qR]
    rw[vag (by simp;omega)]
   have h4:IntKind.u8.wrap (bC (48+(((n+1) % 10:Nat):Int)))=((48+(n+1) % 10:Nat):Int):=by
    rw[gA (by omega) (by omega)]
    have h5:(48:Int)+(((n+1) % 10:Nat):Int)=((48+(n+1) % 10:Nat):Int):=by omega
    rw[h5]
    generalize hq:48+(n+1) % 10=q
    have:q<58:=by omega
    show((q:Int) % 256)=q
    omega
   have h6:qi [((48+(n+1) % 10:Nat):Int)]=some [UInt8.ofNat (48+(n+1) % 10)]:=by
    simp only[qi]
    rw[vad (by omega)]
    rfl
   have h7:qu .i64 ((n+1:Nat):Int) 10=some (((n+1) / 10:Nat):Int):=by
    simp only[qu]
    rw[vag (by omega),Int.tdiv_eq_ediv_of_nonneg (by omega)]
    have e:((n+1:Nat):Int) / 10=(((n+1) / 10:Nat):Int):=by omega
    rw[e]
    exact vbo some (gA (by omega) (by omega))
   rw[h1]
   simp only[if_true,h2,vaa,h3,h4,h6]
   rw[FC (by simp;omega),h7]
   rfl
  unfold kX
  refine(pH (body:=fun zz:ag×Int=>jV zz.1 zz.2) (s:=(acc,((n+1:Nat):Int))) (s':=(UInt8.ofNat (48+(n+1) % 10)::acc,(((n+1) / 10:Nat):Int))) hb).trans ?_
  have ih:=II k ((n+1) / 10) (UInt8.ofNat (48+(n+1) % 10)::acc) (by omega) (by omega) (by simp;omega)
  unfold kX at ih
  rw[ih,vag (by omega:¬n+1=0)]
  conv=>rhs;rw[Lib.decDigits]
  by_cases h:n+1<10
  ·rw[dif_pos h,vad (by omega),vb4 h]
   rfl
  ·rw[dif_neg h,vag (by omega)]
   simp
theorem Dl(n:Nat)(h0:1<=n)(h:n<=1000000000):Ak n=some (Lib.decDigits n):=by
 unfold Ak
 have h1:((n:Int)==0)=false:=by simp;omega
 rw[h1,II n n [] (var _) h (by simp)]
 have h2:decide ((n:Int)<0)=false:=by simp
 simp only[vaH,if_false,vaa,h2]
 rw[vag (by omega)]
 simp
theorem KR(n:Nat)(h:n<=1000000000):MO n=some (Lib.decDigits n):=by
 unfold MO Lib.itoa
 rw[vad (by simp;omega),vag (by omega)]
 rfl
theorem PL:∀(used L:List ag),L.Nodup->used.length<L.length->∃x∈L,x∉used
 |[],L,_,h=>by
  cases L with
  |nil=>simp at h
  |cons x L=>exact⟨x,by simp,by simp⟩
 | u :: us,L,hn,h => by
  obtain⟨x,hx,hu⟩:=PL us (L.erase u) (hn.erase u) (by
   have:=List.length_erase (a:=u) (l:=L)
   rw[this]
   simp at h
   split<;>omega)
  rw[hn.mem_erase_iff]at hx
  exact⟨x,hx.2,by simp[hx.1,hu]⟩
theorem O9(used:List ag)(base:ag):∃n,1<=n/\n<=used.length+1/\base++Lib.decDigits n∉used:=by
 obtain⟨x,hx,hu⟩:=PL used ((List.range (used.length+1)).map fun i=>base++Lib.decDigits (i+1)) (by
  unfold List.Nodup
  rw[List.pairwise_map]
  refine vcQ ?_ (List.nodup_range (n:=used.length+1))
  intro a b hab e
  have:=QT (List.append_cancel_left e)
  omega) (by simp)
 simp only[vak,vbs]at hx
 obtain⟨i,hi,rfl⟩:=hx
 exact⟨i+1,by omega,by omega,hu⟩
def oA(used:List ag)(base:ag):Nat->Nat->ag
 |0,_=>[]
 |k+1,n=>if used.contains (base++Lib.decDigits n)=true then oA used base k (n+1)else base++Lib.decDigits n
def gK(used:List ag)(base:ag):ag:=if used.contains base=true then oA used base 100000001 1 else base
theorem A2(used:List ag)(hl:UF used):∃m,lU used used.length 0 []=some m/\∀k,Gb m k=used.contains k:=by
 unfold lU
 have:=hO used hl (fun i (m:List (ag×Bool))=>(i,m)) (fun zz=>gi used used.length zz.1 zz.2) (fun _ _=>True) (fun _ x m=>.inl (xV m x true)) (fun m=>m) (fun i hi t _=>⟨by
   simp only[gi]
   rw[vad (by simp;omega),bD _ i hi]
   rfl,fun _ _=>trivial⟩) (fun _ _=>by simp only[gi];rw[vag (by simp)]) 0 [] (vaJ _) trivial
 simp only[Int.ofNat_zero,vba]at this
 rw[this]
 refine⟨_,rfl,?_⟩
 have key:∀(l:List ag) (i:Nat) (m:List (ag×Bool)) k,Gb (jM (fun _ x (m:List (ag×Bool))=>(Sum.inl (xV m x true):List (ag×Bool)⊕List (ag×Bool))) (fun m=>m) l i m) k=(l.contains k||Gb m k):=by
  intro l
  induction l with
  |nil=>intro i m k;simp[jM]
  |cons x l ih=>
   intro i m k
   unfold jM
   simp only[ih,Pt,List.contains_cons]
   cases(k==x)<;>cases l.contains k<;>simp
 intro k
 rw[key]
 simp[Gb,uB]
theorem Du(used:List ag)(base:ag)(m:List (ag×Bool))(hm:∀k,Gb m k=used.contains k)(hl:used.length<=100000000)(hb:base.length<=4000000000000000000)(N:Nat)(hN:base++Lib.decDigits N∉used)(hN2:N<=100000001):∀(k n:Nat),1<=n->n<=N->N<n+k->jn base m n=some (oA used base k n)/\gD used base (base++Lib.decDigits n) ((n+1:Nat):Int)=some (oA used base k n)/\oA used base k n∉used
 |0,n,_,h1,h2=>absurd h2 (by omega)
 | k + 1,n,h0,h1,h2 => by
  have hd:=Jk n
  have hd2:=Jk (n+1)
  have e1:bC ((n:Int)+1)=((n+1:Nat):Int):=by rw[gA (by omega) (by omega)];omega
  have e2:bC (((n+1:Nat):Int)+1)=((n+2:Nat):Int):=by rw[gA (by omega) (by omega)];omega
  unfold oA
  by_cases hc:used.contains (base++Lib.decDigits n)=true
  ·rw[vad hc]
   have hne:n≠N:=by
    rintro rfl
    exact hN (by simpa using hc)
   obtain⟨i1,i2,i3⟩:=Du used base m hm hl hb N hN hN2 k (n+1) (by omega) (by omega) (by omega)
   have hm':=hm (base++Lib.decDigits n)
   unfold Gb at hm'
   have b1:eS base m (n:Int)=some (.inl (((n+1:Nat):Int))):=by
    simp only[eS]
    rw[KR n (by omega)]
    simp only[vaa]
    rw[FC (by omega)]
    simp only[vaa,hm',hc,e1]
    rfl
   have b2:cp used base (base++Lib.decDigits n) ((n+1:Nat):Int)=some (.inl (base++Lib.decDigits (n+1),((n+2:Nat):Int))):=by
    simp only[cp]
    rw[nG _ _ (by omega)]
    simp only[vaa,lQ]
    have:(used.any fun k=>k==base++Lib.decDigits n)=true:=by simpa[vbr]using hc
    rw[this,vad rfl,Dl (n+1) (by omega) (by omega)]
    simp only[vaa]
    rw[FC (by omega)]
    simp only[vaa,e2]
   refine⟨?_,?_,i3⟩
   ·unfold jn at i1 ⊢
    exact(pH b1).trans i1
   ·unfold gD at i2 ⊢
    exact(pH (body:=fun zz:ag×Int=>cp used base zz.1 zz.2) (s:=(base++Lib.decDigits n,((n+1:Nat):Int))) (s':=(base++Lib.decDigits (n+1),((n+2:Nat):Int))) b2).trans i2
  ·rw[vag hc]
   have hc':used.contains (base++Lib.decDigits n)=false:=by simpa using hc
   have hm':=hm (base++Lib.decDigits n)
   unfold Gb at hm'
   have b1:eS base m (n:Int)=some (.inr (base++Lib.decDigits n)):=by
    simp only[eS]
    rw[KR n (by omega)]
    simp only[vaa]
    rw[FC (by omega)]
    simp only[vaa,hm',hc']
    rfl
   have b2:cp used base (base++Lib.decDigits n) ((n+1:Nat):Int)=some (.inr (base++Lib.decDigits n)):=by
    simp only[cp]
    rw[nG _ _ (by omega)]
    simp only[vaa,lQ]
    have:(used.any fun k=>k==base++Lib.decDigits n)=false:=by
     rw[vcu]
     intro h
     apply hc
     simpa[vbr]using h
    rw[this]
    rfl
   refine⟨?_,?_,by simpa using hc⟩
   ·unfold jn
    exact mT b1
   ·unfold gD
    exact mT (body:=fun zz:ag×Int=>cp used base zz.1 zz.2) (s:=(base++Lib.decDigits n,((n+1:Nat):Int))) b2
theorem Ka(used:List ag)(base:ag)(hl:used.length<=100000000)(hb:base.length<=4000000000000000000):rv used base=some (gK used base)/\xl used base=some (gK used base)/\gK used base∉used:=by
 obtain⟨m,hm1,hm⟩:=A2 used (show _<_ by omega)
 have hm':=hm base
 unfold Gb at hm'
 obtain⟨N,h1,h2,h3⟩:=O9 used base
 obtain⟨i1,i2,i3⟩:=Du used base m hm hl hb N h3 (by omega) 100000001 1 (var _) h1 (by omega)
 unfold rv xl gK
 rw[hm1]
 simp only[vaa,hm']
 have hd:=Jk 1
 by_cases hc:used.contains base=true
 ·simp only[hc,vbV,vaH,if_false,if_true]
  simp only[Int.ofNat_one]at i1
  rw[i1]
  have b2:cp used base base 1=some (.inl (base++Lib.decDigits 1,((2:Nat):Int))):=by
   simp only[cp]
   rw[nG _ _ (by omega)]
   simp only[vaa,lQ]
   have:(used.any fun k=>k==base)=true:=by simpa[vbr]using hc
   have ht:=Dl 1 (by omega) (by omega)
   simp only[Int.ofNat_one]at ht
   rw[this,vad rfl,ht]
   simp only[vaa]
   rw[FC (by omega)]
   rfl
  unfold gD at i2 ⊢
  have:=(pH (body:=fun zz:ag×Int=>cp used base zz.1 zz.2) (s:=(base,1)) (s':=(base++Lib.decDigits 1,((2:Nat):Int))) b2).trans i2
  rw[this]
  exact⟨rfl,rfl,i3⟩
 ·have hc':used.contains base=false:=by simpa using hc
  simp only[hc',vbG,if_true,vaH,if_false]
  have b2:cp used base base 1=some (.inr base):=by
   simp only[cp]
   rw[nG _ _ (by omega)]
   simp only[vaa,lQ]
   have:(used.any fun k=>k==base)=false:=by
    rw[vcu]
    intro h
    apply hc
    simpa[vbr]using h
   rw[this]
   rfl
  unfold gD
  have:=mT (body:=fun zz:ag×Int=>cp used base zz.1 zz.2) (s:=(base,1)) b2
  rw[this]
  exact⟨trivial,rfl,by simpa using hc⟩
theorem AQ{u v:List ag}(h:∀x,x∈u↔x∈v)(base:ag):∀(k n:Nat),oA u base k n=oA v base k n
 |0,n=>by rw[oA,oA]
 | k + 1,n => by
  have e:u.contains (base++Lib.decDigits n)=v.contains (base++Lib.decDigits n):=by
   rw[vcd,vbB,vbB]
   exact h _
  rw[oA,oA,e,AQ h base k (n+1)]
theorem AR{u v:List ag}(h:∀x,x∈u↔x∈v)(base:ag):gK u base=gK v base:=by
 have e:u.contains base=v.contains base:=by
  rw[vcd,vbB,vbB]
  exact h _
 unfold gK
 rw[e,AQ h]
abbrev DO(l:List ag):Prop:=l.Pairwise LL
theorem uA:∀{a b:List ag},DO a->DO b->(∀x,x∈a↔x∈b)->a=b
 |[],[],_,_,_=>rfl
 |[],y::b,_,_,h=>by have:=(h y).2 (by simp);simp at this
 |x::a,[],_,_,h=>by have:=(h x).1 (by simp);simp at this
 | x :: a,y :: b,ha,hb,h => by
  unfold DO at ha hb
  rw[va6]at ha hb
  have hxy:x=y:=by
   have h1:=(h x).1 (by simp)
   have h2:=(h y).2 (by simp)
   rw[vaE]at h1 h2
   rcases h1 with h1|h1
   ·exact h1
   ·rcases h2 with h2|h2
    ·exact h2.symm
    ·have:=nN (hb.1 x h1) (ha.1 y h2)
     unfold LL at this
     rw[pE]at this
     cases this
  subst hxy
  congr 1
  refine uA ha.2 hb.2 fun z=>?_
  constructor
  ·intro hz
   have:=(h z).1 (by simp[hz])
   rw[vaE]at this
   rcases this with rfl|this
   ·have:=ha.1 _ hz;unfold LL at this;rw[pE]at this;cases this
   ·exact this
  ·intro hz
   have:=(h z).2 (by simp[hz])
   rw[vaE]at this
   rcases this with rfl|this
   ·have:=hb.1 _ hz;unfold LL at this;rw[pE]at this;cases this
   ·exact this
theorem yq(d:List ag)(hs:d.Pairwise fun x y=>Op.bytesLess y x=false):∀m,m<=d.length->DO (Lib.compactUpTo d.toArray m)/\∀x,x∈Lib.compactUpTo d.toArray m↔∃(j:Nat) (h:j<d.length),j<m/\d[j]=x
 |0,_=>by
  refine⟨by simp[Lib.compactUpTo,DO],fun x=>?_⟩
  simp[Lib.compactUpTo]
 | m + 1,hm => by
  obtain⟨h1,h2⟩:=yq d hs m (by omega)
  have hg:∀j (h:j<d.length),d.toArray[j]! =d[j]:=fun j h=>by simp[h]
  rw[Lib.compactUpTo_succ]
  by_cases hk:Lib.keeps d.toArray m=true
  ·rw [vad hk,hg m (by omega)]
   refine⟨?_,fun x=>?_⟩
   ·unfold DO
    rw[List.pairwise_append]
    refine⟨h1,by simp,fun x hx y hy=>?_⟩
    simp at hy
    subst hy
    obtain⟨j,hj,hjm,rfl⟩:=(h2 x).1 hx
    have hne:d[m - 1]≠d[m]:=by
     unfold Lib.keeps at hk
     simp only[vao]at hk
     rcases hk with hk|hk
     ·omega
     ·rw[hg m (by omega),hg (m - 1) (by omega)]at hk
      exact fun e=>hk e.symm
    have hlt:Op.bytesLess d[m - 1] d[m]=true:=by
     have k1:=(vbC.1 hs) (m - 1) m (by omega) (by omega) (by omega)
     cases h:Op.bytesLess d[m - 1] d[m]with
     |true=>rfl
     |false=>exact absurd (qd h k1) hne
    by_cases hj2:j=m - 1
    ·subst hj2;exact hlt
    ·have k2:=(vbC.1 hs) j (m - 1) (by omega) (by omega) (by omega)
     cases h:Op.bytesLess d[j] d[m - 1]with
     |true=>exact nN h hlt
     |false=>
      have:=qd h k2
      rw[this];exact hlt
   ·rw[vaA,h2]
    constructor
    ·rintro(⟨j,hj,hjm,rfl⟩|hx)
     ·exact⟨j,hj,by omega,rfl⟩
     ·simp at hx;exact⟨m,by omega,by omega,hx.symm⟩
    ·rintro⟨j,hj,hjm,rfl⟩
     by_cases e:j=m
     ·subst e;exact .inr (by simp)
     ·exact .inl ⟨j,hj,by omega,rfl⟩
  ·rw [vag hk,vbw]
   refine⟨h1,fun x=>?_⟩
   rw[h2]
   constructor
   ·rintro⟨j,hj,hjm,rfl⟩;exact⟨j,hj,by omega,rfl⟩
   ·rintro⟨j,hj,hjm,rfl⟩
    by_cases e:j=m
    ·subst e
     have:j≠0/\d.toArray[j]! =d.toArray[j - 1]! :=by
      unfold Lib.keeps at hk
      simp only[vao,not_or,ne_eq,Decidable.not_not]at hk
      exact hk
     rw[hg j hj,hg (j - 1) (by omega)]at this
     exact⟨j - 1,by omega,by omega,this.2.symm⟩
    ·exact⟨j,hj,by omega,rfl⟩
def gM(a b:List ag):List ag:=Lib.compact (jy (a++b))
theorem Aa(a b:List ag):DO (gM a b)/\∀x,x∈gM a b↔x∈a\/x∈b:=by
 obtain⟨h1,h2⟩:=yq (jy (a++b)) (B3 _) _ (var _)
 refine⟨h1,fun x=>?_⟩
 rw[show gM a b=Lib.compactUpTo (jy (a++b)).toArray (jy (a++b)).length from rfl,h2,<-vaA,<-Oj,vcK]
 constructor
 ·rintro⟨j,h,_,e⟩;exact⟨j,h,e⟩
 ·rintro⟨j,h,e⟩;exact⟨j,h,h,e⟩
theorem wE(a b:List ag)(h:a.length+b.length<=1073741824):lc a b=some (gM a b):=by
 unfold lc
 rw[cX (by simp;omega)]
 simp only[vaa]
 rw[cX (by simp;omega)]
 simp only[vaa]
 rw[KQ]
 rfl
def FY(s:ag):List ag->List ag
 |[]=>[s]
 |x::r=>if Op.bytesLess x s=true then x::FY s r else if(x==s)=true then s::r else s::x::r
def kk(s:ag):List ag->Nat
 |[]=>0
 |x::r=>if Op.bytesLess x s=true then kk s r+1 else 0
theorem RG(s:ag):∀l,kk s l<=l.length
 |[]=>var _
 |x::r=>by have:=RG s r;unfold kk;split<;>simp<;>omega
theorem Pk(s:ag):∀l,FY s l=l.take (kk s l)++s::l.drop (kk s l+if(l[kk s l]? ==some s)=true then 1 else 0)
 |[]=>by simp[FY,kk]
 | x :: r => by
  have ih:=Pk s r
  unfold FY kk
  by_cases h:Op.bytesLess x s=true
  ·rw[vad h,vad h,ih]
   simp only[List.take_succ_cons,List.getElem?_cons_succ,vby]
   rw[show kk s r+1+(if(r[kk s r]? ==some s)=true then 1 else 0)=(kk s r+if(r[kk s r]? ==some s)=true then 1 else 0)+1 by omega,List.drop_succ_cons]
  ·rw[vag h,vag h]
   by_cases hx:(x==s)=true
   ·have:x=s:=by simpa using hx
    simp[this]
   ·have:¬x=s:=by simpa using hx
    simp[this]
theorem EQ(s:ag):∀l,(FY s l).length<=l.length+1
 |[]=>by simp[FY]
 | x :: r => by
  have:=EQ s r
  unfold FY
  split
  ·simp;omega
  ·split<;>simp
theorem JA(s:ag):∀l x,x∈FY s l↔x=s\/x∈l
 |[],x=>by simp[FY]
 | y :: r,x => by
  have:=JA s r x
  unfold FY
  by_cases h:Op.bytesLess y s=true
  ·rw[vad h,vaE,this,vaE]
   constructor
   ·rintro(h|h|h)<;>simp[h]
   ·rintro(h|h|h)<;>simp[h]
  ·rw[vag h]
   by_cases hy:(y==s)=true
   ·have e:y=s:=by simpa using hy
    rw[vad hy,e]
    simp
   ·rw[vag hy]
    simp
theorem MN(s:ag):∀{l},DO l->DO (FY s l)
 |[],_=>by simp[FY,DO]
 | x :: r,h => by
  unfold DO at h ⊢
  rw[va6]at h
  unfold FY
  by_cases hx:Op.bytesLess x s=true
  ·rw[vad hx,va6]
   refine⟨fun y hy=>?_,MN s h.2⟩
   rw[JA]at hy
   rcases hy with rfl|hy
   ·exact hx
   ·exact h.1 y hy
  ·rw [vag hx]
   by_cases he:(x==s)=true
   ·have e:x=s:=by simpa using he
    subst e
    rw[vad he,va6]
    exact h
   ·have hsx:LL s x:=by
     cases hc:Op.bytesLess s x with
     |true=>exact hc
     |false=>
      have:=qd (by simpa using hx) hc
      simp[this]at he
    rw[vag he,va6,va6]
    refine⟨fun y hy=>?_,h⟩
    rw[vaE]at hy
    rcases hy with rfl|hy
    ·exact hsx
    ·exact nN hsx (h.1 y hy)
theorem M7(s:ag):∀(l:List ag) (i:Nat) (out:List ag),jM (fun i x (out:List ag)=>if Op.bytesLess x s=true then(Sum.inl (out++[x]):List ag⊕(List ag×Nat))else .inr (out,i)) (fun out=>(out,i+l.length)) l i out=(out++l.take (kk s l),i+kk s l)
 |[],i,out=>by simp[jM,kk]
 | x :: l,i,out => by
  have ih:=M7 s l (i+1) (out++[x])
  unfold jM kk
  by_cases h:Op.bytesLess x s=true
  ·simp only[h,if_true]
   rw[show i+(x::l).length=i+1+l.length by simp;omega,ih]
   simp
   omega
  ·simp[h]
theorem IF{α σ X Y:Type}(g:X->Y)(f:Nat->α->σ->σ⊕X)(e:σ->X):∀(l:List α) (i:Nat) (s:σ),jM (fun i x s=>Sum.map id g (f i x s)) (fun s=>g (e s)) l i s=g (jM f e l i s)
 |[],i,s=>rfl
 |x::l,i,s=>by
  unfold jM
  cases f i x s with
  |inl s'=>exact IF g f e l (i+1) s'
  |inr y=>rfl
def Px{σ:Type}(y:σ×Nat):σ×Int:=(y.1,(y.2:Int))
theorem E4(a:List ag)(s:ag)(ha:a.length<=1000000000):qU a s=some (FY s a):=by
 unfold qU za
 have:=hO a (by omega) (fun i (out:List ag)=>(out,i)) (fun zz=>lx a s zz.1 zz.2) (fun i out=>out.length=i)
  (fun i x out=>Sum.map id Px (if Op.bytesLess x s=true then(Sum.inl (out++[x]):List ag⊕(List ag×Nat))else .inr (out,i))) (fun out=>Px (out,0+a.length)) (fun i hi out hI=>by
   have hb:mH a s i=some (Op.bytesLess a[i] s):=by
    simp only[mH]
    rw[vad (by simp;omega),bD _ i hi]
    rfl
   refine⟨?_,fun s' hs'=>?_⟩
   ·simp only[lx]
    rw[hb]
    simp only[vaa]
    by_cases hl:Op.bytesLess a[i] s=true
    ·rw[vad hl,vad hl,bD _ i hi]
     simp only[vaa]
     rw[cX (by simp;omega)]
     rfl
    ·rw[vag hl,vag hl]
     rfl
   ·by_cases hl:Op.bytesLess a[i] s=true
    ·rw[vad hl]at hs';cases hs';simp;omega
    ·rw[vag hl]at hs';cases hs') (fun out _=>by
   have hb:mH a s a.length=some false:=by
    simp only[mH]
    rw[vag (by simp)]
   simp only[lx]
   rw[hb]
   simp[Px]) 0 [] (vaJ _) rfl
 simp only[Int.ofNat_zero,vba]at this
 have hm:=IF Px (fun i x (out:List ag)=>if Op.bytesLess x s=true then(Sum.inl (out++[x]):List ag⊕(List ag×Nat))else .inr (out,i)) (fun out=>(out,0+a.length)) a 0 []
 rw[this.trans (vbo some hm),M7 s a 0 []]
 simp only[va3,vaF,vaa,Px]
 have hk:=RG s a
 rw[cX (by simp;omega)]
 simp only[vaa]
 have hj:tU a s (kk s a)=some ((kk s a+if(a[kk s a]? ==some s)=true then 1 else 0:Nat):Int):=by
  unfold tU y9
  by_cases hlt:kk s a<a.length
  ·rw[vad (by simp;omega),bD _ _ hlt]
   simp only[vaa,vab hlt]
   have e:(some a[kk s a]==some s)=(a[kk s a]==s):=rfl
   rw[e]
   by_cases h:(a[kk s a]==s)=true
   ·rw[vad h,vad h,gA (by omega) (by omega)]
    rfl
   ·rw[vag h,vag h]
    rfl
  ·have hn:a[kk s a]? =none:=by simp;omega
   rw[vag (by simp;omega),hn]
   rfl
 rw[hj]
 simp only[vaa]
 have hle:kk s a+(if(a[kk s a]? ==some s)=true then 1 else 0)<=a.length:=by
  by_cases hlt:kk s a<a.length
  ·split<;>omega
  ·have hn:a[kk s a]? =none:=by simp;omega
   rw[hn]
   simp
   omega
 rw[P6 a _ hle]
 simp only[vaa]
 rw[cX (by simp;omega),Pk]
 simp
theorem z8{α σ:Type}(g:σ->α->σ):∀(l:List α) (i:Nat) (s:σ),jM (fun _ x s=>(Sum.inl (g s x):σ⊕σ)) (fun s=>s) l i s=l.foldl g s
 |[],i,s=>rfl
 |x::l,i,s=>z8 g l (i+1) (g s x)
theorem zB:∀(l out:List ag),DO out->DO (l.foldl (fun o x=>FY x o) out)/\(∀x,x∈l.foldl (fun o x=>FY x o) out↔x∈out\/x∈l)/\(l.foldl (fun o x=>FY x o) out).length<=out.length+l.length
 |[],out,h=>⟨h,by simp,by simp⟩
 | y :: l,out,h => by
  obtain⟨h1,h2,h3⟩:=zB l (FY y out) (MN y h)
  have:=EQ y out
  refine⟨h1,fun x=>?_,by simp only[List.foldl_cons,vaT];omega⟩
  rw[List.foldl_cons,h2,JA,vaE]
  constructor
  ·rintro((h|h)|h)<;>simp[h]
  ·rintro(h|h|h)<;>simp[h]
theorem gE(a b:List ag)(ha:a.length<=400000000)(hb:b.length<=400000000):ec a b=some (gM a b):=by
 unfold ec ls lu
 have t1:=hO a (by omega) (fun i (out:List ag)=>(out,i)) (fun zz=>iZ a a.length zz.1 zz.2) (fun i out=>out.length<=i) (fun _ x out=>(Sum.inl (FY x out):List ag⊕List ag)) (fun o=>o) (fun i hi out hI=>by
   refine⟨?_,fun s' hs'=>?_⟩
   ·simp only[iZ]
    rw[vad (by simp;omega),bD _ i hi]
    simp only[vaa]
    rw[E4 _ _ (by omega)]
    rfl
   ·cases hs'
    have:=EQ a[i] out
    omega) (fun out _=>by simp only[iZ];rw[vag (by simp)]) 0 [] (vaJ _) (var _)
 simp only[Int.ofNat_zero,vba]at t1
 rw[z8 (fun o x=>FY x o)]at t1
 obtain⟨f1,f2,f3⟩:=zB a [] (by simp[DO])
 have t2:=hO b (by omega) (fun i (out:List ag)=>(out,i)) (fun zz=>cu b b.length zz.1 zz.2) (fun i out=>out.length<=400000000+i) (fun _ x out=>(Sum.inl (FY x out):List ag⊕List ag)) (fun o=>o) (fun i hi out hI=>by
   refine⟨?_,fun s' hs'=>?_⟩
   ·simp only[cu]
    rw[vad (by simp;omega),bD _ i hi]
    simp only[vaa]
    rw[E4 _ _ (by omega)]
    rfl
   ·cases hs'
    have:=EQ b[i] out
    omega) (fun out _=>by simp only[cu];rw[vag (by simp)]) 0 (a.foldl (fun o x=>FY x o) []) (vaJ _) (by simp at f3;omega)
 simp only[Int.ofNat_zero,vba]at t2
 rw[z8 (fun o x=>FY x o)]at t2
 rw[t1]
 simp only[vaa]
 rw[t2]
 simp only[vaa,vat]
 obtain⟨g1,g2,_⟩:=zB b _ f1
 obtain⟨u1,u2⟩:=Aa a b
 refine uA g1 u1 fun x=>?_
 rw[g2,f2,u2]
 simp
mutual
def nP:aa->Nat
 |⟨_,_,_,ks⟩=>nL ks+1
def nL:List aa->Nat
 |[]=>0
 |p::ps=>nP p+nL ps
end
theorem Gc(p:aa):nP p=nL p.Kids+1:=by obtain⟨o,n,k,ks⟩:=p;rw[nP];rfl
theorem L8(p:aa):1<=nP p:=by rw[Gc];omega
theorem CJ:∀{l:List aa} {x:aa},x∈l->nP x<=nL l
 | y :: l,x,h => by
  rw[nL]
  rcases vaE.1 h with rfl|h
  ·omega
  ·have:=CJ h;omega
theorem wB:∀(l:List aa),l.length<=nL l
 |[]=>by simp[nL]
 |p::l=>by rw[nL];have:=wB l;have:=L8 p;simp only[vaT];omega
theorem lS{p x:aa}(h:x∈p.Kids):nP x<nP p:=by rw[Gc p];have:=CJ h;omega
theorem nV(p:aa):p.Kids.length<nP p:=by rw[Gc];have:=wB p.Kids;omega
theorem tk:∀(a b:List aa),nL (a++b)=nL a+nL b
 |[],b=>by simp[nL]
 |p::a,b=>by rw[vby,nL,tk a b,nL];omega
mutual
theorem MV:∀(p:aa),nP p<=wL (ac p)
 |⟨o,n,k,ks⟩=>by
  have:=Iq ks
  rw[nP,aE]
  simp only[wL,pm,sl]
  show nL ks+1<=1+(n.length+1+(1+(mw (ks.map ac)+1+0)))
  omega
theorem Iq:∀(l:List aa),nL l<=mw (l.map ac)
 |[]=>by simp[nL]
 |p::l=>by
  have:=MV p
  have:=Iq l
  rw[nL]
  simp only[vay,mw]
  omega
end
mutual
def U2:aa->aa->Bool
 |⟨o,n,k,ks⟩,⟨o',n',k',ks'⟩=>(o==o')&&((n==n')&&((k==k')&&Sq ks ks'))
def Sq:List aa->List aa->Bool
 |[],[]=>true
 |x::xs,y::ys=>U2 x y&&Sq xs ys
 |_,_=>false
end
mutual
theorem MG:∀(a b:aa),U2 a b=true↔a=b
 |⟨o,n,k,ks⟩,⟨o',n',k',ks'⟩=>by
  rw[U2]
  have:=MF ks ks'
  simp only[vaf,vaZ,this,aa.mk.injEq]
theorem MF:∀(a b:List aa),Sq a b=true↔a=b
 |[],[]=>by simp[Sq]
 |x::xs,y::ys=>by
  rw[Sq]
  have h1:=MG x y
  have h2:=MF xs ys
  simp only[vaf,h1,h2,vbE]
 |[],y::ys=>by simp[Sq]
 |x::xs,[]=>by simp[Sq]
end
instance:DecidableEq aa:=fun a b=>decidable_of_iff _ (MG a b)
theorem jG(p:aa):(⟨p.Op,p.Name,p.N,p.Kids⟩:aa)=p:=by cases p;rfl
theorem tH{a b:aa}:a=b↔a.Op=b.Op/\a.Name=b.Name/\a.N=b.N/\a.Kids=b.Kids:=by
 cases a;cases b
 simp only[aa.mk.injEq]
 rfl
theorem Nj{α:Type}[DecidableEq α]:∀{a b:List α},a.length=b.length->(a.zip b).any (fun x=>decide (x.1≠x.2))= !decide (a=b)
 |[],[],_=>by simp
 |x::a,y::b,h=>by
  have ih:=Nj (a:=a) (b:=b) (by simpa using h)
  rw[List.zip_cons_cons,List.any_cons,ih]
  by_cases h1:x=y<;>by_cases h2:a=b<;>simp[h1,h2]
theorem KX{α X:Type}[DecidableEq α]{a b:List α}(hl:a.length=b.length)(ha:a.length<9223372036854775808)(body:Int->Option (Int⊕X))(y e:X)
  (hin:∀(i:Nat) (h:i<a.length) (h':i<b.length),body i=some (if decide (a[i]=b[i])=true then .inl (bC ((i:Int)+1))else .inr y)) (hend:body a.length=some (.inr e)):loop body 0=some (if decide (a=b)=true then e else y):=by
 have hz:(a.zip b).length=a.length:=by simp[hl]
 have:=F9 (a.zip b) (by omega) body (fun x=>decide (x.1≠x.2)) y e (fun i h=>?_) (by rw[hz];exact hend) 0 (vaJ _)
 ·rw[vba,Nj hl]at this
  rw[show((0:Nat):Int)=0 from rfl]at this
  rw[this]
  by_cases h:a=b<;>simp[h]
 ·have h1:i<a.length:=by omega
  have h2:i<b.length:=by omega
  rw[hin i h1 h2]
  have hzi:(a.zip b)[i]=(a[i],b[i]):=by simp
  rw[hzi]
  by_cases h:a[i]=b[i]<;>simp[h]
abbrev bj:Nat:=1073741824
theorem jm{n:Nat}(h:n<=bj):n<Qj:=by have:=Sm;unfold bj at h;omega
theorem O3{R:aa->aa->Option Bool}{a b:List aa}(ha:a.length<=bj)(h:∀x∈a,∀y∈b,R x y=some (decide (x=y))):uM R a b=some (decide (a=b)):=by
 unfold uM
 by_cases hl:a.length=b.length
 ·rw[vag (by simp[hl])]
  unfold sM
  rw[KX hl (by unfold bj at ha;omega) (fun zz=>io R a b (a.length:Int) zz) (.inl ()) (.inr ()) (fun i h1 h2=>?_) ?_]
  ·by_cases he:a=b<;>simp[he]
  ·unfold io
   rw[vag (by simp)]
  ·unfold io
   rw[vad (by simp;omega),bD a i h1]
   simp only[vaa]
   rw[bD b i h2]
   simp only[vaa]
   rw[h _ (vau h1) _ (vau h2)]
   simp only[vaa]
   by_cases he:a[i]=b[i]<;>simp[he]
 ·rw[vad (by simp;omega)]
  rw[decide_eq_false (fun he=>hl (by rw[he]))]
theorem EU(a b:aa)(ha:nP a<=bj):jI a b=some (decide (a=b)):=by
 refine iQ (F:=wQ) (fun x=>nP x.1) (fun x=>nP x.1<=bj) (fun x=>decide (x.1=x.2)) (fun R x hx ih=>?_) (a,b) ha (jm ha)
 obtain⟨u,v⟩:=x
 have hx:nP u<=bj:=hx
 show rC (fun a a2=>R (a,a2)) u v=some (decide (u=v))
 unfold rC
 have hk:=nV u
 by_cases h1:u.Op=v.Op
 ·by_cases h2:u.Name=v.Name
  ·by_cases h3:u.N=v.N
   ·rw[vad (by simpa using h1),vad (by simpa using h2),vad (by simpa using h3)]
    rw[O3 (a:=u.Kids) (b:=v.Kids) (by omega) (fun x hxa y hyb=>ih (x,y) (lS hxa) (vcG (vaD (lS hxa) hx)))]
    simp[tH (a:=u) (b:=v),h1,h2,h3]
   ·rw[vad (by simpa using h1),vad (by simpa using h2),vag (by simpa using h3)]
    simp[tH (a:=u) (b:=v),h3]
  ·rw[vad (by simpa using h1),vag (by simpa using h2)]
   simp[tH (a:=u) (b:=v),h2]
 ·rw[vag (by simpa using h1)]
  simp[tH (a:=u) (b:=v),h1]
theorem Ie(p:aa)(hp:nP p<=bj):nZ p=some p:=by
 refine iQ (F:=nA) nP (fun x=>nP x<=bj) id (fun R x hx ih=>?_) p hp (jm hp)
 unfold nA sL qt
 have hlen:=nV x
 rw[KW x.Kids (by unfold bj at hx;omega) (fun i s=>(i,s)) _ id id (fun i hi s hs=>?_) (fun s=>?_)]
 ·simp[jG]
 ·unfold jK
  rw[vad (by simp;omega),bD x.Kids i hi]
  simp only[vaa]
  have hm:=vau hi
  rw[ih _ (lS hm) (vcG (vaD (lS hm) hx))]
  simp only[vaa]
  rw[cX (by unfold bj at hx;simp;omega)]
  rfl
 ·unfold jK
  rw[vag (by simp)]
  rfl
theorem tD(a b:aa)(hb:nP b<=bj):fA a b=some (decide (a=b)):=by
 refine iQ (F:=zd) (fun x=>nP x.2) (fun x=>nP x.2<=bj) (fun x=>decide (x.1=x.2)) (fun R x hx ih=>?_) (a,b) hb (jm hb)
 obtain⟨u,v⟩:=x
 have hx:nP v<=bj:=hx
 show ub (fun a a2=>R (a,a2)) u v=some (decide (u=v))
 unfold ub v6
 have hk:=nV v
 by_cases h1:u.Op=v.Op
 ·by_cases h2:u.Name=v.Name
  ·by_cases h3:u.N=v.N
   ·by_cases h4:u.Kids.length=v.Kids.length
    ·rw[vag (by simpa using h1),vag (by simpa using h2),vag (by simpa using h3)]
     simp only[h4,bne_self_eq_false,vaa,if_false,vaH]
     unfold v7
     rw[<-h4,KX h4 (by unfold bj at hx;omega) _ (.inl ()) (.inr ()) (fun i g1 g2=>?_) ?_]
     ·by_cases he:u.Kids=v.Kids<;>simp[he,tH (a:=u) (b:=v),h1,h2,h3]
     ·unfold np
      rw[vag (by simp)]
     ·unfold np
      rw[vad (by simp;omega),bD u.Kids i g1]
      simp only[vaa]
      rw[bD v.Kids i g2]
      simp only[vaa]
      have hm:=vau g2
      rw[ih (u.Kids[i],v.Kids[i]) (lS hm) (vcG (vaD (lS hm) hx))]
      by_cases he:u.Kids[i]=v.Kids[i]<;>simp[he]
    ·have hne:u≠v:=fun e=>h4 (by rw[e])
     rw[vag (by simpa using h1),vag (by simpa using h2),vag (by simpa using h3)]
     have hb:((u.Kids.length:Int)!=(v.Kids.length:Int))=true:=by simp;omega
     simp[hb,hne]
   ·have hne:u≠v:=fun e=>h3 (by rw[e])
    rw[vag (by simpa using h1),vag (by simpa using h2),vad (by simpa using h3)]
    simp[hne]
  ·have hne:u≠v:=fun e=>h2 (by rw[e])
   rw[vag (by simpa using h1),vad (by simpa using h2)]
   simp[hne]
 ·have hne:u≠v:=fun e=>h1 (by rw[e])
  rw[vad (by simpa using h1)]
  simp[hne]
def gC:aa:=⟨0,[],0,[]⟩
def d5:aa:=⟨2,[],1,[]⟩
def lP:aa:=⟨2,[],0,[]⟩
def mD(p:aa):Bool:=decide (p=gC)||decide (p=d5)
theorem Rv(p:aa)(hp:nP p<=bj):xK p=some (mD p):=by
 have h1:jI p (⟨0,([]:ag),0,([]:List aa)⟩:aa)=some (decide (p=gC)):=EU p gC hp
 have h2:jI p (⟨2,([]:ag),1,([]:List aa)⟩:aa)=some (decide (p=d5)):=EU p d5 hp
 unfold xK eO mD
 rw[h1]
 simp only[vaa,if_true,h2]
 cases decide (p=gC)<;>rfl
theorem Q4:nP d5<=bj:=by decide
theorem MW:nP gC<=bj:=by decide
theorem Pv:nP lP<=bj:=by decide
theorem GX(p:aa):pS p=some (mD p):=by
 have h1:fA p (⟨0,([]:ag),0,([]:List aa)⟩:aa)=some (decide (p=gC)):=tD p gC MW
 have h2:fA p (⟨2,([]:ag),1,([]:List aa)⟩:aa)=some (decide (p=d5)):=tD p d5 Q4
 unfold pS sW mD
 simp only[vaa,h2,h1]
 cases decide (p=d5)<;>cases decide (p=gC)<;>rfl
theorem IE{α σ X:Type}(g:α->σ->σ)(e:σ->X):∀(l:List α) (i:Nat) (s:σ),jM (fun _ x (s:σ)=>(Sum.inl (g x s):σ⊕X)) e l i s=e (l.foldl (fun s x=>g x s) s)
 |[],i,s=>by simp[jM]
 |x::l,i,s=>by
  unfold jM
  simp only
  rw[IE g e l (i+1) (g x s)]
  rfl
theorem NQ{α σ τ X:Type}(l:List α)(hl:l.length<9223372036854775808)(mk:Int->σ->τ)(body:τ->Option (τ⊕X))(I:Nat->σ->Prop)(g:α->σ->σ)(e:σ->X)(s0:σ)(h0:I 0 s0)
  (hin:∀(i:Nat) (h:i<l.length) s,I i s->body (mk i s)=some (.inl (mk (bC ((i:Int)+1)) (g l[i] s)))/\I (i+1) (g l[i] s)) (hend:∀s,I l.length s->body (mk l.length s)=some (.inr (e s))):
  loop body (mk 0 s0)=some (e (l.foldl (fun s x=>g x s) s0)):=by
 have:=hO l hl mk body I (fun _ x s=>.inl (g x s)) e (fun i h s hs=>⟨(hin i h s hs).1,fun s' hs'=>by cases hs';exact(hin i h s hs).2⟩) (fun s hs=>hend s hs) 0 s0 (vaJ _) h0
 rw[IE]at this
 exact this
theorem uD(l:List aa)(i:Nat)(h:i<l.length):nL (l.take (i+1))=nL (l.take i)+nP l[i]:=by
 rw[va5 h,tk]
 simp[nL]
theorem kK(l:List aa)(i:Nat):nL (l.take i)<=nL l:=by
 have:=tk (l.take i) (l.drop i)
 rw[vcC]at this
 omega
theorem ML:∀(l:List aa) (a:Int),l.foldl (fun s x=>s+(nP x:Int)) a=a+(nL l:Int)
 |[],a=>by simp[nL]
 |x::l,a=>by rw[List.foldl_cons,ML l,nL];omega
theorem Bg(p:aa)(hp:nP p<=bj):pD p=some (nP p:Int):=by
 refine iQ (F:=vZ) nP (fun x=>nP x<=bj) (fun x=>(nP x:Int)) (fun R x hx ih=>?_) p hp (jm hp)
 show qV (fun p=>R p) x=_
 unfold qV ua
 have hlen:=nV x
 have hn:=Gc x
 rw[NQ x.Kids (by unfold bj at hx;omega) (fun i s=>(s,i)) _ (fun i s=>s=1+(nL (x.Kids.take i):Int)) (fun x s=>s+(nP x:Int)) id 1 (by simp[nL]) (fun i hi s hs=>?_) (fun s _=>?_)]
 ·rw[ML]
  simp only[id,vaa]
  rw[hn];congr 1;omega
 ·have hm:=vau hi
  have hk:=lS hm
  refine⟨?_,by rw[uD _ _ hi,hs];omega⟩
  unfold lz
  rw[vad (by simp;omega),bD x.Kids i hi]
  simp only[vaa]
  rw[ih _ hk (by omega)]
  simp only[vaa]
  have h1:=kK x.Kids i
  have h2:=kK x.Kids (i+1)
  have h3:=uD x.Kids i hi
  unfold bj at hx
  rw[gA (n:=s+_) (by omega) (by omega)]
 ·unfold lz
  rw[vag (by simp)]
  rfl
def HA(s:Option aa)(x:aa):aa:=match s with
 |none=>x
 |some q=>⟨15,[],0,[q,x]⟩
def Cw:List aa->Option aa->aa
 |[],s=>s.getD d5
 |x::l,s=>if mD x=true then Cw l s else if x=lP then lP else Cw l (some (HA s x))
abbrev T8:Type:=Int×ag×Int×List aa×Int×ag×Int×List aa
def t8(a b:aa):T8:=(a.Op,a.Name,a.N,a.Kids,b.Op,b.Name,b.N,b.Kids)
def Mx:T8⊕T8->aa
 |.inl o=>⟨o.1,o.2.1,o.2.2.1,o.2.2.2.1⟩
 |.inr o=>⟨o.2.2.2.2.1,o.2.2.2.2.2.1,o.2.2.2.2.2.2.1,o.2.2.2.2.2.2.2⟩
def Jc(x:aa)(s:Option aa):Option aa⊕(T8⊕T8):=
 if mD x=true then .inl s else if x=lP then .inr (.inl (t8 lP (s.getD d5)))else .inl (some (HA s x))
theorem AI:∀(l:List aa) (i:Nat) (s:Option aa),Mx (jM (fun _ x s=>Jc x s) (fun s=>.inr (t8 gC (s.getD d5))) l i s)=Cw l s
 |[],i,s=>by simp[jM,Cw,Mx,t8,jG]
 | x :: l,i,s => by
  unfold jM Cw Jc
  by_cases h1:mD x=true
  ·simp only[h1,if_true]
   exact AI l (i+1) s
  ·by_cases h2:x=lP
   ·simp only[h1,h2,if_true]
    rfl
   ·simp only[h1,h2,if_false]
    exact AI l (i+1) _
theorem Mn:mD lP=false:=by decide
theorem Qe(q x:aa):mD ⟨15,[],0,[q,x]⟩=false:=by
 unfold mD
 simp[gC,d5]
theorem Ov:mD d5=true:=by decide
theorem Sa(l:List aa)(hl:∀x∈l,nP x<=bj)(hn:l.length<9223372036854775808):Bn l=some (Cw l none):=by
 unfold Bn wO
 have h:=hO l hn (fun i (s:Option aa)=>(s.isSome,i,(0:Int),([]:ag),(0:Int),([]:List aa),(s.getD d5).Op,(s.getD d5).Name,(s.getD d5).N,(s.getD d5).Kids))
  (fun zz=>eN l (l.length:Int) zz.1 zz.2.1 zz.2.2.1 zz.2.2.2.1 zz.2.2.2.2.1 zz.2.2.2.2.2.1 zz.2.2.2.2.2.2.1 zz.2.2.2.2.2.2.2.1 zz.2.2.2.2.2.2.2.2.1 zz.2.2.2.2.2.2.2.2.2) (fun _ _=>True) (fun _ x s=>Jc x s) (fun s=>.inr (t8 gC (s.getD d5)))
  (fun i hi s _=>⟨?_,fun _ _=>trivial⟩) (fun s _=>?_) 0 none (vaJ _) trivial
 ·have hr:=AI l 0 none
  rw[vba]at h
  have hc:eO true=some d5:=rfl
  rw[hc]
  simp only[vaa]
  have h':loop (fun(zz:Bool×Int×Int×ag×Int×(List aa)×Int×ag×Int×(List aa))=>eN l (l.length:Int) zz.1 zz.2.1 zz.2.2.1 zz.2.2.2.1 zz.2.2.2.2.1 zz.2.2.2.2.2.1 zz.2.2.2.2.2.2.1 zz.2.2.2.2.2.2.2.1 zz.2.2.2.2.2.2.2.2.1 zz.2.2.2.2.2.2.2.2.2) (false,0,0,([]:ag),0,([]:List aa),d5.Op,d5.Name,d5.N,d5.Kids)=_:=h
  rw[h']
  simp only[vaa]
  rw[<-hr]
  cases jM (fun _ x s=>Jc x s) (fun s=>Sum.inr (t8 gC (s.getD d5))) l 0 none<;>rfl
 ·show eN l (l.length:Int) s.isSome (i:Int) 0 [] 0 [] _ _ _ _=_
  unfold eN Jc
  have hx:=hl _ (vau hi)
  rw[vad (by simp;omega),bD l i hi]
  simp only[vaa]
  generalize l[i]=x at hx
  rw[Rv x hx]
  simp only[vaa]
  by_cases h1:mD x=true
  ·simp only[h1,if_true]
  ·have hc:eO false=some lP:=rfl
   simp only[h1,if_false,hc,vaa,EU x lP hx]
   by_cases h2:x=lP
   ·simp only[h2,decide_true,if_true]
    rfl
   ·simp only[h2,decide_false,if_false,vaH,Ie x hx,vaa]
    cases s with
    |none=>simp[HA]
    |some q=>
     simp[HA,jG]
     exact⟨rfl,rfl,rfl,rfl⟩
 ·show eN l (l.length:Int) s.isSome (l.length:Int) 0 [] 0 [] _ _ _ _=_
  unfold eN
  rw[vag (by simp)]
  rfl
theorem Rf(l:List aa)(hn:l.length<9223372036854775808):EI l=some (Cw l none):=by
 unfold EI zb
 have h:=hO l hn (fun i (s:Option aa)=>(i,(0:Int),([]:ag),(0:Int),([]:List aa),(s.getD d5).Op,(s.getD d5).Name,(s.getD d5).N,(s.getD d5).Kids))
  (fun zz=>fy l (l.length:Int) zz.1 zz.2.1 zz.2.2.1 zz.2.2.2.1 zz.2.2.2.2.1 zz.2.2.2.2.2.1 zz.2.2.2.2.2.2.1 zz.2.2.2.2.2.2.2.1 zz.2.2.2.2.2.2.2.2) (fun _ s=>∀q,s=some q->mD q=false) (fun _ x s=>Jc x s) (fun s=>.inr (t8 gC (s.getD d5)))
  (fun i hi s hs=>⟨?_,fun s' hs'=>?_⟩) (fun s _=>?_) 0 none (vaJ _) (fun q hq=>by cases hq)
 ·have hr:=AI l 0 none
  rw[vba]at h
  have hc:sW=some d5:=rfl
  rw[hc]
  simp only[vaa]
  have h':loop (fun(zz:Int×Int×ag×Int×(List aa)×Int×ag×Int×(List aa))=>fy l (l.length:Int) zz.1 zz.2.1 zz.2.2.1 zz.2.2.2.1 zz.2.2.2.2.1 zz.2.2.2.2.2.1 zz.2.2.2.2.2.2.1 zz.2.2.2.2.2.2.2.1 zz.2.2.2.2.2.2.2.2) (0,0,([]:ag),0,([]:List aa),d5.Op,d5.Name,d5.N,d5.Kids)=_:=h
  rw[h']
  simp only[vaa]
  rw[<-hr]
  cases jM (fun _ x s=>Jc x s) (fun s=>Sum.inr (t8 gC (s.getD d5))) l 0 none<;>rfl
 ·show fy l (l.length:Int) (i:Int) 0 [] 0 [] _ _ _ _=_
  unfold fy Jc
  rw[vad (by simp;omega),bD l i hi]
  simp only[vaa]
  generalize l[i]=x
  have hc:xm=some lP:=rfl
  rw[hc]
  simp only[vaa,tD x lP Pv]
  by_cases h2:x=lP
  ·subst h2
   simp only[decide_true,if_true,Mn,vaH,if_false]
   rfl
  ·simp only[h2,decide_false,if_false,vaH,GX,vaa]
   by_cases h1:mD x=true
   ·simp only[h1,if_true]
   ·simp only[h1,if_false,jG,vaH]
    cases s with
    |none=>simp[HA,Ov]
    |some q=>
     have hq:=hs q rfl
     simp[HA,hq]
     exact⟨rfl,rfl,rfl,rfl⟩
 ·unfold Jc at hs'
  intro q hq
  split at hs'
  ·cases hs';exact hs q hq
  ·split at hs'
   ·cases hs'
   ·rename_i h1 _
    cases hs'
    cases hq
    cases s with
    |none=>simpa[HA]using h1
    |some q'=>exact Qe _ _
 ·show fy l (l.length:Int) (l.length:Int) 0 [] 0 [] _ _ _ _=_
  unfold fy
  rw[vag (by simp)]
  rfl
theorem KM{l:List ag}{v:ag}:(match l.findIdx? (fun x=>x==v)with|some j=>(j:Int)|none=>-1)>=0↔v∈l:=by
 cases h:l.findIdx? (fun x=>x==v)with
 | none =>
  rw[vco]at h
  simp only
  constructor
  ·intro h';omega
  ·intro hm;have:=h v hm;simp at this
 | some j =>
  obtain⟨hj,h1,_⟩:=List.findIdx?_eq_some_iff_getElem.1 h
  simp only
  constructor
  ·intro _
   have:l[j]=v:=by simpa using h1
   exact this▸vau hj
  ·intro _;omega
theorem Lj(l:List ag)(v:ag)(hl:l.length<9223372036854775808):fx l v=some (match l.findIdx? (fun x=>x==v)with|some j=>(j:Int)|none=>-1):=by
 unfold fx qS
 have h:=CG l hl (fun zz=>dy l v (l.length:Int) zz) (fun x=>x==v) (fun j=>Sum.inl (j:Int)) (.inr ()) (fun i hi=>?_) ?_
 ·rw[h]
  simp only[vaa]
  cases l.findIdx? (fun x=>x==v)<;>rfl
 ·show dy l v (l.length:Int) (i:Int)=_
  unfold dy
  rw[vad (by simp;omega),bD l i hi]
  simp only[vaa]
  by_cases he:(l[i]==v)=true<;>simp[he]
 ·show dy l v (l.length:Int) (l.length:Int)=_
  unfold dy
  rw[vag (by simp)]
theorem KP(l:List ag)(v:ag)(hl:l.length<9223372036854775808):mn l v=some (match l.findIdx? (fun x=>x==v)with|some j=>(j:Int)|none=>-1):=by
 unfold mn oL
 have h:=CG l hl (fun zz=>dG l v (l.length:Int) zz) (fun x=>x==v) (fun j=>Sum.inl (j:Int)) (.inr ()) (fun i hi=>?_) ?_
 ·rw[h]
  simp only[vaa]
  cases l.findIdx? (fun x=>x==v)<;>rfl
 ·show dG l v (l.length:Int) (i:Int)=_
  unfold dG
  rw[vad (by simp;omega),bD l i hi]
  simp only[vaa]
  by_cases he:v=l[i]
  ·subst he;simp
  ·have he':¬l[i]=v:=fun h=>he h.symm
   simp[he,he']
 ·show dG l v (l.length:Int) (l.length:Int)=_
  unfold dG
  rw[vag (by simp)]
theorem ri(l:List ag)(v:ag)(hl:l.length<9223372036854775808):dK l v=some (decide (v∈l)):=by
 unfold dK
 rw[KP l v hl]
 simp only[vaa]
 congr 1
 exact decide_eq_decide.2 KM
def vK{α:Type}(o:Option α)(Q:α->Prop):Prop:=∃a,o=some a/\Q a
section
variable{α β σ τ X Y:Type}
theorem bM{a:α}{Q:α->Prop}(h:Q a):vK (some a) Q:=⟨a,rfl,h⟩
theorem eK{o:Option α}{f:α->Option β}{R:α->Prop}{Q:β->Prop}(h:vK o R)(h':∀a,R a->vK (f a) Q):vK (o.bind f) Q:=by
 obtain⟨a,rfl,h⟩:=h
 exact h' a h
theorem rO{o:Option α}{a:α}{f:α->Option β}{Q:β->Prop}(e:o=some a)(h:vK (f a) Q):vK (o.bind f) Q:=by
 rw[e];exact h
theorem vK.mono{o:Option α}{Q R:α->Prop}(h:vK o Q)(h':∀a,Q a->R a):vK o R:=by
 obtain⟨a,e,h⟩:=h
 exact⟨a,e,h' a h⟩
theorem iV{c:Prop}[Decidable c]{a b:Option α}{Q:α->Prop}(h1:c->vK a Q)(h2:¬c->vK b Q):vK (if c then a else b) Q:=by
 by_cases h:c
 ·rw[vad h];exact h1 h
 ·rw[vag h];exact h2 h
theorem G4{F:(X->Option Y)->X->Option Y}(μ:X->Nat)(P:X->Prop)(Q:X->Y->Prop)(h:∀(R:X->Option Y) x,P x->(∀y,μ y<μ x->P y->vK (R y) (Q y))->vK (F R x) (Q x))(x:X)(hx:P x)(hm:μ x<Qj):vK (nS F x) (Q x):=by
 have key:∀n x,μ x<n->P x->vK (TR F n x) (Q x):=by
  intro n
  induction n with
  |zero=>intro x hx;omega
  |succ n ih=>intro x hx hq;exact h _ x hq fun y hy hqy=>ih y (by omega) hqy
 exact key _ x hm hx
theorem On(l:List α)(hl:l.length<9223372036854775808)(mk:Int->σ->τ){body:τ->Option (τ⊕X)}(I:Nat->σ->Prop){Q:X->Prop}
  (hin:∀(i:Nat) (h:i<l.length) s,I i s->vK (body (mk i s)) (fun r=>match r with|.inl t=>∃s',t=mk (bC ((i:Int)+1)) s'/\I (i+1) s'|.inr y=>Q y))
  (hend:∀s,I l.length s->vK (body (mk l.length s)) (fun r=>match r with|.inl _=>False|.inr y=>Q y)):∀s,I 0 s->vK (loop body (mk 0 s)) Q:=by
 have key:∀k i s,k+i=l.length->I i s->vK (loop body (mk (i:Int) s)) Q:=by
  intro k
  induction k with
  |zero=>
   intro i s hi hI
   have:i=l.length:=by omega
   subst this
   obtain⟨r,e,hr⟩:=hend s hI
   rw[lT,e]
   cases r with
   |inl _=>exact hr.elim
   |inr y=>exact⟨y,rfl,hr⟩
  | succ k ih =>
   intro i s hi hI
   obtain⟨r,e,hr⟩:=hin i (by omega) s hI
   rw[lT,e]
   cases r with
   |inl t=>
    obtain⟨s',rfl,hI'⟩:=hr
    simp only
    rw[gA (by omega) (by omega),show((i:Int)+1)=((i+1:Nat):Int) by omega]
    exact ih (i+1) s' (by omega) hI'
   |inr y=>exact⟨y,rfl,hr⟩
 exact fun s hs=>key l.length 0 s (by omega) hs
end
end Go.Proofs.YtggeppllafbidaaGreatDoor
