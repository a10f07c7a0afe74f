/- PROVED: a part of the proof. Conditions: none. -/
import Derived.Test.YtjddnhkahpfhdaaGreatDoorPkO16
import Derived.Test.YtjddnhkahpfhdaaGreatDoorPkO11
import Derived.Test.YtjddnhkahpfhdaaGreatDoorPkO9
import Derived.Test.YtjddnhkahpfhdaaGreatDoorPkO8
set_option linter.unusedSimpArgs false
set_option linter.unusedVariables false
noncomputable section
namespace Go.Proofs.YtjddnhkahpfhdaaGreatDoor
open Go Go.Proofs.Tryz
set_option linter.unusedVariables false
set_option linter.defProp false
set_option maxRecDepth 100000
noncomputable def S7:Code:=f19.body.getD .skip
theorem Tw:ZF Pg [] 19 f19 S7:=zf call19 func19 rfl mixed
section
variable(R71:gm)(v:aa)(v2:aa)
def tH:Option Bool:=
 if(v.Op !=v2.Op)=true then
  some true
 else if(v.N !=v2.N)=true then
  some true
 else if(!(v.Name==v2.Name))=true then
  some true
 else if((v.Kids.length:Int)!=(v2.Kids.length:Int))=true then
  some true
 else
  (gR v.Params v2.Params).bind λr9=>
  if(!r9)=true then
   some true
  else
   (lk R71 v.Binds v2.Binds).bind λr12=>
   some (!r12)
theorem Cp(hR71:ip R71):OU 0 (cA S7 12) (tH R71 v v2) .normal (λo=>[(49,.bool o)]) (bT 75 [(2,.eptr (ac v)),(3,.eptr (ac v2))] [.dead,.dead] []):=Tw.j<|
 have pp2:=λ{X Y Z} (r:PV _ X Y Z)=>tw (aH v)<|tw (aH v2)<|r;tf (λc1=>pp2<|tg 6 c1<|tE) λc1=>have pp4:=λ{X Y Z} (r:PV _ X Y Z)=>pp2<|tg 6 c1<|tw (az v)<|tw (az v2)<|r;tf (λc3=>pp4<|tg 13 c3<|tE) λc3=>have pp6:=λ{X Y Z} (r:PV _ X Y Z)=>pp4<|tg 13 c3<|tw (aM v)<|tw (aM v2)<|r;tf (λc5=>pp6<|tg 20 c5<|tE) λc5=>have pp8:=λ{X Y Z} (r:PV _ X Y Z)=>pp6<|tg 20 c5<|tw (av v)<|cO (aZ.ln v.Kids)<|tw (av v2)<|cO (aZ.ln v2.Kids)<|r;tf (λc7=>pp8<|tg 29 c7<|tE) λc7=>tb λr9 br9=>have pp11:=λ{X Y Z} (r:PV _ X Y Z)=>pp8<|tg 29 c7<|tw (dK v)<|tw (dK v2)<|bz (kF _ br9)<|r;tf (λc10=>pp11<|tg 37 c10<|tE) λc10=>tb λr12 br12=>pp11<|tg 37 c10<|tw (cr v)<|tw (cr v2)<|bz (zu R71 hR71 _ br12)<|tE
end
section
variable(R71:gm)(v:aa)(v2:aa)(i:Int)
def pT:ax:=bT 75 [(2,.eptr (ac v)),(3,.eptr (ac v2)),(5,.int .i64 i)] [.dead,.dead] []
def vX(o:Unit⊕(Unit)):Exit:=match o with
 |(.inl _)=>.ret
 |(.inr _)=>.exit 0
def vY(o:Unit⊕(Unit)):ax:=match o with
 |(.inl o)=>bT 75 [(4,.bool false)] [.dead,.dead] []
 |(.inr o)=>bT 75 [] [.dead,.dead] []
def fC:Option (Int⊕(Unit⊕(Unit))):=
 if decide (i<(v.Kids.length:Int))=true then
  (ed v.Kids i).bind λx18=>
  (ed v2.Kids i).bind λx19=>
  (R71 x18 x19).bind λr20=>
  if(!r20)=true then
   some (.inr (.inl ()))
  else
   some (.inl (cc (i+1)))
 else
  some (.inr (.inr ()))
def oY:Option (Unit⊕(Unit)):=loop (λ(zz:Int)=>fC R71 v v2 zz) i
theorem Bq(hR71:ip R71):OL 0 (cA S7 247) (fC R71 v v2 i) (λ(zz:Int)=>pT v v2 zz) vX vY (pT v v2 i):=Tw.l<|
 tw (av v)<|cO (aZ.ln v.Kids)<|tF (tb λx18 bx18=>tb λx19 bx19=>tb λr20 br20=>pG [0,1,0,7,15,0,32,0,224,480,1023,2047]<|tw (av v)<|tv (aZ.ia (k:=.i64) bx18)<|tv (al x18)<|tw (av v2)<|tv (aZ.ia (k:=.i64) bx19)<|tv (al x19)<|bz (hR71 _ _ _ br20)<|tF tE<|tE)<|tE
theorem tI(hR71:ip R71):OK 0 (.loop (cA S7 247)) (oY R71 v v2 i) vX vY (pT v v2 i):=yA λ_=>Bq _ _ _ _ hR71
end
def qV(R71:gm)(a:aa)(a2:aa):Option Bool:=
 (tH R71 a a2).bind λo13=>
 if o13=true then
  some false
 else
  (j2 a.Body a2.Body).bind λr15=>
  if(!r15)=true then
   some false
  else
   (oY R71 a a2 0).bind λo22=>match o22 with
   |(.inl o22)=>
    some false
   |(.inr o22)=>
    some true
theorem Gz(R71:gm)(hR71:ip R71){a:aa}{a2:aa}:OV 19 [.agg (ac a),.agg (ac a2)] (qV R71 a a2) (λr=>.bool r) []:=Tw.v<|
 tb λo13 bo13=>te (bV a)<|te (bV a2)<|xO 1<|dZ (Cp R71 a a2 hR71 _ bo13)<|tF tE<|tb λr15 br15=>tw (bW a)<|tw (bW a2)<|bz (ya _ br15)<|tF tE<|t2 (λo22 bo22=>dZ (tI R71 a a2 0 hR71 _ bo22)<|tE) λo22 bo22=>dZ (tI R71 a a2 0 hR71 _ bo22)<|tE
def wR:((aa×aa)->Option Bool)->(aa×aa)->Option Bool:=λ(rec:(aa×aa)->Option Bool) (x:aa×aa)=>qV (λa a2=>rec (a,a2)) x.1 x.2
def Co(a:aa)(a2:aa):Option Bool:=kM wR (a,a2)
theorem jL{a:aa}{a2:aa}:OV 19 [.agg (ac a),.agg (ac a2)] (Co a a2) (λr=>.bool r) []:=lY λ_ h=>
 cd (F:=wR) (M:=λ(x:aa×aa) (r:Bool)=>CC Pg GE 19 [.agg (ac x.1),.agg (ac x.2)] (.bool r) []) (λrec hrec x r h=>Gz _ (λa a2=>lY λr h=>hrec (a,a2) r h) _ h) h
abbrev ll:=(aa->aa->Option Int)
abbrev pL(R:ll):Prop:=∀(a:aa) (a2:aa),OV 21 [.agg (ac a),.agg (ac a2)] (R a a2) (λr=>.int .i64 r) []
abbrev qZ:=(aa->Option Int)
abbrev wJ(R:qZ):Prop:=∀(v:aa),OV 23 [.agg (ac v)] (R v) (λr=>.int .i64 r) []
noncomputable def Vg:Code:=f23.body.getD .skip
theorem UT:ZF Pg [20] 23 f23 Vg:=zf call23 func23 rfl mixed
section
variable(R77:qZ)(v:aa)(n:Int)(i:Int)
def vZ:ax:=bT 21 [(1,.eptr (ac v)),(3,.int .i64 n),(4,.int .i64 i)] [.dead] []
def Eo(o:Int):ax:=bT 21 [(3,.int .i64 o)] [.dead] []
def fD:Option ((Int×Int)⊕(Int)):=
 if decide (i<(v.Kids.length:Int))=true then
  (ed v.Kids i).bind λx2=>
  (R77 x2).bind λr3=>
  some (.inl (cc (n+r3),cc (i+1)))
 else
  some (.inr n)
def AC:Option Int:=loop (λ(zz:Int×Int)=>fD R77 v zz.1 zz.2) (n,i)
theorem Br(hR77:wJ R77):OL 0 (cA Vg 119) (fD R77 v n i) (λ(zz:Int×Int)=>vZ v zz.1 zz.2) (λ_=>.exit 0) Eo (vZ v n i):=UT.l<|
 tw (av v)<|cO (aZ.ln v.Kids)<|tF (tb λx2 bx2=>tb λr3 br3=>tw (av v)<|tv (aZ.ia (k:=.i64) bx2)<|tv (al x2)<|bz (hR77 _ _ br3)<|tE)<|tE
def Cq(hR77:wJ R77):=Dd (s:=(n,i)) λzz=>Br R77 v zz.1 zz.2 hR77
end
def qW(R77:qZ)(v:aa):Option Int:=
 (AC R77 v 1 0).bind λo4=>
 some o4
theorem GA(R77:qZ)(hR77:wJ R77){v:aa}:OV 23 [.agg (ac v)] (qW R77 v) (λr=>.int .i64 r) []:=UT.v<|
 tb λo4 bo4=>te (bV v)<|dZ (Cq R77 v 1 0 hR77 _ bo4)<|tE
def wS:(aa->Option Int)->(aa)->Option Int:=λ(rec:aa->Option Int) (x:aa)=>qW (λv=>rec v) x
def nC(v:aa):Option Int:=kM wS v
theorem ir{v:aa}:OV 23 [.agg (ac v)] (nC v) (λr=>.int .i64 r) []:=lY λ_ h=>
 cd (F:=wS) (M:=λ(x:aa) (r:Int)=>CC Pg GE 23 [.agg (ac x)] (.int .i64 r) []) (λrec hrec x r h=>GA _ (λv=>lY λr h=>hrec v r h) _ h) h
noncomputable def V9:Code:=f61.body.getD .skip
theorem VS:ZF Pg [] 61 f61 V9:=zf call61 func61 rfl mixed
def iJ(a:Int)(a2:Int):Option Int:=
 if decide (a<a2)=true then
  some (-1)
 else if decide (a>a2)=true then
  some 1
 else
  some 0
theorem mP{a:Int}{a2:Int}:OV 61 [.int .i64 a,.int .i64 a2] (iJ a a2) (λr=>.int .i64 r) []:=VS.v<|
 tF tE<|tF tE<|tE
noncomputable def S8:Code:=f21.body.getD .skip
theorem Tx:ZF Pg [74] 21 f21 S8:=zf call21 func21 rfl mixed
section
variable(v:aa)(v2:aa)(i:Int)
def iq:Option Bool:=
 if decide (i<(v.Kids.length:Int))=true then
  some (decide (i<(v2.Kids.length:Int)))
 else
  some false
theorem xZ:OU 0 (cA S8 4060) (iq v v2 i) .normal (λo=>[(58,.bool o)]) (bT 82 [(2,.eptr (ac v)),(3,.eptr (ac v2)),(5,.int .i64 i)] [.dead,.dead] []):=Tx.j<|
 have pp14:=λ{X Y Z} (r:PV _ X Y Z)=>tw (av v)<|cO (aZ.ln v.Kids)<|r;tf (λc13=>pp14<|tg 6 c13<|tw (av v2)<|cO (aZ.ln v2.Kids)<|tE) λc13=>pp14<|tg 6 c13<|tE
end
section
variable(R76:ll)(v:aa)(v2:aa)(i:Int)
def kH:ax:=bT 82 [(2,.eptr (ac v)),(3,.eptr (ac v2)),(5,.int .i64 i)] [.dead,.dead] []
def qb(o:Int⊕(Unit)):Exit:=match o with
 |(.inl _)=>.ret
 |(.inr _)=>.exit 0
def qc(o:Int⊕(Unit)):ax:=match o with
 |(.inl o)=>bT 82 [(4,.int .i64 o)] [.dead,.dead] []
 |(.inr o)=>bT 82 [(2,.eptr (ac v)),(3,.eptr (ac v2))] [.dead,.dead] []
def cQ:Option (Int⊕(Int⊕(Unit))):=
 (iq v v2 i).bind λo15=>
 if o15=true then
  (ed v.Kids i).bind λx17=>
  (ed v2.Kids i).bind λx18=>
  (R76 x17 x18).bind λr19=>
  if(r19 !=0)=true then
   some (.inr (.inl r19))
  else
   some (.inl (cc (i+1)))
 else
  some (.inr (.inr ()))
def nB:Option (Int⊕(Unit)):=loop (λ(zz:Int)=>cQ R76 v v2 zz) i
theorem wQ(hR76:pL R76):OL 0 (cA S8 1015) (cQ R76 v v2 i) (λ(zz:Int)=>kH v v2 zz) qb (qc v v2) (kH v v2 i):=Tx.l<|
 tb λo15 bo15=>xO 1<|dZ (xZ v v2 i _ bo15)<|tF (tb λx17 bx17=>tb λx18 bx18=>tb λr19 br19=>pG [0,1,0,7,15,0,32,0,224,480,1023,2047]<|tw (av v)<|tv (aZ.ia (k:=.i64) bx17)<|tv (al x17)<|tw (av v2)<|tv (aZ.ia (k:=.i64) bx18)<|tv (al x18)<|bz (hR76 _ _ _ br19)<|tF tE<|tE)<|tE
theorem oW(hR76:pL R76):OK 0 (.loop (cA S8 1015)) (nB R76 v v2 i) qb (qc v v2) (kH v v2 i):=yA λ_=>wQ _ _ _ _ hR76
end
def lj(R76:ll)(a:aa)(a2:aa):Option Int:=
 (nC a).bind λr1=>
 (nC a2).bind λr2=>
 if(r1 !=r2)=true then
  (nC a).bind λr4=>
  (nC a2).bind λr5=>
  (iJ r4 r5).bind λr6=>
  some r6
 else if(a.Op !=a2.Op)=true then
  (iJ a.Op a2.Op).bind λr8=>
  some r8
 else if(a.N !=a2.N)=true then
  (iJ a.N a2.N).bind λr10=>
  some r10
 else if(!(a.Name==a2.Name))=true then
  if(Op.bytesLess a.Name a2.Name)=true then
   some (-1)
  else
   some 1
 else
  (nB R76 a a2 0).bind λo21=>match o21 with
  |(.inl o21)=>
   some o21
  |(.inr o21)=>
   (iJ (a.Kids.length:Int) (a2.Kids.length:Int)).bind λr22=>
   some r22
theorem Bp(R76:ll)(hR76:pL R76){a:aa}{a2:aa}:OV 21 [.agg (ac a),.agg (ac a2)] (lj R76 a a2) (λr=>.int .i64 r) []:=Tx.v<|
 tb λr1 br1=>tb λr2 br2=>te (bV a)<|te (bV a2)<|pG [0,1,0,7,15]<|tv (al a)<|bz (ir _ br1)<|tv (al a2)<|bz (ir _ br2)<|tF (tb λr4 br4=>tb λr5 br5=>tb λr6 br6=>pG [0,1,0,7,15,31]<|tv (al a)<|bz (ir _ br4)<|tv (al a2)<|bz (ir _ br5)<|bz (mP _ br6)<|tE)<|tw (aH a)<|tw (aH a2)<|tF (tb λr8 br8=>tw (aH a)<|tw (aH a2)<|bz (mP _ br8)<|tE)<|tw (az a)<|tw (az a2)<|tF (tb λr10 br10=>tw (az a)<|tw (az a2)<|bz (mP _ br10)<|tE)<|tw (aM a)<|tw (aM a2)<|tF (tw (aM a)<|tw (aM a2)<|tF tE<|tE)<|t2 (λo21 bo21=>dZ (oW R76 a a2 0 hR76 _ bo21)<|tE) λo21 bo21=>tb λr22 br22=>dZ (oW R76 a a2 0 hR76 _ bo21)<|tw (av a)<|cO (aZ.ln a.Kids)<|tw (av a2)<|cO (aZ.ln a2.Kids)<|bz (mP _ br22)<|tE
def pS:((aa×aa)->Option Int)->(aa×aa)->Option Int:=λ(rec:(aa×aa)->Option Int) (x:aa×aa)=>lj (λa a2=>rec (a,a2)) x.1 x.2
def tG(a:aa)(a2:aa):Option Int:=kM pS (a,a2)
theorem j1{a:aa}{a2:aa}:OV 21 [.agg (ac a),.agg (ac a2)] (tG a a2) (λr=>.int .i64 r) []:=lY λ_ h=>
 cd (F:=pS) (M:=λ(x:aa×aa) (r:Int)=>CC Pg GE 21 [.agg (ac x.1),.agg (ac x.2)] (.int .i64 r) []) (λrec hrec x r h=>Bp _ (λa a2=>lY λr h=>hrec (a,a2) r h) _ h) h
abbrev ra:=(aa->Option ai)
abbrev wK(R:ra):Prop:=∀(v:aa),OV 25 [.agg (ac v)] (R v) (λr=>.str r) []
noncomputable def TV:Code:=f64.body.getD .skip
theorem TE:ZF Pg [8,30] 64 f64 TV:=zf call64 func64 rfl mixed
section
variable(n:Int)(s:ai)(m:Int)(d:Int)
def oL:Option Int:=
 if decide (d<0)=true then
  some (IntKind.i64.wrap (0 - d))
 else
  some d
theorem BY:OU 0 (cA TV 7926) (oL d) .normal (λo=>[(5,.int .i64 o)]) (bT 31 [(0,.int .i64 n),(3,.str s),(4,.int .i64 m),(5,.int .i64 d)] [] []):=TE.j<|
 tF tE<|tE
end
section
variable(n:Int)(s:ai)(m:Int)
def vL:ax:=bT 31 [(0,.int .i64 n),(3,.str s),(4,.int .i64 m)] [] []
def Ef(o:ai):ax:=bT 31 [(0,.int .i64 n),(3,.str o)] [] []
def ji:Option ((ai×Int)⊕(ai)):=
 if(m !=0)=true then
  (re m 10).bind λq3=>
  (oL q3).bind λo5=>
  (nO ([IntKind.u8.wrap (cc (48+o5))]:List Int)).bind λs6=>
  (zC s6 s).bind λs7=>
  (qu .i64 m 10).bind λq8=>
  some (.inl (s7,q8))
 else
  some (.inr s)
def lD:Option ai:=loop (λ(zz:ai×Int)=>ji zz.1 zz.2) (s,m)
theorem A8:OL 0 (cA TV 247) (ji s m) (λ(zz:ai×Int)=>vL n zz.1 zz.2) (λ_=>.exit 0) (Ef n) (vL n s m):=TE.l<|
 tF (tb λq3 bq3=>tb λo5 bo5=>tb λs6 bs6=>tb λs7 bs7=>tb λq8 bq8=>tv (RW (P:=Pg) (t:=3) (k:=.i64) bq3)<|xO 0<|dZ (BY n s m q3 _ bo5)<|tv (Wo underlying3 underlying5 (cc (48+o5)))<|tv (SN.mk' (v:=(PVal.int .u8)) (Uw .u8) ([IntKind.u8.wrap (cc (48+o5))]:List Int) 1 (by kernel_rfl))<|tv (Wn underlying150 underlying9 underlying5 bs6)<|tv (fm (P:=Pg) (t:=9) bs7)<|tv (yf (P:=Pg) (t:=3) bq8)<|tE)<|tE
def BZ:=Dd (s:=(s,m)) λzz=>A8 n zz.1 zz.2
end
def sU(n:Int):Option ai:=
 if(n==0)=true then
  some ([48]:ai)
 else
  (lD ([]:ai) n).bind λo9=>
  if decide (n<0)=true then
   (zC ([45]:ai) o9).bind λs11=>
   some s11
  else
   some o9
theorem Au{n:Int}:OV 64 [.int .i64 n] (sU n) (λr=>.str r) []:=TE.v<|
 tF tE<|tb λo9 bo9=>dZ (BZ n ([]:ai) n _ bo9)<|tF (tb λs11 bs11=>tv (fm (P:=Pg) (t:=9) bs11)<|tE)<|tE
noncomputable def TK:Code:=f25.body.getD .skip
theorem Ty:ZF Pg [] 25 f25 TK:=zf call25 func25 rfl mixed
section
variable(v:aa)(s:ai)(i:Int)
def tJ:Option ai:=
 if decide (i>0)=true then
  (zC s dn).bind λs14=>
  some s14
 else
  some s
theorem Cs:OU 0 (cA TK 7338874) (tJ s i) .normal (λo=>[(3,.str o)]) (bT 56 [(1,.eptr (ac v)),(3,.str s),(4,.int .i64 i)] [.dead] []):=Ty.j<|
 tF (tb λs14 bs14=>tv (fm (P:=Pg) (t:=9) bs14)<|tE)<|tE
end
section
variable(R79:ra)(v:aa)(s:ai)(i:Int)
def v8:ax:=bT 56 [(1,.eptr (ac v)),(3,.str s),(4,.int .i64 i)] [.dead] []
def Ep(o:ai):ax:=bT 56 [(3,.str o)] [.dead] []
def fE:Option ((ai×Int)⊕(ai)):=
 if decide (i<(v.Kids.length:Int))=true then
  (tJ s i).bind λo15=>
  (ed v.Kids i).bind λx16=>
  (R79 x16).bind λr17=>
  (zC o15 r17).bind λs18=>
  some (.inl (s18,cc (i+1)))
 else
  some (.inr s)
def AD:Option ai:=loop (λ(zz:ai×Int)=>fE R79 v zz.1 zz.2) (s,i)
theorem Bt(hR79:wK R79):OL 0 (cA TK 458679) (fE R79 v s i) (λ(zz:ai×Int)=>v8 v zz.1 zz.2) (λ_=>.exit 1) Ep (v8 v s i):=Ty.l<|
 tw (av v)<|cO (aZ.ln v.Kids)<|tF (tb λo15 bo15=>tb λx16 bx16=>tb λr17 br17=>tb λs18 bs18=>xO 1<|dZ (Cs v s i _ bo15)<|tw (av v)<|tv (aZ.ia (k:=.i64) bx16)<|tv (al x16)<|bz (hR79 _ _ br17)<|tv (fm (P:=Pg) (t:=9) bs18)<|tE)<|tE
def Ct(hR79:wK R79):=Dd (s:=(s,i)) λzz=>Bt R79 v zz.1 zz.2 hR79
end
def qX(R79:ra)(v:aa):Option ai:=
 if(v.Op==1)=true then
  (sU v.N).bind λr2=>
  some r2
 else if(v.Op==2)=true then
  if(v.N !=0)=true then
   some Ed
  else
   some zn
 else if(v.Op==4)=true then
  (sU v.N).bind λr6=>
  (zC iE r6).bind λs7=>
  (zC s7 uK).bind λs8=>
  some s8
 else if(v.Op==3)=true then
  if((v.Kids.length:Int)==0)=true then
   some v.Name
  else
   (zC v.Name ga).bind λs11=>
   (AD R79 v s11 0).bind λo19=>
   (zC o19 uK).bind λs20=>
   some s20
 else
  some Jp
theorem GB(R79:ra)(hR79:wK R79){v:aa}:OV 25 [.agg (ac v)] (qX R79 v) (λr=>.str r) []:=Ty.v<|
 te (bV v)<|tw (aH v)<|tF (tb λr2 br2=>tw (az v)<|bz (Au _ br2)<|tE)<|tF (tw (az v)<|tF tE<|tE)<|tF (tb λr6 br6=>tb λs7 bs7=>tb λs8 bs8=>tw (az v)<|bz (Au _ br6)<|tv (fm (P:=Pg) (t:=9) bs7)<|tv (fm (P:=Pg) (t:=9) bs8)<|tE)<|tF (tw (av v)<|cO (aZ.ln v.Kids)<|tF (tw (aM v)<|tE)<|tb λs11 bs11=>tb λo19 bo19=>tb λs20 bs20=>tw (aM v)<|tv (fm (P:=Pg) (t:=9) bs11)<|dZ (Ct R79 v s11 0 hR79 _ bo19)<|tv (fm (P:=Pg) (t:=9) bs20)<|tE)<|tE
def wU:(aa->Option ai)->(aa)->Option ai:=λ(rec:aa->Option ai) (x:aa)=>qX (λv=>rec v) x
def Cr(v:aa):Option ai:=kM wU v
theorem AE{v:aa}:OV 25 [.agg (ac v)] (Cr v) (λr=>.str r) []:=lY λ_ h=>
 cd (F:=wU) (M:=λ(x:aa) (r:ai)=>CC Pg GE 25 [.agg (ac x)] (.str r) []) (λrec hrec x r h=>GB _ (λv=>lY λr h=>hrec v r h) _ h) h
noncomputable def b4:Code:=Tryz.f4.body.getD .skip
theorem Z4:ZF Pg [] 4 Tryz.f4 b4:=zf call4 func4 rfl mixed
section
variable(v:aa)(v2:aa)
def gq:Option Bool:=
 (qd v).bind λr1=>
 if(!r1)=true then
  some true
 else
  (qd v2).bind λr4=>
  some (!r4)
theorem sH:OU 0 (cA b4 12) (gq v v2) .normal (λo=>[(12,.bool o)]) (bT 52 [(2,.eptr (ac v)),(3,.eptr (ac v2))] [.dead,.dead] []):=Z4.j<|
 tb λr1 br1=>have pp3:=λ{X Y Z} (r:PV _ X Y Z)=>tv (al v)<|bz (yc _ br1)<|r;tf (λc2=>pp3<|tg 4 c2<|tE) λc2=>tb λr4 br4=>pp3<|tg 4 c2<|tv (al v2)<|bz (yc _ br4)<|tE
end
def mc (a:aa) (a2:aa):Option Bool :=
 (gq a a2).bind λo5=>
 if o5=true then
  uN.bind λr7=>
  some r7
 else
  (om a a2).bind λr8=>
  (Co a a2).bind λr9=>
  if (r8 == r9) = true then
   (om a a).bind λr11=>
   if r11=true then
    (gZ a a2).bind λr13=>
    (tG a a2).bind λr14=>
    if (r13 == r14) = true then
     (jK a).bind λr16=>
     (nC a).bind λr17=>
     if(r16==r17)=true then
      (kZ a).bind λr19=>
      (Cr a).bind λr20=>
      if(r19==r20)=true then
       uN.bind λr22=>
       some r22
      else
       some false
     else
      some false
    else
     some false
   else
    some false
  else
   some false
theorem wV{a:aa}{a2:aa}:OV 4 [.agg (ac a),.agg (ac a2)] (mc a a2) (λr=>.bool r) []:=Z4.v<|
 tb λo5 bo5=>te (bV a)<|te (bV a2)<|xO 1<|dZ (sH a a2 _ bo5)<|tF (tb λr7 br7=>bz (yb _ br7)<|tE)<|tb λr8 br8=>tb λr9 br9=>tf (λc10=>tb λr11 br11=>tf (λc12=>tb λr13 br13=>tb λr14 br14=>tf (λc15=>tb λr16 br16=>tb λr17 br17=>tf (λc18=>tb λr19 br19=>tb λr20 br20=>tf (λc21=>tb λr22 br22=>pG [0,0,3,0,0,31,63,127,255,255,1023,2047,4095,8191,8191,32767,8191,8191,262143,524287,1048575,2097151,4194303,8388607,4194303,33554431,67108863,134217727,268435455,536870911,1073741823,536870911,4294967295,8589934591,17179869183,34359738367,68719476735,137438953471,274877906943]<|tv (al a)<|tv (al a2)<|bz (bD _ br8)<|tv (al a)<|tv (al a2)<|bz (jL _ br9)<|tg 8 c10<|tv (al a)<|tv (al a)<|bz (bD _ br11)<|tg 13 c12<|tv (al a)<|tv (al a2)<|bz (iY _ br13)<|tv (al a)<|tv (al a2)<|bz (j1 _ br14)<|tg 22 c15<|tv (al a)<|bz (bI _ br16)<|tv (al a)<|bz (ir _ br17)<|tg 29 c18<|tv (al a)<|bz (aK _ br19)<|tv (al a)<|bz (AE _ br20)<|tg 36 c21<|bz (yb _ br22)<|tE) λc21=>pG [0,0,3,0,0,31,63,127,255,255,1023,2047,4095,8191,8191,32767,8191,8191,262143,524287,1048575,2097151,4194303,8388607,4194303,33554431,67108863,134217727,268435455,536870911,1073741823,536870911,4294967295,8589934591,17179869183,34359738367,68719476735,137438953471,274877906943]<|tv (al a)<|tv (al a2)<|bz (bD _ br8)<|tv (al a)<|tv (al a2)<|bz (jL _ br9)<|tg 8 c10<|tv (al a)<|tv (al a)<|bz (bD _ br11)<|tg 13 c12<|tv (al a)<|tv (al a2)<|bz (iY _ br13)<|tv (al a)<|tv (al a2)<|bz (j1 _ br14)<|tg 22 c15<|tv (al a)<|bz (bI _ br16)<|tv (al a)<|bz (ir _ br17)<|tg 29 c18<|tv (al a)<|bz (aK _ br19)<|tv (al a)<|bz (AE _ br20)<|tg 36 c21<|tE) λc18=>pG [0,0,3,0,0,31,63,127,255,255,1023,2047,4095,8191,8191,32767,8191,8191,262143,524287,1048575,2097151,4194303,8388607,4194303,33554431,67108863,134217727,268435455,536870911,1073741823,536870911,4294967295,8589934591,17179869183,34359738367,68719476735,137438953471,274877906943]<|tv (al a)<|tv (al a2)<|bz (bD _ br8)<|tv (al a)<|tv (al a2)<|bz (jL _ br9)<|tg 8 c10<|tv (al a)<|tv (al a)<|bz (bD _ br11)<|tg 13 c12<|tv (al a)<|tv (al a2)<|bz (iY _ br13)<|tv (al a)<|tv (al a2)<|bz (j1 _ br14)<|tg 22 c15<|tv (al a)<|bz (bI _ br16)<|tv (al a)<|bz (ir _ br17)<|tg 29 c18<|tE) λc15=>pG [0,0,3,0,0,31,63,127,255,255,1023,2047,4095,8191,8191,32767,8191,8191,262143,524287,1048575,2097151,4194303,8388607,4194303,33554431,67108863,134217727,268435455,536870911,1073741823,536870911,4294967295,8589934591,17179869183,34359738367,68719476735,137438953471,274877906943]<|tv (al a)<|tv (al a2)<|bz (bD _ br8)<|tv (al a)<|tv (al a2)<|bz (jL _ br9)<|tg 8 c10<|tv (al a)<|tv (al a)<|bz (bD _ br11)<|tg 13 c12<|tv (al a)<|tv (al a2)<|bz (iY _ br13)<|tv (al a)<|tv (al a2)<|bz (j1 _ br14)<|tg 22 c15<|tE) λc12=>pG [0,0,3,0,0,31,63,127,255,255,1023,2047,4095,8191,8191,32767,8191,8191,262143,524287,1048575,2097151,4194303,8388607,4194303,33554431,67108863,134217727,268435455,536870911,1073741823,536870911,4294967295,8589934591,17179869183,34359738367,68719476735,137438953471,274877906943]<|tv (al a)<|tv (al a2)<|bz (bD _ br8)<|tv (al a)<|tv (al a2)<|bz (jL _ br9)<|tg 8 c10<|tv (al a)<|tv (al a)<|bz (bD _ br11)<|tg 13 c12<|tE) λc10=>pG [0,0,3,0,0,31,63,127,255,255,1023,2047,4095,8191,8191,32767,8191,8191,262143,524287,1048575,2097151,4194303,8388607,4194303,33554431,67108863,134217727,268435455,536870911,1073741823,536870911,4294967295,8589934591,17179869183,34359738367,68719476735,137438953471,274877906943]<|tv (al a)<|tv (al a2)<|bz (bD _ br8)<|tv (al a)<|tv (al a2)<|bz (jL _ br9)<|tg 8 c10<|tE
open Go
mutual
def nP:ah->Nat
 |⟨_,_,_,ks⟩=>nL ks+1
def nL:List ah->Nat
 |[]=>0
 |p::ps=>nP p+nL ps
end
theorem IG(p:ah):nP p=nL p.Kids+1:=by obtain⟨o,n,k,ks⟩:=p;rw[nP];rfl
theorem NQ(p:ah):1<=nP p:=by rw[IG];omega
theorem NP:∀{l:List ah} {x:ah},x∈l->nP x<=nL l
 | y :: l,x,h => by
  rw[nL]
  rcases vaB.1 h with rfl|h
  ·omega
  ·have:=NP h;omega
theorem Hr:∀(l:List ah),l.length<=nL l
 |[]=>by simp[nL]
 |p::l=>by rw[nL];have:=Hr l;have:=NQ p;simp only[vaT];omega
theorem Hf{p x:ah}(h:x∈p.Kids):nP x<nP p:=by rw[IG p];have:=NP h;omega
theorem Ix(p:ah):p.Kids.length<nP p:=by rw[IG];have:=Hr p.Kids;omega
theorem FQ:∀(a b:List ah),nL (a++b)=nL a+nL b
 |[],b=>by simp[nL]
 |p::a,b=>by rw[vaO,nL,FQ a b,nL];omega
mutual
theorem Qj:∀(p:ah),nP p<=cW (am p)
 |⟨o,n,k,ks⟩=>by
  have:=Ld ks
  rw[nP,cC]
  simp only[cW,pm,sl]
  show nL ks+1<=1+(n.length+1+(1+(bp (ks.map am)+1+0)))
  omega
theorem Ld:∀(l:List ah),nL l<=bp (l.map am)
 |[]=>by simp[nL]
 |p::l=>by
  have:=Qj p
  have:=Ld l
  rw[nL]
  simp only[vaG,bp]
  omega
end
mutual
def Uh:ah->ah->Bool
 |⟨o,n,k,ks⟩,⟨o',n',k',ks'⟩=>(o==o')&&((n==n')&&((k==k')&&QP ks ks'))
def QP:List ah->List ah->Bool
 |[],[]=>true
 |x::xs,y::ys=>Uh x y&&QP xs ys
 |_,_=>false
end
mutual
theorem KT:∀(a b:ah),Uh a b=true↔a=b
 |⟨o,n,k,ks⟩,⟨o',n',k',ks'⟩=>by
  rw[Uh]
  have:=KR ks ks'
  simp only[vae,vaY,this,ah.mk.injEq]
theorem KR:∀(a b:List ah),QP a b=true↔a=b
 |[],[]=>by simp[QP]
 |x::xs,y::ys=>by
  rw[QP]
  have h1:=KT x y
  have h2:=KR xs ys
  simp only[vae,h1,h2,vbN]
 |[],y::ys=>by simp[QP]
 |x::xs,[]=>by simp[QP]
end
instance:DecidableEq ah:=λa b=>decidable_of_iff _ (KT a b)
theorem qy{a b:ah}:a=b↔a.Op=b.Op/\a.Name=b.Name/\a.N=b.N/\a.Kids=b.Kids:=by
 cases a;cases b
 simp only[ah.mk.injEq]
 rfl
theorem LF{α:Type}[DecidableEq α]:∀{a b:List α},a.length=b.length->(a.zip b).any (λx=>decide (x.1≠x.2))= !decide (a=b)
 |[],[],_=>by simp
 |x::a,y::b,h=>by
  have ih:=LF (a:=a) (b:=b) (by simpa using h)
  rw[List.zip_cons_cons,List.any_cons,ih]
  by_cases h1:x=y<;>by_cases h2:a=b<;>simp[h1,h2]
theorem nV{α X:Type}[DecidableEq α]{a b:List α}(hl:a.length=b.length)(ha:a.length<9223372036854775808)(body:Int->Option (Int⊕X))(y e:X)
  (hin:∀(i:Nat) (h:i<a.length) (h':i<b.length),body i=some (if decide (a[i]=b[i])=true then .inl (cc ((i:Int)+1))else .inr y)) (hend:body a.length=some (.inr e)):loop body 0=some (if decide (a=b)=true then e else y):=by
 have hz:(a.zip b).length=a.length:=by simp[hl]
 have:=NJ (a.zip b) (by omega) body (λx=>decide (x.1≠x.2)) y e (λi h=>?_) (by rw[hz];exact hend) 0 (vaQ _)
 ·rw[List.drop_zero,LF hl]at this
  rw[show((0:Nat):Int)=0 from rfl]at this
  rw[this]
  by_cases h:a=b<;>simp[h]
 ·have h1:i<a.length:=by omega
  have h2:i<b.length:=by omega
  rw[hin i h1 h2]
  have hzi:(a.zip b)[i]=(a[i],b[i]):=by simp
  rw[hzi]
  by_cases h:a[i]=b[i]<;>simp[h]
abbrev cV:Nat:=1073741824
theorem gB{n:Nat}(h:n<=cV):n<Qb:=by have:=QE;unfold cV at h;omega
theorem No{R:ah->ah->Option Bool}{a b:List ah}(ha:a.length<=cV)(h:∀x∈a,∀y∈b,R x y=some (decide (x=y))):rF R a b=some (decide (a=b)):=by
 unfold rF
 by_cases hl:a.length=b.length
 ·rw[vaz (by simp[hl])]
  unfold p5
  rw[nV hl (by unfold cV at ha;omega) (λzz=>gH R a b (a.length:Int) zz) (.inl ()) (.inr ()) (λi h1 h2=>?_) ?_]
  ·by_cases he:a=b<;>simp[he]
  ·unfold gH
   rw[vaz (by simp)]
  ·unfold gH
   rw[vaA (by simp;omega),aQ a i h1]
   simp only[vab]
   rw[aQ b i h2]
   simp only[vab]
   rw[h _ (vah h1) _ (vah h2)]
   simp only[vab]
   by_cases he:a[i]=b[i]<;>simp[he]
 ·rw[vaA (by simp;omega)]
  rw[decide_eq_false (λhe=>hl (by rw[he]))]
theorem Lr(a b:ah)(ha:nP a<=cV):vj a b=some (decide (a=b)):=by
 refine gv (F:=uj) (λx=>nP x.1) (λx=>nP x.1<=cV) (λx=>decide (x.1=x.2)) (λR x hx ih=>?_) (a,b) ha (gB ha)
 obtain⟨u,v⟩:=x
 have hx:nP u<=cV:=hx
 show pz (λa a2=>R (a,a2)) u v=some (decide (u=v))
 unfold pz
 have hk:=Ix u
 by_cases h1:u.Op=v.Op
 ·by_cases h2:u.Name=v.Name
  ·by_cases h3:u.N=v.N
   ·rw[vaA (by simpa using h1),vaA (by simpa using h2),vaA (by simpa using h3)]
    rw[No (a:=u.Kids) (b:=v.Kids) (by omega) (λx hxa y hyb=>ih (x,y) (Hf hxa) (vbz (vaE (Hf hxa) hx)))]
    simp[qy (a:=u) (b:=v),h1,h2,h3]
   ·rw[vaA (by simpa using h1),vaA (by simpa using h2),vaz (by simpa using h3)]
    simp[qy (a:=u) (b:=v),h3]
  ·rw[vaA (by simpa using h1),vaz (by simpa using h2)]
   simp[qy (a:=u) (b:=v),h2]
 ·rw[vaz (by simpa using h1)]
  simp[qy (a:=u) (b:=v),h1]
theorem Ja(a b:ah)(hb:nP b<=cV):xS a b=some (decide (a=b)):=by
 refine gv (F:=wL) (λx=>nP x.2) (λx=>nP x.2<=cV) (λx=>decide (x.1=x.2)) (λR x hx ih=>?_) (a,b) hb (gB hb)
 obtain⟨u,v⟩:=x
 have hx:nP v<=cV:=hx
 show qR (λa a2=>R (a,a2)) u v=some (decide (u=v))
 unfold qR sV
 have hk:=Ix v
 by_cases h1:u.Op=v.Op
 ·by_cases h2:u.Name=v.Name
  ·by_cases h3:u.N=v.N
   ·by_cases h4:u.Kids.length=v.Kids.length
    ·rw[vaz (by simpa using h1),vaz (by simpa using h2),vaz (by simpa using h3)]
     simp only[h4,bne_self_eq_false,vab,if_false,vbc]
     unfold sW
     rw[<-h4,nV h4 (by unfold cV at hx;omega) _ (.inl ()) (.inr ()) (λi g1 g2=>?_) ?_]
     ·by_cases he:u.Kids=v.Kids<;>simp[he,qy (a:=u) (b:=v),h1,h2,h3]
     ·unfold lh
      rw[vaz (by simp)]
     ·unfold lh
      rw[vaA (by simp;omega),aQ u.Kids i g1]
      simp only[vab]
      rw[aQ v.Kids i g2]
      simp only[vab]
      have hm:=vah g2
      rw[ih (u.Kids[i],v.Kids[i]) (Hf hm) (vbz (vaE (Hf hm) hx))]
      by_cases he:u.Kids[i]=v.Kids[i]<;>simp[he]
    ·have hne:u≠v:=λe=>h4 (by rw[e])
     rw[vaz (by simpa using h1),vaz (by simpa using h2),vaz (by simpa using h3)]
     have hb:((u.Kids.length:Int)!=(v.Kids.length:Int))=true:=by simp;omega
     simp[hb,hne]
   ·have hne:u≠v:=λe=>h3 (by rw[e])
    rw[vaz (by simpa using h1),vaz (by simpa using h2),vaA (by simpa using h3)]
    simp[hne]
  ·have hne:u≠v:=λe=>h2 (by rw[e])
   rw[vaz (by simpa using h1),vaA (by simpa using h2)]
   simp[hne]
 ·have hne:u≠v:=λe=>h1 (by rw[e])
  rw[vaA (by simpa using h1)]
  simp[hne]
theorem PF(l:List ah)(i:Nat)(h:i<l.length):nL (l.take (i+1))=nL (l.take i)+nP l[i]:=by
 rw[vbs h,FQ]
 simp[nL]
def tot{α:Type}(o:Option α)(Q:α->Prop):Prop:=∃a,o=some a/\Q a
section
variable{α β σ τ X Y:Type}
theorem dF{a:α}{Q:α->Prop}(h:Q a):tot (some a) Q:=⟨a,rfl,h⟩
theorem dm{o:Option α}{f:α->Option β}{R:α->Prop}{Q:β->Prop}(h:tot o R)(h':∀a,R a->tot (f a) Q):tot (o.bind f) Q:=by
 obtain⟨a,rfl,h⟩:=h
 exact h' a h
theorem tot.mono{o:Option α}{Q R:α->Prop}(h:tot o Q)(h':∀a,Q a->R a):tot o R:=by
 obtain⟨a,e,h⟩:=h
 exact⟨a,e,h' a h⟩
theorem yV{F:(X->Option Y)->X->Option Y}(μ:X->Nat)(P:X->Prop)(Q:X->Y->Prop)(h:∀(R:X->Option Y) x,P x->(∀y,μ y<μ x->P y->tot (R y) (Q y))->tot (F R x) (Q x))(x:X)(hx:P x)(hm:μ x<Qb):tot (kM F x) (Q x):=by
 have key:∀n x,μ x<n->P x->tot (So F n x) (Q x):=by
  intro n
  induction n with
  |zero=>intro x hx;omega
  |succ n ih=>intro x hx hq;exact h _ x hq λy hy hqy=>ih y (by omega) hqy
 exact key _ x hm hx
end
set_option linter.unusedSimpArgs false
mutual
def xi:ae->Nat
 |⟨_,_,xs,ns,_,ps⟩=>eP xs+ns.length+ps.length+1
def eP:List ae->Nat
 |[]=>0
 |a::xs=>xi a+eP xs
end
theorem pw(t:ae):xi t=eP t.Args+t.Names.length+t.Preds.length+1:=by obtain⟨o,n,xs,ns,p,ps⟩:=t;rw[xi];rfl
theorem NE(t:ae):1<=xi t:=by rw[pw];omega
theorem zI:∀{l:List ae} {x:ae},x∈l->xi x<=eP l
 | y :: l,x,h => by
  rw[eP]
  rcases vaB.1 h with rfl|h
  ·omega
  ·have:=zI h;omega
theorem zH:∀(l:List ae),l.length<=eP l
 |[]=>by simp[eP]
 |p::l=>by rw[eP];have:=zH l;have:=NE p;simp only[vaT];omega
theorem Na{t a:ae}(h:a∈t.Args):xi a<xi t:=by rw[pw t];have:=zI h;omega
theorem H7(t:ae):t.Args.length<xi t:=by rw[pw];have:=zH t.Args;omega
theorem FT(t:ae):t.Names.length<xi t:=by rw[pw];omega
theorem Gg(t:ae):t.Preds.length<xi t:=by rw[pw];omega
mutual
def GG(Q:ah->Prop):ae->Prop
 |⟨_,_,xs,_,p,ps⟩=>Q p/\(∀q∈ps,Q q)/\AG Q xs
def AG(Q:ah->Prop):List ae->Prop
 |[]=>True
 |a::xs=>GG Q a/\AG Q xs
end
theorem Cu(Q:ah->Prop)(t:ae):GG Q t↔Q t.Pred/\(∀q∈t.Preds,Q q)/\AG Q t.Args:=by obtain⟨o,n,xs,ns,p,ps⟩:=t;rw[GG];rfl
theorem Fh(Q:ah->Prop):∀(l:List ae),AG Q l↔∀t∈l,GG Q t
 |[]=>by simp[AG]
 |a::l=>by rw[AG,Fh Q l];simp
theorem M5{Q:ah->Prop}{t a:ae}(h:GG Q t)(ha:a∈t.Args):GG Q a:=(Fh Q _).1 ((Cu Q t).1 h).2.2 a ha
theorem Qi(l:List ah):l.length<=bp (l.map am):=by
 have:=Hr l
 have:=Ld l
 omega
theorem FJ(l:List ai):l.length<=bp (l.map cS):=by
 have h:=IV (l.map cS) (λx hx=>by
  obtain⟨s,_,rfl⟩:=vai.1 hx
  simp only[cS,cW,pm];omega)
 rwa[vbq]at h
theorem ug(t:ae):cW (af t)=1+(pm (.str t.Name)+(pm (sl af t.Args)+(pm (sl cS t.Names)+(1+(pm (.str t.Pred.Name)+(1+(pm (sl am t.Pred.Kids)+(pm (sl am t.Preds)+0)))))))):=by
 rw[bg];rfl
mutual
theorem K6:∀(t:ae),xi t<=cW (af t)
 |⟨o,n,xs,ns,p,ps⟩=>by
  have h1:=C4 xs
  have h2:=Qi ps
  have h3:=FJ ns
  rw[xi,ug]
  show _<=1+(pm (.str n)+(pm (sl af xs)+(pm (sl cS ns)+(1+(pm (.str p.Name)+(1+(pm (sl am p.Kids)+(pm (sl am ps)+0))))))))
  simp only[pm,sl]
  omega
theorem C4:∀(l:List ae),eP l<=bp (l.map af)
 |[]=>by simp[eP]
 |a::l=>by
  have:=K6 a
  have:=C4 l
  rw[eP]
  simp only[vaG,bp]
  omega
end
theorem PR(t:ae):nP t.Pred<=cW (af t):=by
 have h:=Ld t.Pred.Kids
 rw[IG,ug]
 simp only[pm,sl]
 omega
mutual
theorem KH(B:Nat):∀(t:ae),cW (af t)<=B->GG (λp=>nP p<=B) t
 |⟨o,n,xs,ns,p,ps⟩,h=>by
  have h0:=PR ⟨o,n,xs,ns,p,ps⟩
  rw[ug]at h h0
  have h:1+(pm (.str n)+(pm (sl af xs)+(pm (sl cS ns)+(1+(pm (.str p.Name)+(1+(pm (sl am p.Kids)+(pm (sl am ps)+0))))))))<=B:=h
  have h0:nP p<=1+(pm (.str n)+(pm (sl af xs)+(pm (sl cS ns)+(1+(pm (.str p.Name)+(1+(pm (sl am p.Kids)+(pm (sl am ps)+0)))))))):=h0
  simp only[pm,sl]at h h0
  rw[GG]
  refine⟨by omega,λq hq=>?_,H5 B xs (by omega)⟩
  have h1:=Qj q
  have h2:=Dv (vai.2 ⟨q,hq,rfl⟩:am q∈ps.map am)
  omega
theorem H5(B:Nat):∀(l:List ae),bp (l.map af)<=B->AG (λp=>nP p<=B) l
 |[],_=>trivial
 |a::xs,h=>by
  simp only[vaG,bp]at h
  rw[AG]
  exact⟨KH B a (by omega),H5 B xs (by omega)⟩
end
theorem Fv(e:aj):(⟨e.Op,e.Name,e.N,e.Kids,e.Params,e.Alts,e.Types⟩:aj)=e:=by obtain⟨o,n,k,ks,ps,as1,ts⟩:=e;rfl
mutual
def nE:aj->Nat
 |⟨_,_,_,ks,ps,as1,ts⟩=>Ho ks+NL as1+ps.length+ts.length+1
def nA:dE->Nat
 |⟨_,ns,b⟩=>ns.length+nE b+1
def Ho:List aj->Nat
 |[]=>0
 |e::l=>nE e+Ho l
def NL:List dE->Nat
 |[]=>0
 |a::l=>nA a+NL l
end
theorem yy(e:aj):nE e=Ho e.Kids+NL e.Alts+e.Params.length+e.Types.length+1:=by obtain⟨o,n,k,ks,ps,as1,ts⟩:=e;rw[nE];rfl
theorem NN(a:dE):nA a=a.Names.length+nE a.Body+1:=by obtain⟨c,ns,b⟩:=a;rw[nA];rfl
theorem QY(e:aj):1<=nE e:=by rw[yy];omega
theorem Hq:∀{l:List aj} {x:aj},x∈l->nE x<=Ho l
 | y :: l,x,h => by
  rw[Ho]
  rcases vaB.1 h with rfl|h
  ·omega
  ·have:=Hq h;omega
theorem Hn:∀{l:List dE} {x:dE},x∈l->nA x<=NL l
 | y :: l,x,h => by
  rw[NL]
  rcases vaB.1 h with rfl|h
  ·omega
  ·have:=Hn h;omega
theorem Hp:∀(l:List aj),l.length<=Ho l
 |[]=>by simp[Ho]
 |p::l=>by rw[Ho];have:=Hp l;have:=QY p;simp only[vaT];omega
theorem Lc:∀(l:List dE),l.length<=NL l
 |[]=>by simp[NL]
 |p::l=>by rw[NL];have:=Lc l;have:=NN p;simp only[vaT];omega
theorem PD{e x:aj}(h:x∈e.Kids):nE x<nE e:=by rw[yy e];have:=Hq h;omega
theorem GH{e:aj}{x:dE}(h:x∈e.Alts):nE x.Body<nE e:=by rw[yy e];have:=Hn h;have:=NN x;omega
theorem FH(e:aj):e.Kids.length<nE e:=by rw[yy];have:=Hp e.Kids;omega
theorem Fj(e:aj):e.Alts.length<nE e:=by rw[yy];have:=Lc e.Alts;omega
theorem AT(e:aj):e.Params.length<nE e:=by rw[yy];omega
theorem DX(e:aj):e.Types.length<nE e:=by rw[yy];omega
theorem LI{e:aj}{x:dE}(h:x∈e.Alts):x.Names.length<nE e:=by rw[yy];have:=Hn h;have:=NN x;omega
noncomputable instance decT:DecidableEq ae:=λa b=>Classical.propDecidable _
noncomputable instance decE:DecidableEq aj:=λa b=>Classical.propDecidable _
noncomputable instance decA:DecidableEq dE:=λa b=>Classical.propDecidable _
noncomputable instance decQ:DecidableEq bO:=λa b=>Classical.propDecidable _
theorem M6{a b:Bool}:(if a=true then some b else some false)=some (a&&b):=by cases a<;>rfl
theorem Tk{a b:Bool}:(if a=true then some true else some b)=some (a||b):=by cases a<;>rfl
theorem iK{α:Type}[DecidableEq α]{a b:List α}(ha:a.length<=cV)(body:Int->Option (Int⊕(Unit⊕Unit)))
  (hin:∀(i:Nat) (h1:i<a.length) (h2:i<b.length),body (i:Int)=some (if decide (a[i]=b[i])=true then .inl (cc ((i:Int)+1))else .inr (.inl ()))) (hend:body (a.length:Int)=some (.inr (.inr ()))) {k:Unit⊕Unit->Option Bool} (g1:k (.inl ())=some false) (g2:k (.inr ())=some true):
  (if((a.length:Int)!=(b.length:Int))=true then some false else(loop body 0).bind k)=some (decide (a=b)):=by
 by_cases hl:a.length=b.length
 ·rw[vaz (by simp[hl]),nV hl (by unfold cV at ha;omega) body (.inl ()) (.inr ()) hin hend]
  by_cases he:a=b
  ·simp only[he,decide_true,if_true,vab];exact g2
  ·simp only[he,decide_false,vbc,if_false,vab];exact g1
 ·rw[vaA (by simp;omega),decide_eq_false (λhe=>hl (by rw[he]))]
theorem zY{a b:List ai}(ha:a.length<=cV):iT a b=some (decide (a=b)):=by
 unfold iT mm
 refine iK ha _ (λi h1 h2=>?_) ?_ rfl rfl
 ·show ez a b (a.length:Int) (i:Int)=_
  unfold ez
  rw[vaA (by simpa using h1),aQ a i h1]
  simp only[vab]
  rw[aQ b i h2]
  simp only[vab]
  by_cases he:a[i]=b[i]<;>simp[he]
 ·show ez a b (a.length:Int) (a.length:Int)=_
  unfold ez
  rw[vaz (by simp)]
theorem Ab{a b:List ai}(ha:a.length<=cV):gR a b=some (decide (a=b)):=by
 unfold gR kE
 refine iK ha _ (λi h1 h2=>?_) ?_ rfl rfl
 ·show dU a b (i:Int)=_
  unfold dU
  rw[vaA (by simpa using h1),aQ a i h1]
  simp only[vab]
  rw[aQ b i h2]
  simp only[vab]
  by_cases he:a[i]=b[i]<;>simp[he]
 ·show dU a b (a.length:Int)=_
  unfold dU
  rw[vaz (by simp)]
theorem Mj{a b:List ah}(ha:a.length<=cV)(h:∀x∈a,nP x<=cV):gD a b=some (decide (a=b)):=by
 unfold gD hZ
 refine iK ha _ (λi h1 h2=>?_) ?_ rfl rfl
 ·show cz b a (a.length:Int) (i:Int)=_
  unfold cz
  rw[vaA (by simpa using h1),aQ a i h1]
  simp only[vab]
  rw[aQ b i h2]
  simp only[vab]
  rw[Lr _ _ (h _ (vah h1))]
  simp only[vab]
  by_cases he:a[i]=b[i]<;>simp[he]
 ·show cz b a (a.length:Int) (a.length:Int)=_
  unfold cz
  rw[vaz (by simp)]
theorem Gi{R:ae->ae->Option Bool}{a b:List ae}(ha:a.length<=cV)(h:∀x∈a,∀y∈b,R x y=some (decide (x=y))):jj R a b=some (decide (a=b)):=by
 unfold jj kG
 refine iK ha _ (λi h1 h2=>?_) ?_ rfl rfl
 ·show dV R a b (i:Int)=_
  unfold dV
  rw[vaA (by simpa using h1),aQ a i h1]
  simp only[vab]
  rw[aQ b i h2]
  simp only[vab]
  rw[h _ (vah h1) _ (vah h2)]
  simp only[vab]
  by_cases he:a[i]=b[i]<;>simp[he]
 ·show dV R a b (a.length:Int)=_
  unfold dV
  rw[vaz (by simp)]
theorem qz{a b:ae}:a=b↔a.Op=b.Op/\a.Name=b.Name/\a.Names=b.Names/\a.Pred=b.Pred/\a.Preds=b.Preds/\a.Args=b.Args:=by
 obtain⟨o,n,xs,ns,p,ps⟩:=a
 obtain⟨o',n',xs',ns',p',ps'⟩:=b
 constructor
 ·rintro h;cases h;exact⟨rfl,rfl,rfl,rfl,rfl,rfl⟩
 ·rintro⟨h1,h2,h3,h4,h5,h6⟩
  cases h1;cases h2;cases h3;cases h4;cases h5;cases h6;rfl
abbrev FV(t:ae):Prop:=xi t<=cV/\GG (λp=>nP p<=cV) t
theorem BS{t a:ae}(h:FV t)(ha:a∈t.Args):FV a:=⟨vaw (vbz (Na ha)) h.1,M5 h.2 ha⟩
theorem Gh{R:List ae->List ae->Option Bool}(u v:ae)(hu:FV u)(h:R u.Args v.Args=some (decide (u.Args=v.Args))):fq R u v=some (decide (u=v)):=by
 obtain⟨p1,p2,_⟩:=(Cu _ u).1 hu.2
 have l1:=H7 u
 have l2:=FT u
 have l3:=Gg u
 have l0:=hu.1
 unfold fq
 rw[zY (by omega),Lr _ _ p1,Mj (by omega) p2,h]
 simp only[vab,M6,vas]
 rw[vbR]
 simp[qz (a:=u) (b:=v)]
theorem FW(a b:List ae)(ha:eP a<=cV)(hk:∀x∈a,FV x):ch a b=some (decide (a=b)):=by
 refine gv (F:=eL) (λx=>eP x.1) (λx=>eP x.1<=cV/\∀t∈x.1,FV t) (λx=>decide (x.1=x.2)) (λR x hx ih=>?_) (a,b) ⟨ha,hk⟩ (gB ha)
 obtain⟨u,v⟩:=x
 obtain⟨hu,hq⟩:eP u<=cV/\∀t∈u,FV t:=hx
 have l0:=zH u
 show dq (λa a2=>R (a,a2)) u v=some (decide (u=v))
 unfold dq eC
 refine iK (by omega) _ (λi h1 h2=>?_) ?_ rfl rfl
 ·show bJ (λa a2=>R (a,a2)) v u (u.length:Int) (i:Int)=_
  unfold bJ
  rw[vaA (by simpa using h1),aQ u i h1]
  simp only[vab]
  rw[aQ v i h2]
  simp only[vab]
  have hm:=vah h1
  have e1:=pw u[i]
  have e2:=zI hm
  rw[Gh _ _ (hq _ hm) (ih (u[i].Args,v[i].Args) (by show eP u[i].Args<eP u;omega) ⟨by show eP u[i].Args<=cV;omega,λt ht=>BS (hq _ hm) ht⟩)]
  simp only[vab]
  by_cases he:u[i]=v[i]<;>simp[he]
 ·show bJ (λa a2=>R (a,a2)) v u (u.length:Int) (u.length:Int)=_
  unfold bJ
  rw[vaz (by simp)]
theorem Mu(a b:ae)(ha:FV a):fq ch a b=some (decide (a=b)):=Gh a b ha (FW _ _ (by have:=pw a;have:=ha.1;omega) λx hx=>BS ha hx)
theorem Gj(a b:ae)(ha:FV a)(hb:FV b):iI a b=some (decide (a=b)):=by
 refine gv (F:=nv) (λx=>xi x.1) (λx=>FV x.1/\FV x.2) (λx=>decide (x.1=x.2)) (λR x hx ih=>?_) (a,b) ⟨ha,hb⟩ (gB ha.1)
 obtain⟨u,v⟩:=x
 obtain⟨hu,hv⟩:FV u/\FV v:=hx
 obtain⟨q1,q2,_⟩:=(Cu _ v).1 hv.2
 have l1:=H7 u
 have l2:=FT u
 have l3:=Gg u
 have l0:=hu.1
 show jW (λa a2=>R (a,a2)) u v=some (decide (u=v))
 unfold jW lZ
 rw[Ab (by omega),Ja _ _ q1,Gi (R:=λa a2=>R (a,a2)) (a:=u.Args) (b:=v.Args) (by omega) (λx hx y hy=>ih (x,y) (Na hx) ⟨BS hu hx,BS hv hy⟩)]
 simp only[vab,Tk]
 by_cases hl:u.Preds.length=v.Preds.length
 ·unfold ma
  rw[nV hl (by unfold cV at l0;omega) (λzz=>du u v zz) (.inl ()) (.inr ()) (λi h1 h2=>?_) ?_]
  ·by_cases h5:u.Preds=v.Preds
   ·simp only[h5,decide_true,if_true,vab]
    by_cases h0:(u.Op !=v.Op||(!(u.Name==v.Name)||(!decide (u.Names=v.Names)||(!decide (u.Pred=v.Pred)||((v.Preds.length:Int)!=(v.Preds.length:Int))))))=true
    ·rw[vaA h0]
     congr 1;symm
     rw[va8,qz]
     rintro⟨e1,e2,e3,e4,_⟩
     simp[e1,e2,e3,e4]at h0
    ·rw[vaz h0]
     congr 1
     simp only[vaZ,vcX,vaX,bne_iff_ne,ne_eq,Decidable.not_not,vcO,vaY,vam]at h0
     obtain⟨e1,e2,e3,e4,_⟩:=h0
     rw[vbR]
     simp[qz (a:=u) (b:=v),e1,e2,e3,e4,h5]
   ·simp only[h5,decide_false,vbc,if_false,vab,ite_self]
    congr 1;symm
    rw[va8,qz]
    rintro⟨_,_,_,_,e5,_⟩
    exact h5 e5
  ·show du u v (u.Preds.length:Int)=_
   unfold du
   rw[vaz (by simp)]
  ·show du u v (i:Int)=_
   unfold du
   rw[vaA (by simpa using h1),aQ _ i h1]
   simp only[vab]
   rw[aQ _ i h2]
   simp only[vab]
   rw[Ja _ _ (q2 _ (vah h2))]
   simp only[vab]
   by_cases he:u.Preds[i]=v.Preds[i]<;>simp[he]
 ·have hx:((u.Preds.length:Int)!=(v.Preds.length:Int))=true:=by simp;omega
  rw[vaA (by simp[hx])]
  congr 1;symm
  rw[va8,qz]
  rintro⟨_,_,_,_,e5,_⟩
  exact hl (by rw[e5])
mutual
def wT:ae->Nat
 |⟨_,_,xs,_,p,ps⟩=>nP p+nL ps+Jt xs
def Jt:List ae->Nat
 |[]=>0
 |a::xs=>wT a+Jt xs
end
theorem SY(t:ae):wT t=nP t.Pred+nL t.Preds+Jt t.Args:=by obtain⟨o,n,xs,ns,p,ps⟩:=t;rw[wT];rfl
theorem OQ(l:List ae)(i:Nat)(h:i<l.length):Jt (l.take (i+1))=Jt (l.take i)+wT l[i]:=by
 have key:∀(a b:List ae),Jt (a++b)=Jt a+Jt b:=by
  intro a b
  induction a with
  |nil=>simp[Jt]
  |cons x a ih=>rw[vaO,Jt,Jt,ih];omega
 rw[vbs h,key]
 simp[Jt]
theorem tS{α:Type}{l:List α}{i:Nat}{n most:Int}(h:i<l.length)(hm:n<=most):(if decide ((i:Int)<(l.length:Int))=true then some (decide (n<=most))else some false)=some true:=by
 rw[vaA (by simp;omega),vb4 hm]
theorem pf{α:Type}{l:List α}{i:Nat}{n most:Int}(h:i=l.length\/¬n<=most):(if decide ((i:Int)<(l.length:Int))=true then some (decide (n<=most))else some false)=some false:=by
 by_cases hi:i<l.length
 ·rw[vaA (by simp;omega)]
  rcases h with h|h
  ·omega
  ·rw[decide_eq_false h]
 ·rw[vaz (by simp;omega)]
theorem pI{α:Type}(l:List α)(hl:l.length<9223372036854775808){body:Int×Int->Option ((Int×Int)⊕Int)}(most:Int)(I:Nat->Int->Prop)
  (hin:∀(i:Nat) (h:i<l.length) n,I i n->n<=most->tot (body (n,(i:Int))) (λr=>∃n',r=.inl (n',cc ((i:Int)+1))/\I (i+1) n'))
  (hout:∀(i:Nat) n,i<=l.length->(i=l.length\/¬n<=most)->body (n,(i:Int))=some (.inr n)) (n:Int) (h0:I 0 n):tot (loop body (n,0)) (λr=>∃i,i<=l.length/\I i r/\(i=l.length\/¬r<=most)):=by
 have key:∀k i n,k+i=l.length->I i n->tot (loop body (n,(i:Int))) (λr=>∃i,i<=l.length/\I i r/\(i=l.length\/¬r<=most)):=by
  intro k
  induction k with
  |zero=>
   intro i n hi hI
   rw[mW,hout i n (by omega) (.inl (by omega))]
   exact dF ⟨i,by omega,hI,.inl (by omega)⟩
  | succ k ih =>
   intro i n hi hI
   by_cases hm:n<=most
   ·obtain⟨r,e,n',rfl,hI'⟩:=hin i (by omega) n hI hm
    rw[mW,e]
    simp only
    rw[bE (by omega) (by omega),show((i:Int)+1)=((i+1:Nat):Int) by omega]
    exact ih (i+1) n' (by omega) hI'
   ·rw[mW,hout i n (by omega) (.inr hm)]
    exact dF ⟨i,by omega,hI,.inr hm⟩
 exact key l.length 0 n (by omega) h0
theorem uo(a b:Nat)(hb:0<b)(ha:a<9223372036854775808):qu .i64 (a:Int) (b:Int)=some ((a / b:Nat):Int):=by
 unfold qu
 rw[vaz (by omega)]
 have h:((a:Int).tdiv (b:Int))=((a / b:Nat):Int):=by
  rw[vbT (by omega)];rfl
 rw[h]
 have h2:=vbx a b
 generalize a / b=q at *
 congr 1
 exact bE (by omega) (by omega)
theorem yH(p:ah):cW (am p)=1+(p.Name.length+1+(1+(bp (p.Kids.map am)+1+0))):=by
 rw[cC];simp only[cW,pm,sl]
theorem iP{α:Type}(c:α->List PVal)(l:List α)(i:Nat)(h:i<l.length):bp ((l.take (i+1)).map c)=bp ((l.take i).map c)+cW (c l[i]):=by
 rw[vbs h,vcc]
 have:∀(a b:List (List PVal)),bp (a++b)=bp a+bp b:=by
  intro a
  induction a with
  |nil=>intro b;simp[bp]
  |cons x a ih=>intro b;rw[vaO,bp,ih,bp];omega
 rw[this]
 simp[bp]
theorem bM{α:Type}(c:α->List PVal)(l:List α)(i:Nat):bp ((l.take i).map c)<=bp (l.map c):=by
 have:∀(l:List α) (i:Nat),bp ((l.take i).map c)<=bp (l.map c):=by
  intro l
  induction l with
  |nil=>intro i;simp
  |cons x l ih=>
   intro i
   cases i with
   |zero=>simp[bp]
   |succ i=>have:=ih i;simp only[List.take_succ_cons,vaG,bp];omega
 exact this l i
theorem fT{α:Type}(c:α->List PVal)(h:∀x,1<=cW (c x)):∀(l:List α),l.length<=bp (l.map c)
 |[]=>by simp
 |x::l=>by have:=fT c h l;have:=h x;simp only[vaG,bp,vaT];omega
theorem Of(p:ah):1<=cW (am p):=by rw[yH];omega
theorem IF(l:List ah):nL (l.take l.length)=nL l:=by rw[vba]
abbrev oB:Nat:=4000000
structure R1(l:List ah)(most r:Int):Prop where
 lo:0<=r
 hi:r<=(bp (l.map am):Int)
 sm:r<=most->(nL l:Int)<=r
theorem PU(l:List ah)(most:Int)(hl:bp (l.map am)<=oB)(h1: -8000000<=most)(h2:most<=1000000000):tot (zq l most) (R1 l most):=by
 refine yV (F:=tu) (λx=>bp (x.1.map am)) (λx=>bp (x.1.map am)<=oB/\-8000000<=x.2/\x.2<=1000000000) (λx r=>R1 x.1 x.2 r) (λR x hx ih=>?_) (l,most) ⟨hl,h1,h2⟩ (gB (vaw hl (by decide)))
 obtain⟨l,most⟩:=x
 obtain⟨hl,h1,h2⟩:=hx
 have hl:bp (l.map am)<=oB:=hl
 have h1: -8000000<=most:=h1
 have h2:most<=1000000000:=h2
 have hlen:=fT am Of l
 show tot (oR (λa most=>R (a,most)) l most) _
 unfold oR xU
 unfold oB at hl
 refine dm (pI l (by omega) most (λi n=>0<=n/\n<=(bp ((l.take i).map am):Int)/\(n<=most->(nL (l.take i):Int)<=n)) (λi hi n hI hm=>?_) (λi n _ h=>?_) 0 ⟨by omega,by omega,λ_=>by simp[nL]⟩) (λr hr=>dF ?_)
 ·obtain⟨g1,g2,g3⟩:=hI
  have e:=iP am l i hi
  have e2:=bM am l (i+1)
  have ep:=yH l[i]
  have en:=PF l i hi
  have enp:=IG l[i]
  show tot (fM (λa most=>R (a,most)) l most n i) _
  unfold fM mN
  rw[tS hi hm,aQ l i hi]
  simp only[vab,if_true]
  have hq:=vbx l[i].Name.length 50
  rw[show(50:Int)=((50:Nat):Int)from rfl,uo _ 50 (by omega) (by omega)]
  simp only[vab]
  rw[bE (n:=n+1) (by omega) (by omega),bE (n:=n+1+_) (by omega) (by omega),bE (n:=most - _) (by omega) (by omega)]
  refine dm (ih (l[i].Kids,most - (n+1+((l[i].Name.length / 50:Nat):Int))) (by show _<bp (l.map am);show bp (l[i].Kids.map am)<_;omega) ⟨by show bp (l[i].Kids.map am)<=oB;unfold oB;omega,by show -8000000<=most - _;omega,by show most - _<=1000000000;omega⟩) (λr hr=>?_)
  have q1:=hr.lo
  have q2:r<=(bp (l[i].Kids.map am):Int):=hr.hi
  have q3:r<=most - (n+1+((l[i].Name.length / 50:Nat):Int))->(nL l[i].Kids:Int)<=r:=hr.sm
  rw[bE (n:=n+1+_+r) (by omega) (by omega)]
  refine dF ⟨_,rfl,by omega,by omega,λhm'=>?_⟩
  have:=q3 (by omega)
  have:=g3 hm
  omega
 ·show fM (λa most=>R (a,most)) l most n i=_
  unfold fM mN
  rw[pf h]
  rfl
 ·obtain⟨i,hi,⟨g1,g2,g3⟩,h⟩:=hr
  have e2:=bM am l i
  refine⟨g1,by show r<=(bp (l.map am):Int);omega,λhm=>?_⟩
  have hm:r<=most:=hm
  have:i=l.length:=by
   rcases h with h|h
   ·exact h
   ·exact absurd hm h
  subst this
  rw[IF]at g3
  exact g3 hm
theorem J4(l:List ae)(i:Nat)(h:i<l.length):eP (l.take (i+1))=eP (l.take i)+xi l[i]:=by
 have ap:∀(a b:List ae),eP (a++b)=eP a+eP b:=by
  intro a
  induction a with
  |nil=>intro b;simp[eP]
  |cons x a ih=>intro b;rw[vaO,eP,ih,eP];omega
 rw[vbs h,ap]
 simp[eP]
theorem IY(t:ae):1<=cW (af t):=by rw[ug];omega
theorem Mq(t:ae):cW (af t)=1+(t.Name.length+1)+(bp (t.Args.map af)+1)+(bp (t.Names.map cS)+1)+cW (am t.Pred)+(bp (t.Preds.map am)+1):=by
 rw[ug,yH];simp only[pm,sl];omega
structure R2(l:List ae)(most r:Int):Prop where
 lo:0<=r
 hi:r<=(bp (l.map af):Int)
 sm:r<=most->(eP l:Int)<=r/\(Jt l:Int)<=r
theorem Lz(l:List ae)(most:Int)(hl:bp (l.map af)<=oB)(h1: -8000000<=most)(h2:most<=1000000000):tot (uM l most) (R2 l most):=by
 refine yV (F:=tC) (λx=>bp (x.1.map af)) (λx=>bp (x.1.map af)<=oB/\-8000000<=x.2/\x.2<=1000000000) (λx r=>R2 x.1 x.2 r) (λR x hx ih=>?_) (l,most) ⟨hl,h1,h2⟩ (gB (vaw hl (by decide)))
 obtain⟨l,most⟩:=x
 obtain⟨hl,h1,h2⟩:=hx
 have hl:bp (l.map af)<=oB:=hl
 have h1: -8000000<=most:=h1
 have h2:most<=1000000000:=h2
 have hlen:=fT af IY l
 show tot (oT (λa most=>R (a,most)) l most) _
 unfold oT xX
 unfold oB at hl
 refine dm (pI l (by omega) most (λi n=>0<=n/\n<=(bp ((l.take i).map af):Int)/\(n<=most->(eP (l.take i):Int)<=n/\(Jt (l.take i):Int)<=n)) (λi hi n hI hm=>?_) (λi n _ h=>?_) 0 ⟨by omega,by omega,λ_=>by simp[eP,Jt]⟩) (λr hr=>dF ?_)
 ·obtain⟨g1,g2,g3⟩:=hI
  have e:=iP af l i hi
  have e2:=bM af l (i+1)
  have ep:=Mq l[i]
  have epp:=yH l[i].Pred
  have en:=J4 l i hi
  have en2:=OQ l i hi
  have enp:=pw l[i]
  have enp2:=SY l[i]
  have hns:=FJ l[i].Names
  have hps:=Qi l[i].Preds
  have hpl:=Hr l[i].Preds
  show tot (fN (λa most=>R (a,most)) l most n i) _
  unfold fN mO
  rw[tS hi hm,aQ l i hi]
  simp only[vab,if_true]
  have hq:=vbx l[i].Name.length 50
  rw[show(50:Int)=((50:Nat):Int)from rfl,uo _ 50 (by omega) (by omega)]
  simp only[vab]
  rw[M9 (by simp;omega)]
  simp only[vab]
  refine dm (PU ([l[i].Pred]++l[i].Preds) most (by unfold oB;simp only[List.singleton_append,vaG,bp];omega) h1 h2) (λrp hp=>?_)
  have p1:=hp.lo
  have p2:rp<=((cW (am l[i].Pred)+bp (l[i].Preds.map am):Nat):Int):=by
   have:=hp.hi
   simp only[List.singleton_append,vaG,bp]at this
   exact this
  have p3:rp<=most->((nP l[i].Pred+nL l[i].Preds:Nat):Int)<=rp:=by
   have:=hp.sm
   simp only[List.singleton_append,nL]at this
   exact this
  rw[bE (n:=n+1) (by omega) (by omega),bE (n:=n+1+_) (by omega) (by omega),bE (n:=n+1+_+_) (by omega) (by omega),bE (n:=n+1+_+_+_) (by omega) (by omega),bE (n:=most - _) (by omega) (by omega)]
  refine dm (ih (l[i].Args,most - (n+1+((l[i].Name.length / 50:Nat):Int)+(l[i].Names.length:Int)+rp)) (by show _<bp (l.map af);show bp (l[i].Args.map af)<_;omega) ⟨by show bp (l[i].Args.map af)<=oB;unfold oB;omega,by show -8000000<=most - _;omega,by show most - _<=1000000000;omega⟩) (λr hr=>?_)
  have q1:=hr.lo
  have q2:r<=(bp (l[i].Args.map af):Int):=hr.hi
  have q3:r<=most - (n+1+((l[i].Name.length / 50:Nat):Int)+(l[i].Names.length:Int)+rp)->(eP l[i].Args:Int)<=r/\(Jt l[i].Args:Int)<=r:=hr.sm
  rw[bE (n:=_+r) (by omega) (by omega)]
  refine dF ⟨_,rfl,by omega,by omega,λhm'=>?_⟩
  have:=q3 (by omega)
  have:=p3 (by omega)
  have:=g3 hm
  have:=NQ l[i].Pred
  omega
 ·show fN (λa most=>R (a,most)) l most n i=_
  unfold fN mO
  rw[pf h]
  rfl
 ·obtain⟨i,hi,⟨g1,g2,g3⟩,h⟩:=hr
  have e2:=bM af l i
  refine⟨g1,by show r<=(bp (l.map af):Int);omega,λhm=>?_⟩
  have hm:r<=most:=hm
  have:i=l.length:=by
   rcases h with h|h
   ·exact h
   ·exact absurd hm h
  subst this
  rw[vba]at g3
  exact g3 hm
theorem lT(e:aj):cW (ak e)=1+(e.Name.length+1+(1+(bp (e.Kids.map ak)+1+(bp (e.Params.map aG)+1+(bp (e.Alts.map bk)+1+(bp (e.Types.map af)+1+0)))))):=by
 rw[cx];simp only[cW,pm,sl]
theorem BT(a:dE):cW (bk a)=a.Con.length+1+(bp (a.Names.map cS)+1+cW (ak a.Body)):=by
 obtain⟨c,ns,b⟩:=a
 rw[bk]
 show cW (PVal.str c::sl cS ns::ak b)=_
 simp only[cW,pm,sl];rfl
theorem z8(p:bO):cW (aG p)=p.Name.length+1+cW (af p.Type_):=by
 show cW (PVal.str p.Name::af p.Type_)=_
 simp only[cW,pm]
theorem IX(e:aj):1<=cW (ak e):=by rw[lT];omega
theorem PQ(a:dE):1<=cW (bk a):=by rw[BT];omega
theorem Gd(p:bO):1<=cW (aG p):=by rw[z8];omega
theorem rE{α:Type}(c:α->List PVal){l:List α}{x:α}(h:x∈l):cW (c x)<=bp (l.map c):=Dv (vai.2 ⟨x,h,rfl⟩)
theorem Od{e x:aj}(h:x∈e.Kids):cW (ak x)<cW (ak e):=by have:=rE ak h;rw[lT e];omega
theorem Q8{e:aj}{a:dE}(h:a∈e.Alts):cW (bk a)<cW (ak e):=by have:=rE bk h;rw[lT e];omega
theorem IW{e:aj}{a:dE}(h:a∈e.Alts):cW (ak a.Body)<cW (ak e):=by have:=Q8 h;have:=BT a;omega
theorem Oe{e:aj}{p:bO}(h:p∈e.Params):cW (aG p)<cW (ak e):=by have:=rE aG h;rw[lT e];omega
theorem PT{e:aj}{t:ae}(h:t∈e.Types):cW (af t)<cW (ak e):=by have:=rE af h;rw[lT e];omega
mutual
theorem NO:∀(e:aj),nE e<=cW (ak e)
 |⟨o,n,k,ks,ps,as1,ts⟩=>by
  have h1:=J5 ks
  have h2:=NM as1
  have h3:=fT aG Gd ps
  have h4:=fT af IY ts
  rw[nE,lT]
  show _<=1+(n.length+1+(1+(bp (ks.map ak)+1+(bp (ps.map aG)+1+(bp (as1.map bk)+1+(bp (ts.map af)+1+0))))))
  omega
theorem St:∀(a:dE),nA a<=cW (bk a)
 |⟨c,ns,b⟩=>by
  have h1:=NO b
  have h2:=FJ ns
  rw[nA,BT]
  show _<=c.length+1+(bp (ns.map cS)+1+cW (ak b))
  omega
theorem J5:∀(l:List aj),Ho l<=bp (l.map ak)
 |[]=>by simp[Ho]
 |e::l=>by
  have:=NO e
  have:=J5 l
  rw[Ho]
  simp only[vaG,bp]
  omega
theorem NM:∀(l:List dE),NL l<=bp (l.map bk)
 |[]=>by simp[NL]
 |a::l=>by
  have:=St a
  have:=NM l
  rw[NL]
  simp only[vaG,bp]
  omega
end
theorem NT{t:ae}(h:cW (af t)<=cV):FV t:=⟨vaw (K6 t) h,KH cV t h⟩
theorem PG(l:List ai)(most:Int)(hl:bp (l.map cS)<=oB):tot (uL l most) (λr=>0<=r/\r<=(bp (l.map cS):Int)):=by
 unfold uL xT
 unfold oB at hl
 have hlen:=FJ l
 refine dm (pI l (by omega) most (λi n=>0<=n/\n<=(bp ((l.take i).map cS):Int)) (λi hi n hI hm=>?_) (λi n _ h=>?_) 0 ⟨by omega,by omega⟩) (λr hr=>dF ?_)
 ·obtain⟨g1,g2⟩:=hI
  have e:=iP cS l i hi
  have e2:=bM cS l (i+1)
  have e3:cW (cS l[i])=l[i].length+1:=by simp only[cS,cW,pm]
  show tot (fL l most n i) _
  unfold fL mM
  rw[tS hi hm,aQ l i hi]
  simp only[vab,if_true]
  have hq:=vbx l[i].length 50
  rw[show(50:Int)=((50:Nat):Int)from rfl,uo _ 50 (by omega) (by omega)]
  simp only[vab]
  rw[bE (n:=n+1) (by omega) (by omega),bE (n:=n+1+_) (by omega) (by omega)]
  exact dF ⟨_,rfl,by omega,by omega⟩
 ·show fL l most n i=_
  unfold fL mM
  rw[pf h]
  rfl
 ·obtain⟨i,hi,⟨g1,g2⟩,h⟩:=hr
  have e2:=bM cS l i
  exact⟨g1,by omega⟩
theorem RY(e:aj)(most:Int)(he:cW (ak e)<=oB)(h1: -4000000<=most)(h2:most<=1000000000):tot (B4 e most) (λr=>0<=r/\r<=(cW (ak e):Int)):=by
 refine yV (F:=wM) (λx=>cW (ak x.1)) (λx=>cW (ak x.1)<=oB/\-4000000<=x.2/\x.2<=1000000000) (λx r=>0<=r/\r<=(cW (ak x.1):Int)) (λR x hx ih=>?_) (e,most) ⟨he,h1,h2⟩ (gB (vaw he (by decide)))
 obtain⟨e,most⟩:=x
 obtain⟨he,h1,h2⟩:=hx
 have he:cW (ak e)<=oB:=he
 have h1: -4000000<=most:=h1
 have h2:most<=1000000000:=h2
 have hpm:=lT e
 have l1:=fT aG Gd e.Params
 have l2:=fT ak IX e.Kids
 have l3:=fT bk PQ e.Alts
 show tot (qS (λe most=>R (e,most)) e most) (λr=>0<=r/\r<=(cW (ak e):Int))
 unfold qS
 unfold oB at he
 have hq:=vbx e.Name.length 50
 rw[show(50:Int)=((50:Nat):Int)from rfl,uo _ 50 (by omega) (by omega)]
 simp only[vab]
 refine dm (Lz e.Types most (by unfold oB;omega) (by omega) h2) (λrt ht=>?_)
 have t1:=ht.lo
 have t2:=ht.hi
 rw[bE (n:=1+_) (by omega) (by omega),bE (n:=1+_+rt) (by omega) (by omega)]
 generalize hb:(1:Int)+((e.Name.length / 50:Nat):Int)+rt=b0
 have b1:0<=b0:=by omega
 have b2:b0<=((1+e.Name.length+bp (e.Types.map af):Nat):Int):=by omega
 refine dm (R:=λr=>0<=r/\r<=b0+(bp (e.Params.map aG):Int)) ?_ (λr1 hr1=>?_)
 ·unfold Aw
  refine(pI e.Params (by omega) most (λi n=>0<=n/\n<=b0+(bp ((e.Params.take i).map aG):Int)) (λi hi n hI hm=>?_) (λi n _ h=>?_) b0 ⟨b1,by simp[bp]⟩).mono (λr hr=>?_)
  ·obtain⟨g1,g2⟩:=hI
   have e1:=iP aG e.Params i hi
   have e2:=bM aG e.Params (i+1)
   have e3:=z8 e.Params[i]
   show tot (gO most e n i) _
   unfold gO oM
   rw[tS hi hm,aQ e.Params i hi]
   simp only[vab,if_true]
   have hq:=vbx e.Params[i].Name.length 50
   rw[show(50:Int)=((50:Nat):Int)from rfl,uo _ 50 (by omega) (by omega)]
   simp only[vab]
   refine dm (Lz [e.Params[i].Type_] most (by unfold oB;simp only[vaG,vb7,bp];omega) (by omega) h2) (λrp hp=>?_)
   have p1:=hp.lo
   have p2:rp<=((cW (af e.Params[i].Type_)+0:Nat):Int):=by
    have:=hp.hi
    simp only[vaG,vb7,bp]at this
    exact this
   rw[bE (n:=n+1) (by omega) (by omega),bE (n:=n+1+_) (by omega) (by omega),bE (n:=n+1+_+_) (by omega) (by omega)]
   exact dF ⟨_,rfl,by omega,by omega⟩
  ·show gO most e n i=_
   unfold gO oM
   rw[pf h]
   rfl
  ·obtain⟨i,hi,⟨g1,g2⟩,h⟩:=hr
   have e2:=bM aG e.Params i
   exact⟨g1,by omega⟩
 obtain⟨c1,c2⟩:=hr1
 refine dm (R:=λr=>0<=r/\r<=r1+(bp (e.Kids.map ak):Int)) ?_ (λr2 hr2=>?_)
 ·unfold Ax
  refine(pI e.Kids (by omega) most (λi n=>0<=n/\n<=r1+(bp ((e.Kids.take i).map ak):Int)) (λi hi n hI hm=>?_) (λi n _ h=>?_) r1 ⟨c1,by simp[bp]⟩).mono (λr hr=>?_)
  ·obtain⟨g1,g2⟩:=hI
   have e1:=iP ak e.Kids i hi
   have e2:=bM ak e.Kids (i+1)
   have hk:=Od (vah hi)
   show tot (gP (λe most=>R (e,most)) most e n i) _
   unfold gP oN
   rw[tS hi hm,aQ e.Kids i hi]
   simp only[vab,if_true]
   rw[bE (n:=most - n) (by omega) (by omega)]
   refine dm (ih (e.Kids[i],most - n) hk ⟨by show cW (ak e.Kids[i])<=oB;unfold oB;omega,by show -4000000<=most - n;omega,by show most - n<=1000000000;omega⟩) (λr hr=>?_)
   have q1:0<=r:=hr.1
   have q2:r<=(cW (ak e.Kids[i]):Int):=hr.2
   rw[bE (n:=n+r) (by omega) (by omega)]
   exact dF ⟨_,rfl,by omega,by omega⟩
  ·show gP (λe most=>R (e,most)) most e n i=_
   unfold gP oN
   rw[pf h]
   rfl
  ·obtain⟨i,hi,⟨g1,g2⟩,h⟩:=hr
   have e2:=bM ak e.Kids i
   exact⟨g1,by omega⟩
 obtain⟨d1,d2⟩:=hr2
 refine dm (R:=λr=>0<=r/\r<=r2+(bp (e.Alts.map bk):Int)) ?_ (λr3 hr3=>dF ⟨hr3.1,by have:=hr3.2;omega⟩)
 unfold Ay
 refine(pI e.Alts (by omega) most (λi n=>0<=n/\n<=r2+(bp ((e.Alts.take i).map bk):Int)) (λi hi n hI hm=>?_) (λi n _ h=>?_) r2 ⟨d1,by simp[bp]⟩).mono (λr hr=>?_)
 ·obtain⟨g1,g2⟩:=hI
  have e1:=iP bk e.Alts i hi
  have e2:=bM bk e.Alts (i+1)
  have e3:=BT e.Alts[i]
  have hk:=IW (vah hi)
  show tot (gQ (λe most=>R (e,most)) most e n i) _
  unfold gQ oO
  rw[tS hi hm,aQ e.Alts i hi]
  simp only[vab,if_true]
  have hq:=vbx e.Alts[i].Con.length 50
  rw[show(50:Int)=((50:Nat):Int)from rfl,uo _ 50 (by omega) (by omega)]
  simp only[vab]
  refine dm (PG e.Alts[i].Names most (by unfold oB;omega)) (λrn hn=>?_)
  obtain⟨n1,n2⟩:=hn
  rw[bE (n:=n+1) (by omega) (by omega),bE (n:=n+1+_) (by omega) (by omega),bE (n:=n+1+_+_) (by omega) (by omega),bE (n:=most - _) (by omega) (by omega)]
  refine dm (ih (e.Alts[i].Body,most - (n+1+((e.Alts[i].Con.length / 50:Nat):Int)+rn)) hk ⟨by show cW (ak e.Alts[i].Body)<=oB;unfold oB;omega,by show -4000000<=most - _;omega,by show most - _<=1000000000;omega⟩) (λr hr=>?_)
  have q1:0<=r:=hr.1
  have q2:r<=(cW (ak e.Alts[i].Body):Int):=hr.2
  rw[bE (n:=_+r) (by omega) (by omega)]
  exact dF ⟨_,rfl,by omega,by omega⟩
 ·show gQ (λe most=>R (e,most)) most e n i=_
  unfold gQ oO
  rw[pf h]
  rfl
 ·obtain⟨i,hi,⟨g1,g2⟩,h⟩:=hr
  have e2:=bM bk e.Alts i
  exact⟨g1,by omega⟩
theorem Jx:uN=some true:=by kernel_rfl
theorem dM(v:aa):cW (ac v)=1+(1+(v.Name.length+1+(bp (v.Kids.map ac)+1+(bp (v.Params.map cS)+1+(bp (v.Body.map ak)+1+(bp (v.Binds.map aL)+1+0)))))):=by
 rw[bm];simp only[cW,pm,sl]
theorem Dx(b:aA):cW (aL b)=b.Name.length+1+cW (ac b.Value):=by
 obtain⟨n,v⟩:=b
 rw[aL]
 show cW (PVal.str n::ac v)=_
 simp only[cW,pm];rfl
theorem Ge(v:aa):1<=cW (ac v):=by rw[dM];omega
theorem Oc(b:aA):1<=cW (aL b):=by rw[Dx];omega
theorem iQ{v x:aa}(h:x∈v.Kids):cW (ac x)<cW (ac v):=by have:=rE ac h;rw[dM v];omega
theorem yI{v:aa}{x:aA}(h:x∈v.Binds):cW (ac x.Value)<cW (ac v):=by have:=rE aL h;have:=Dx x;rw[dM v];omega
theorem IZ{v:aa}{x:aj}(h:x∈v.Body):cW (ak x)<cW (ac v):=by have:=rE ak h;rw[dM v];omega
theorem iZ(v:aa):v.Kids.length<cW (ac v):=by have:=fT ac Ge v.Kids;rw[dM v];omega
theorem xK(v:aa):v.Binds.length<cW (ac v):=by have:=fT aL Oc v.Binds;rw[dM v];omega
theorem Gq(v:aa):v.Body.length<cW (ac v):=by have:=fT ak IX v.Body;rw[dM v];omega
theorem uJ(v:aa):v.Params.length<cW (ac v):=by have:=FJ v.Params;rw[dM v];omega
theorem HQ{α:Type}(l:List α)(hl:l.length<9223372036854775808){body:Int×Int->Option ((Int×Int)⊕Int)}(I:Nat->Int->Prop)
  (hin:∀(i:Nat) (h:i<l.length) n,I i n->tot (body (n,(i:Int))) (λr=>∃n',r=.inl (n',cc ((i:Int)+1))/\I (i+1) n'))
  (hout:∀n,body (n,(l.length:Int))=some (.inr n)) (n:Int) (h0:I 0 n):tot (loop body (n,0)) (I l.length):=by
 have key:∀k i n,k+i=l.length->I i n->tot (loop body (n,(i:Int))) (I l.length):=by
  intro k
  induction k with
  |zero=>
   intro i n hi hI
   obtain rfl:i=l.length:=by omega
   rw[mW,hout n]
   exact dF hI
  |succ k ih=>
   intro i n hi hI
   obtain⟨r,e,n',rfl,hI'⟩:=hin i (by omega) n hI
   rw[mW,e]
   simp only
   rw[bE (by omega) (by omega),show((i:Int)+1)=((i+1:Nat):Int) by omega]
   exact ih (i+1) n' (by omega) hI'
 exact key l.length 0 n (by omega) h0
theorem RZ(v:aa)(most:Int)(he:cW (ac v)<=oB)(h1: -4000000<=most)(h2:most<=1000000000):tot (Ci v most) (λr=>0<=r/\r<=(cW (ac v):Int)):=by
 refine yV (F:=wP) (λx=>cW (ac x.1)) (λx=>cW (ac x.1)<=oB/\-4000000<=x.2/\x.2<=1000000000) (λx r=>0<=r/\r<=(cW (ac x.1):Int)) (λR x hx ih=>?_) (v,most) ⟨he,h1,h2⟩ (gB (vaw he (by decide)))
 obtain⟨v,most⟩:=x
 obtain⟨he,h1,h2⟩:=hx
 have he:cW (ac v)<=oB:=he
 have h1: -4000000<=most:=h1
 have h2:most<=1000000000:=h2
 have hpm:=dM v
 have l1:=Gq v
 have l2:=iZ v
 have l3:=xK v
 have l4:=uJ v
 have l5:=FJ v.Params
 show tot (qU (λv most=>R (v,most)) v most) (λr=>0<=r/\r<=(cW (ac v):Int))
 unfold qU
 unfold oB at he
 have hq:=vbx v.Name.length 50
 rw[show(50:Int)=((50:Nat):Int)from rfl,uo _ 50 (by omega) (by omega)]
 simp only[vab]
 rw[bE (n:=1+_) (by omega) (by omega),bE (n:=1+_+_) (by omega) (by omega)]
 generalize hb:(1:Int)+((v.Name.length / 50:Nat):Int)+(v.Params.length:Int)=b0
 have b1:0<=b0:=by omega
 have b2:b0<=((1+v.Name.length+bp (v.Params.map cS):Nat):Int):=by omega
 refine dm (R:=λr=>0<=r/\r<=b0+(bp (v.Body.map ak):Int)) ?_ (λr1 hr1=>?_)
 ·unfold Az
  refine(HQ v.Body (by omega) (λi n=>0<=n/\n<=b0+(bp ((v.Body.take i).map ak):Int)) (λi hi n hI=>?_) (λn=>?_) b0 ⟨b1,by simp[bp]⟩).mono (λr hr=>?_)
  ·obtain⟨g1,g2⟩:=hI
   have e1:=iP ak v.Body i hi
   have e2:=bM ak v.Body (i+1)
   have hk:=IZ (vah hi)
   show tot (gS most v n i) _
   unfold gS
   rw[vaA (by simpa using hi),aQ v.Body i hi]
   simp only[vab]
   refine dm (RY v.Body[i] most (by unfold oB;omega) h1 h2) (λr hr=>?_)
   obtain⟨q1,q2⟩:=hr
   rw[bE (n:=n+r) (by omega) (by omega)]
   exact dF ⟨_,rfl,by omega,by omega⟩
  ·show gS most v n (v.Body.length:Int)=_
   unfold gS
   rw[vaz (by simp)]
  ·rw[vba]at hr
   exact hr
 obtain⟨c1,c2⟩:=hr1
 refine dm (R:=λr=>0<=r/\r<=r1+(bp (v.Kids.map ac):Int)) ?_ (λr2 hr2=>?_)
 ·unfold AA
  refine(pI v.Kids (by omega) most (λi n=>0<=n/\n<=r1+(bp ((v.Kids.take i).map ac):Int)) (λi hi n hI hm=>?_) (λi n _ h=>?_) r1 ⟨c1,by simp[bp]⟩).mono (λr hr=>?_)
  ·obtain⟨g1,g2⟩:=hI
   have e1:=iP ac v.Kids i hi
   have e2:=bM ac v.Kids (i+1)
   have hk:=iQ (vah hi)
   show tot (gT (λv most=>R (v,most)) most v n i) _
   unfold gT oU
   rw[tS hi hm,aQ v.Kids i hi]
   simp only[vab,if_true]
   rw[bE (n:=most - n) (by omega) (by omega)]
   refine dm (ih (v.Kids[i],most - n) hk ⟨by show cW (ac v.Kids[i])<=oB;unfold oB;omega,by show -4000000<=most - n;omega,by show most - n<=1000000000;omega⟩) (λr hr=>?_)
   have q1:0<=r:=hr.1
   have q2:r<=(cW (ac v.Kids[i]):Int):=hr.2
   rw[bE (n:=n+r) (by omega) (by omega)]
   exact dF ⟨_,rfl,by omega,by omega⟩
  ·show gT (λv most=>R (v,most)) most v n i=_
   unfold gT oU
   rw[pf h]
   rfl
  ·obtain⟨i,hi,⟨g1,g2⟩,h⟩:=hr
   have e2:=bM ac v.Kids i
   exact⟨g1,by omega⟩
 obtain⟨d1,d2⟩:=hr2
 refine dm (R:=λr=>0<=r/\r<=r2+(bp (v.Binds.map aL):Int)) ?_ (λr3 hr3=>dF ⟨hr3.1,by have:=hr3.2;omega⟩)
 unfold AB
 refine(pI v.Binds (by omega) most (λi n=>0<=n/\n<=r2+(bp ((v.Binds.take i).map aL):Int)) (λi hi n hI hm=>?_) (λi n _ h=>?_) r2 ⟨d1,by simp[bp]⟩).mono (λr hr=>?_)
 ·obtain⟨g1,g2⟩:=hI
  have e1:=iP aL v.Binds i hi
  have e2:=bM aL v.Binds (i+1)
  have e3:=Dx v.Binds[i]
  have hk:=yI (vah hi)
  show tot (gU (λv most=>R (v,most)) most v n i) _
  unfold gU oV
  rw[tS hi hm,aQ v.Binds i hi]
  simp only[vab,if_true]
  have hq:=vbx v.Binds[i].Name.length 50
  rw[show(50:Int)=((50:Nat):Int)from rfl,uo _ 50 (by omega) (by omega)]
  simp only[vab]
  rw[bE (n:=n+1) (by omega) (by omega),bE (n:=n+1+_) (by omega) (by omega),bE (n:=most - _) (by omega) (by omega)]
  refine dm (ih (v.Binds[i].Value,most - (n+1+((v.Binds[i].Name.length / 50:Nat):Int))) hk ⟨by show cW (ac v.Binds[i].Value)<=oB;unfold oB;omega,by show -4000000<=most - _;omega,by show most - _<=1000000000;omega⟩) (λr hr=>?_)
  have q1:0<=r:=hr.1
  have q2:r<=(cW (ac v.Binds[i].Value):Int):=hr.2
  rw[bE (n:=_+r) (by omega) (by omega)]
  exact dF ⟨_,rfl,by omega,by omega⟩
 ·show gU (λv most=>R (v,most)) most v n i=_
  unfold gU oV
  rw[pf h]
  rfl
 ·obtain⟨i,hi,⟨g1,g2⟩,h⟩:=hr
  have e2:=bM aL v.Binds i
  exact⟨g1,by omega⟩
theorem Ox(v:aa)(he:cW (ac v)<=oB):∃b,qd v=some b:=by
 obtain⟨r,h,_⟩:=RZ v 300 he (by omega) (by omega)
 exact⟨_,by unfold qd;rw[h];rfl⟩
theorem DQ{a b:bO}:a=b↔a.Name=b.Name/\a.Type_=b.Type_:=by
 obtain⟨n,t⟩:=a
 obtain⟨n',t'⟩:=b
 constructor
 ·rintro h;cases h;exact⟨rfl,rfl⟩
 ·rintro⟨h1,h2⟩;cases h1;cases h2;rfl
theorem Ji{a b:dE}:a=b↔a.Con=b.Con/\a.Names=b.Names/\a.Body=b.Body:=by
 obtain⟨n,t,e⟩:=a
 obtain⟨n',t',e'⟩:=b
 constructor
 ·rintro h;cases h;exact⟨rfl,rfl,rfl⟩
 ·rintro⟨h1,h2,h3⟩;cases h1;cases h2;cases h3;rfl
theorem kX{a b:aj}:a=b↔a.Op=b.Op/\a.Name=b.Name/\a.N=b.N/\a.Kids=b.Kids/\a.Types=b.Types/\a.Params=b.Params/\a.Alts=b.Alts:=by
 obtain⟨o,n,k,ks,ps,as1,ts⟩:=a
 obtain⟨o',n',k',ks',ps',as1',ts'⟩:=b
 constructor
 ·rintro h;cases h;exact⟨rfl,rfl,rfl,rfl,rfl,rfl,rfl⟩
 ·rintro⟨h1,h2,h3,h4,h5,h6,h7⟩;cases h1;cases h2;cases h3;cases h4;cases h5;cases h6;cases h7;rfl
abbrev BQ(e:aj):Prop:=cW (ak e)<=cV
theorem IK{e:aj}(h:BQ e):nE e<=cV:=vaw (NO e) h
theorem Hs{e x:aj}(h:BQ e)(hx:x∈e.Kids):BQ x:=vaw (vbz (Od hx)) h
theorem zV{e:aj}{a:dE}(h:BQ e)(hx:a∈e.Alts):BQ a.Body:=vaw (vbz (IW hx)) h
theorem De{e:aj}{t:ae}(h:BQ e)(hx:t∈e.Types):FV t:=NT (vaw (vbz (PT hx)) h)
theorem zW{e:aj}{p:bO}(h:BQ e)(hx:p∈e.Params):FV p.Type_:=NT (by have:=Oe hx;have:=z8 p;have:cW (ak e)<=cV:=h;omega)
theorem IJ{e:aj}{a:dE}(h:BQ e)(hx:a∈e.Alts):a.Names.length<=cV:=vaw (vbz (LI hx)) (IK h)
theorem Q4(a b:bO)(ha:FV a.Type_):lA a b=some (decide (a=b)):=by
 unfold lA
 rw[Mu _ _ ha]
 simp only[vab,M6,vas]
 rw[vbR]
 simp[DQ (a:=a) (b:=b)]
theorem Q5{R:aj->aj->Option Bool}(a b:dE)(ha:a.Names.length<=cV)(h:R a.Body b.Body=some (decide (a.Body=b.Body))):lB R a b=some (decide (a=b)):=by
 unfold lB
 rw[zY ha,h]
 simp only[vab,M6,vas]
 rw[vbR]
 simp[Ji (a:=a) (b:=b)]
theorem Kb{a b:List bO}(ha:a.length<=cV)(h:∀x∈a,FV x.Type_):er a b=some (decide (a=b)):=by
 unfold er fa
 refine iK ha _ (λi h1 h2=>?_) ?_ rfl rfl
 ·show bQ b a (a.length:Int) (i:Int)=_
  unfold bQ
  rw[vaA (by simpa using h1),aQ a i h1]
  simp only[vab]
  rw[aQ b i h2]
  simp only[vab]
  rw[Q4 _ _ (h _ (vah h1))]
  simp only[vab]
  by_cases he:a[i]=b[i]<;>simp[he]
 ·show bQ b a (a.length:Int) (a.length:Int)=_
  unfold bQ
  rw[vaz (by simp)]
theorem NY{R:aj->aj->Option Bool}{a b:List dE}(ha:a.length<=cV)(hn:∀x∈a,x.Names.length<=cV)(h:∀x∈a,∀y∈b,R x.Body y.Body=some (decide (x.Body=y.Body))):eu R a b=some (decide (a=b)):=by
 unfold eu fb
 refine iK ha _ (λi h1 h2=>?_) ?_ rfl rfl
 ·show bR R b a (a.length:Int) (i:Int)=_
  unfold bR
  rw[vaA (by simpa using h1),aQ a i h1]
  simp only[vab]
  rw[aQ b i h2]
  simp only[vab]
  rw[Q5 _ _ (hn _ (vah h1)) (h _ (vah h1) _ (vah h2))]
  simp only[vab]
  by_cases he:a[i]=b[i]<;>simp[he]
 ·show bR R b a (a.length:Int) (a.length:Int)=_
  unfold bR
  rw[vaz (by simp)]
theorem OJ(e:aj):eP e.Types<=cW (ak e):=by have:=C4 e.Types;have:=lT e;omega
theorem N0{R:List aj->List aj->Option Bool}{N:Nat}(H:∀l r:List aj,Ho l<N->(∀x∈l,BQ x)->R l r=some (decide (l=r)))(a b:aj)(ha:BQ a)(hN:nE a<=N):uy R a b=some (decide (a=b)):=by
 refine gv (F:=p8 R) (λx=>nE x.1) (λx=>BQ x.1/\nE x.1<=N) (λx=>decide (x.1=x.2)) (λS x hx ih=>?_) (a,b) ⟨ha,hN⟩ (gB (IK ha))
 obtain⟨u,v⟩:=x
 obtain⟨hu,hn⟩:BQ u/\nE u<=N:=hx
 have l0:=IK hu
 have l1:=FH u
 have l2:=Fj u
 have l3:=AT u
 have l4:=DX u
 have l5:=yy u
 show lC R (λa a2=>S (a,a2)) u v=some (decide (u=v))
 unfold lC
 rw[H u.Kids v.Kids (by omega) (λx hx=>Hs hu hx),FW u.Types v.Types (vaw (OJ u) hu) (λx hx=>De hu hx),
  Kb (by omega) (λx hx=>zW hu hx),NY (R:=λa a2=>S (a,a2)) (a:=u.Alts) (b:=v.Alts) (by omega) (λx hx=>IJ hu hx) (λx hx y _=>ih (x.Body,y.Body) (GH hx) ⟨zV hu hx,by have:=GH hx;show nE x.Body<=N;omega⟩)]
 simp only[vab,M6,vas]
 rw[vbR]
 simp[kX (a:=u) (b:=v)]
theorem Ka(a b:List aj)(ha:Ho a<=cV)(hk:∀x∈a,BQ x):ie a b=some (decide (a=b)):=by
 refine gv (F:=fZ) (λx=>Ho x.1) (λx=>Ho x.1<=cV/\∀t∈x.1,BQ t) (λx=>decide (x.1=x.2)) (λR x hx ih=>?_) (a,b) ⟨ha,hk⟩ (gB ha)
 obtain⟨u,v⟩:=x
 obtain⟨hu,hq⟩:Ho u<=cV/\∀t∈u,BQ t:=hx
 have l0:=Hp u
 show ey (λa a2=>R (a,a2)) u v=some (decide (u=v))
 unfold ey fH
 refine iK (by omega) _ (λi h1 h2=>?_) ?_ rfl rfl
 ·show ca (λa a2=>R (a,a2)) v u (u.length:Int) (i:Int)=_
  unfold ca
  rw[vaA (by simpa using h1),aQ u i h1]
  simp only[vab]
  rw[aQ v i h2]
  simp only[vab]
  have hm:=vah h1
  rw[N0 (N:=Ho u) (λl r hl hok=>ih (l,r) hl ⟨by show Ho l<=cV;omega,hok⟩) _ _ (hq _ hm) (Hq hm)]
  simp only[vab]
  by_cases he:u[i]=v[i]<;>simp[he]
 ·show ca (λa a2=>R (a,a2)) v u (u.length:Int) (u.length:Int)=_
  unfold ca
  rw[vaz (by simp)]
theorem Km{a b:List bO}(ha:a.length<=cV)(h:∀x∈a,FV x.Type_)(h':∀x∈b,FV x.Type_):jY a b=some (decide (a=b)):=by
 unfold jY j0
 refine iK ha _ (λi h1 h2=>?_) ?_ rfl rfl
 ·show dG a b (i:Int)=_
  unfold dG jZ
  rw[vaA (by simpa using h1),aQ a i h1]
  simp only[vab]
  rw[aQ b i h2]
  simp only[vab]
  rw[Gj _ _ (h _ (vah h1)) (h' _ (vah h2))]
  simp only[vab,Tk]
  have he:=DQ (a:=a[i]) (b:=b[i])
  by_cases e1:a[i].Name=b[i].Name<;>by_cases e2:a[i].Type_=b[i].Type_<;>simp[he,e1,e2]
 ·show dG a b (a.length:Int)=_
  unfold dG
  rw[vaz (by simp)]
theorem Ol(a b:aj)(ha:BQ a)(hb:BQ b):Cb a b=some (decide (a=b)):=by
 refine gv (F:=wO) (λx=>nE x.1) (λx=>BQ x.1/\BQ x.2) (λx=>decide (x.1=x.2)) (λR x hx ih=>?_) (a,b) ⟨ha,hb⟩ (gB (IK ha))
 obtain⟨u,v⟩:=x
 obtain⟨hu,hv⟩:BQ u/\BQ v:=hx
 have l0:=IK hu
 have l1:=FH u
 have l2:=Fj u
 have l3:=AT u
 have l4:=DX u
 show qT (λa a2=>R (a,a2)) u v=some (decide (u=v))
 unfold qT th ti
 rw[Km (by omega) (λx hx=>zW hu hx) (λx hx=>zW hv hx),Gi (R:=iI) (a:=u.Types) (b:=v.Types) (by omega) (λx hx y hy=>Gj x y (De hu hx) (De hv hy))]
 simp only[vab,Tk]
 by_cases h0:(u.Op !=v.Op||(!(u.Name==v.Name)||(u.N !=v.N||(!decide (u.Params=v.Params)||!decide (u.Types=v.Types)))))=true
 ·rw[vaA h0]
  congr 1;symm
  rw[va8,kX]
  rintro⟨e1,e2,e3,e4,e5,e6,e7⟩
  simp[e1,e2,e3,e5,e6]at h0
 ·rw [vaz h0]
  simp only[vaZ,vcX,vaX,bne_iff_ne,ne_eq,Decidable.not_not,vcO,vaY,vam]at h0
  obtain⟨e1,e2,e3,e6,e5⟩:=h0
  by_cases hk:u.Kids.length=v.Kids.length
  ·by_cases hal:u.Alts.length=v.Alts.length
   ·rw [vaz (by simp [hk,hal])]
    unfold tk
    rw[nV hk (by unfold cV at l0;omega) (λzz=>fA (λa a2=>R (a,a2)) u v zz) (.inl ()) (.inr ()) (λi h1 h2=>?_) ?_]
    ·by_cases e4:u.Kids=v.Kids
     ·simp only[e4,decide_true,if_true,vab]
      unfold tp
      rw[nV hal (by unfold cV at l0;omega) (λzz=>fB (λa a2=>R (a,a2)) u v zz) (.inl ()) (.inr ()) (λi h1 h2=>?_) ?_]
      ·by_cases e7:u.Alts=v.Alts
       ·simp[e7,kX (a:=u) (b:=v),e1,e2,e3,e4,e5,e6]
       ·simp[e7,kX (a:=u) (b:=v)]
      ·show fB (λa a2=>R (a,a2)) u v (u.Alts.length:Int)=_
       unfold fB
       rw[vaz (by simp)]
      ·show fB (λa a2=>R (a,a2)) u v (i:Int)=_
       unfold fB
       rw[vaA (by simpa using h1),aQ _ i h1]
       simp only[vab]
       rw[aQ _ i h2]
       simp only[vab,Fv]
       unfold tj
       rw[Ab (IJ hu (vah h1))]
       have hih:=ih (u.Alts[i].Body,v.Alts[i].Body) (GH (vah h1)) ⟨zV hu (vah h1),zV hv (vah h2)⟩
       simp only[Fv,vab,hih,Tk]
       have he:=Ji (a:=u.Alts[i]) (b:=v.Alts[i])
       by_cases f1:u.Alts[i].Con=v.Alts[i].Con<;>by_cases f2:u.Alts[i].Names=v.Alts[i].Names<;>by_cases f3:u.Alts[i].Body=v.Alts[i].Body<;>simp[he,f1,f2,f3]
     ·simp[e4,kX (a:=u) (b:=v)]
    ·show fA (λa a2=>R (a,a2)) u v (u.Kids.length:Int)=_
     unfold fA
     rw[vaz (by simp)]
    ·show fA (λa a2=>R (a,a2)) u v (i:Int)=_
     unfold fA
     rw[vaA (by simpa using h1),aQ _ i h1]
     simp only[vab]
     rw[aQ _ i h2]
     simp only[vab]
     rw[ih (u.Kids[i],v.Kids[i]) (PD (vah h1)) ⟨Hs hu (vah h1),Hs hv (vah h2)⟩]
     simp only[vab]
     by_cases he:u.Kids[i]=v.Kids[i]<;>simp[he]
   ·have hx:((u.Alts.length:Int)!=(v.Alts.length:Int))=true:=by simp;omega
    rw[vaA (by simp[hx])]
    congr 1;symm
    rw[va8,kX]
    rintro⟨_,_,_,_,_,_,e7⟩
    exact hal (by rw[e7])
  ·have hx:((u.Kids.length:Int)!=(v.Kids.length:Int))=true:=by simp;omega
   rw[vaA (by simp[hx])]
   congr 1;symm
   rw[va8,kX]
   rintro⟨_,_,_,e4,_⟩
   exact hk (by rw[e4])
theorem zy:∀(x:ai),Op.bytesLess x x=false
 |[]=>rfl
 |a::x=>by
  unfold Op.bytesLess
  rw[zy x]
  simp[UInt8.lt_irrefl]
end Go.Proofs.YtjddnhkahpfhdaaGreatDoor
