/- PROVED: a part of the proof. Conditions: none. -/
import Derived.Test.YtbaamopmfmpfaaaGreatDoorPkB16
noncomputable section
namespace Go.Proofs.YtbaamopmfmpfaaaGreatDoor
open Go Go.Proofs.Tryz
set_option linter.unusedVariables false
set_option maxRecDepth 100000
noncomputable def qkm:Code:=f55.body.getD .skip
def qj0:List Nat:=[7,18]
section
variable(used:waA)(base:af)(s:af)(n:Int)
def mi:aC:=be 19 [(0,sl cS used),(1,.str base),(5,.str s),(6,.int .i64 n)] [] []
def wO(o:af):aC:=be 19 [(5,.str o)] [] []
def dq:Option ((af×Int)⊕(af)):=
 (gM used s).bind fun r1=>
 if(decide (r1>=0))=true then
  (Jc n).bind fun r3=>
  (qg3 base r3).bind fun s4=>
  some (.inl (s4,aS (n+1)))
 else
  some (.inr s)
def kh:Option af:=loop (fun(zz:af×Int)=>dq used base zz.1 zz.2) (s,n)
theorem K9{y:(af×Int)⊕(af)}(h:dq used base s n=some y):aV Pg GE 0 (cA qkm 119) (LQ (fun(zz:af×Int)=>mi used base zz.1 zz.2) (fun _=>.exit 0) wO y) (mi used base s n):=by
 obtain⟨r1,br1,h⟩:=ay h
 rcases bj h with⟨c2,h⟩|⟨c2,h⟩
 ·obtain⟨r3,br3,h⟩:=ay h
  obtain⟨s4,bs4,h⟩:=ay h
  obtain rfl:=lf h
  exact oo qj0 (bz (kb br1)<|sg 0 c2<|bz (WA br3)<|sv (Wg (P:=Pg) (t:=9) bs4)<|eF .normal (mi used base s4 (aS (n+1))))<|by kernel_rfl
 ·obtain rfl:=lf h
  have z:=bz (kb br1)<|sg 0 c2<|eF (.exit 0) (wO s)
  exact gg qj0 (by intro hx;cases hx) z<|by kernel_rfl
theorem Na{x:af}(h:kh used base s n=some x):aV Pg GE 0 (.loop (cA qkm 119)) (EX (.exit 0) (wO x)) (mi used base s n):=
 aV.loop (S:=fun(zz:af×Int)=>mi used base zz.1 zz.2) (ex:=(fun _=>.exit 0)) (s:=(s,n)) h fun zz y hy=>K9 used base zz.1 zz.2 hy
end
def sL(used:waA)(base:af):Option af:=
 (kh used base base 1).bind fun o5=>
 some o5
theorem Bu{used:waA}{base:af}{r:af}(h:sL used base=some r):CC Pg GE 55 [sl cS used,.str base] (.str r) []:=by
 obtain⟨o5,bo5,h⟩:=ay h
 obtain rfl:=lf h
 have z:=cY (Na used base base 1 bo5)<|en (aI (rP (.str o5))<|trivial)
 exact bO qj0 call55 func55 (c:=qkm) rfl (aI (aj dN used) (aI trivial trivial)) z<|by kernel_rfl
noncomputable def qlS:Code:=f49.body.getD .skip
def qlC:List Nat:=[]
def gV(name:af):Option aa:=
 some (⟨3,name,0,([]:List aa)⟩:aa)
theorem pI{name:af}{r:aa}(h:gV name=some r):CC Pg GE 49 [.str name] (.agg (ac r)) [(3,36)]:=by
 obtain rfl:=lf h
 have z:=sx ib<|sb (ko 3 name) (kl 3 name)<|sy (aK (⟨3,name,0,([]:List aa)⟩:aa))<|en (aI (dm (⟨3,name,0,([]:List aa)⟩:aa))<|aI (ah (⟨3,name,0,([]:List aa)⟩:aa))<|rT)
 exact bO qlC call49 func49 (c:=qlS) rfl (aI trivial trivial) z<|by kernel_rfl
noncomputable def qlW:Code:=f74.body.getD .skip
def qlG:List Nat:=[]
def WC:Option aa:=
 some (⟨2,([]:af),1,([]:List aa)⟩:aa)
theorem WD{r:aa}(h:WC=some r):CC Pg GE 74 [] (.agg (ac r)) [(3,36)]:=by
 obtain rfl:=lf h
 have z:=sx ib<|sb (ry 2 1) (rv 2 1)<|sy (aK (⟨2,([]:af),1,([]:List aa)⟩:aa))<|en (aI (dm (⟨2,([]:af),1,([]:List aa)⟩:aa))<|aI (ah (⟨2,([]:af),1,([]:List aa)⟩:aa))<|rT)
 exact bO qlG call74 func74 (c:=qlW) rfl trivial z<|by kernel_rfl
abbrev rl:=(aa->waA->waB->Option aa)
abbrev wJ(R:rl):Prop:=∀(p:aa) (names:waA) (a:waB) (r:aa),R p names a=some r->CC Pg GE 94 [.agg (ac p),sl cS names,sl ac a] (.agg (ac r)) []
noncomputable def qkb:Code:=f111.body.getD .skip
def qjS:List Nat:=[]
def WG(p:aa)(kids:waB):Option aa:=
 some (⟨p.Op,p.Name,p.N,kids⟩:aa)
theorem WH{p:aa}{kids:waB}{r:aa}(h:WG p kids=some r):CC Pg GE 111 [.agg (ac p),sl ac kids] (.agg (ac r)) []:=by
 obtain rfl:=lf h
 have z:=se (bU p)<|sx ib<|sv (bE p)<|sv (bF p)<|sv (cw p)<|sv (cR p)<|sv (dG p)<|sv (dX p)<|sv (LW p.Op p.Name p.N kids)<|sx (cr (⟨p.Op,p.Name,p.N,kids⟩:aa))<|en (aI (dm (⟨p.Op,p.Name,p.N,kids⟩:aa))<|(ah (⟨p.Op,p.Name,p.N,kids⟩:aa)))
 exact bO qjS call111 func111 (c:=qkb) rfl (aI (ah p) (aI (aj ah kids) trivial)) z<|by kernel_rfl
noncomputable def qhO:Code:=f94.body.getD .skip
def qeP:List Nat:=[37]
section
variable(names:waA)(v:waB)(p:aa)(i:Int)(m:waB)
def Jj:aC:=be 48 [(1,sl cS names),(2,sl ac v),(3,.eptr (ac p)),(6,.bptr 1 0),(7,.int .i64 i)] [.dead,.cells [.int .i64 0,.str ([]:af),.int .i64 0,sl ac m] [(3,36)]] []
def qV(o:Bool):aC:=be 48 [(1,sl cS names),(2,sl ac v),(3,.eptr (ac p)),(6,.bptr 1 0),(7,.int .i64 i),(25,.bool o)] [.dead,.cells [.int .i64 0,.str ([]:af),.int .i64 0,sl ac m] [(3,36)]] []
def uU:Option Bool:=
 if(decide (i>=0))=true then
  some (decide (i<(v.length:Int)))
 else
  some false
theorem HV{x:Bool}(h:uU v i=some x):aV Pg GE 0 (cA qhO 106) (EX .normal (qV names v p i m x)) (Jj names v p i m):=by
 rcases bj h with⟨c4,h⟩|⟨c4,h⟩
 ·obtain rfl:=lf h
  exact cf qeP (sg 3 c4<|cq (bL.ln v)<|eF .normal (qV names v p i m (decide (i<(v.length:Int)))))<|by kernel_rfl
 ·obtain rfl:=lf h
  exact cf qeP (sg 3 c4<|eF .normal (qV names v p i m false))<|by kernel_rfl
end
section
variable(names:waA)(v:waB)(p:aa)(m:waB)
def Ji:aC:=be 48 [(1,sl cS names),(2,sl ac v),(3,.eptr (ac p)),(6,.bptr 1 0)] [.dead,.cells [.int .i64 0,.str ([]:af),.int .i64 0,sl ac m] [(3,36)]] []
def lU(o:(Int×af×Int×waB)⊕(Unit)):Exit:=match o with
 |(.inl _)=>.ret
 |(.inr _)=>.normal
def gp(o:(Int×af×Int×waB)⊕(Unit)):aC:=match o with
 |(.inl o)=>be 48 [(6,.bptr 1 0)] [.dead,.cells [.int .i64 o.1,.str o.2.1,.int .i64 o.2.2.1,sl ac o.2.2.2] []] []
 |(.inr o)=>be 48 [(1,sl cS names),(2,sl ac v),(3,.eptr (ac p)),(6,.bptr 1 0)] [.dead,.cells [.int .i64 0,.str ([]:af),.int .i64 0,sl ac m] [(3,36)]] []
def pG:Option ((Int×af×Int×waB)⊕(Unit)):=
 if(p.Op==3)=true then
  (gM names p.Name).bind fun r3=>
  (uU v r3).bind fun o5=>
  if o5=true then
   (cz v r3).bind fun x8=>
   some (.inl (x8.Op,x8.Name,x8.N,x8.Kids))
  else
   some (.inr ())
 else
  some (.inr ())
theorem wY{x:(Int×af×Int×waB)⊕(Unit)}(h:pG names v p=some x):aV Pg GE 0 (cA qhO 6) (EX (lU x) (gp names v p m x)) (Ji names v p m):=by
 have p2:=fun{sc F} (r:PS sc F)=>sv (bE p)<|sv (bF p)<|r
 rcases bj h with⟨c1,h⟩|⟨c1,h⟩
 ·obtain⟨r3,br3,h⟩:=ay h
  obtain⟨o5,bo5,h⟩:=ay h
  have p7:=fun{sc F} (r:PS sc F)=>p2<|sg 0 c1<|sv (cw p)<|sv (cR p)<|bz (kb br3)<|ka 0<|cY (HV names v p r3 m bo5)<|r
  rcases bj h with⟨c6,h⟩|⟨c6,h⟩
  ·obtain⟨x8,bx8,h⟩:=ay h
   obtain rfl:=lf h
   exact cf qeP (p7<|sg 0 c6<|sv (bL.ia (k:=.i64) bx8)<|sv (bh x8)<|sx (cr x8)<|eF (lU (.inl (x8.Op,x8.Name,x8.N,x8.Kids))) (gp names v p m (.inl (x8.Op,x8.Name,x8.N,x8.Kids))))<|by kernel_rfl
  ·obtain rfl:=lf h
   exact cf qeP (p7<|sg 0 c6<|eF (lU (.inr ())) (gp names v p m (.inr ())))<|by kernel_rfl
 ·obtain rfl:=lf h
  exact cf qeP (p2<|sg 0 c1<|eF (lU (.inr ())) (gp names v p m (.inr ())))<|by kernel_rfl
end
section
variable(R104:rl)(names:waA)(v:waB)(p:aa)(t31:waB)(t32:Int)(m:waB)(out:waB)(t33:Int)
def iV:aC:=be 48 [(1,sl cS names),(2,sl ac v),(3,.eptr (ac p)),(6,.bptr 1 0),(8,sl ac out),(31,sl ac t31),(32,.int .i64 t32),(33,.int .i64 t33)] [.dead,.cells [.int .i64 0,.str ([]:af),.int .i64 0,sl ac m] [(3,36)]] [((8,0),36)]
def qW(o:waB):aC:=be 48 [(3,.eptr (ac p)),(6,.bptr 1 0),(8,sl ac o)] [.dead,.cells [.int .i64 0,.str ([]:af),.int .i64 0,sl ac m] [(3,36)]] [((8,0),36)]
def yK:Option ((waB×Int)⊕(waB)):=
 if(decide (t33<t32))=true then
  (cz t31 t33).bind fun x11=>
  (R104 x11 names v).bind fun r12=>
  (app out ([r12]:List aa)).bind fun l13=>
  some (.inl (l13,aS (t33+1)))
 else
  some (.inr out)
def uV:Option waB:=loop (fun(zz:waB×Int)=>yK R104 names v t31 t32 zz.1 zz.2) (out,t33)
theorem GM(hR104:wJ R104){y:(waB×Int)⊕(waB)}(h:yK R104 names v t31 t32 out t33=some y):aV Pg GE 0 (cA qhO 247) (LQ (fun(zz:waB×Int)=>iV names v p t31 t32 m zz.1 zz.2) (fun _=>.exit 0) (qW p m) y) (iV names v p t31 t32 m out t33):=by
 rcases bj h with⟨c10,h⟩|⟨c10,h⟩
 ·obtain⟨x11,bx11,h⟩:=ay h
  obtain⟨r12,br12,h⟩:=ay h
  obtain⟨l13,bl13,h⟩:=ay h
  obtain rfl:=lf h
  have z:=sg 0 c10<|sv (bL.ia (k:=.i64) bx11)<|sv (bh x11)<|sx ib<|sx (cr x11)<|sv (bX x11 [])<|bz (hR104 _ _ _ _ br12)<|sv (bL.mk' (v:=dZ) cP ([r12]:List aa) 1 (by kernel_rfl))<|sv (bL.ap bl13)<|uP 0 .normal (iV names v p t31 t32 m l13 (aS (t33+1))) rfl (dF (aI (up (aj dN names)) (aI (up (aj ah v)) (aI (im (ah p)) (aI (cZ rfl) (aI (up (aj ah l13)) (aI (up (aj ah t31)) (aI trivial (aI trivial trivial))))))))) (aI trivial (aI (aI trivial (aI trivial (aI trivial (aI (up (aj ah m)) trivial)))) trivial))
  exact dh (A:=qeP) mixed z<|by kernel_rfl
 ·obtain rfl:=lf h
  have z:=sg 0 c10<|eF (.exit 0) (qW p m out)
  exact gg qeP (by intro hx;cases hx) z<|by kernel_rfl
theorem HW(hR104:wJ R104){x:waB}(h:uV R104 names v t31 t32 out t33=some x):aV Pg GE 0 (.loop (cA qhO 247)) (EX (.exit 0) (qW p m x)) (iV names v p t31 t32 m out t33):=
 aV.loop (S:=fun(zz:waB×Int)=>iV names v p t31 t32 m zz.1 zz.2) (ex:=(fun _=>.exit 0)) (s:=(out,t33)) h fun zz y hy=>GM R104 names v p t31 t32 m zz.1 zz.2 hR104 hy
end
def qU(R104:rl)(p:aa)(names:waA)(a:waB):Option aa:=
 (pG names a p).bind fun o9=>match o9 with
 |(.inl o9)=>
  some (⟨o9.1,o9.2.1,o9.2.2.1,o9.2.2.2⟩:aa)
 |(.inr o9)=>
  (uV R104 names a p.Kids (p.Kids.length:Int) ([]:List aa) 0).bind fun o14=>
  (WG p o14).bind fun r15=>
  some r15
theorem Lj(R104:rl)(hR104:wJ R104){p:aa}{names:waA}{a:waB}{r:aa}(h:qU R104 p names a=some r):CC Pg GE 94 [.agg (ac p),sl cS names,sl ac a] (.agg (ac r)) []:=by
 obtain⟨o9,bo9,h⟩:=ay h
 rcases o9 with o9|o9
 ·obtain rfl:=lf h
  have z:=se (bU p)<|sx ib<|ka 0<|cY (e:=.ret) (s1:=gp names a p ([]:List aa) (.inl o9)) (wY names a p ([]:List aa) bo9)<|en (aI (dm (⟨o9.1,o9.2.1,o9.2.2.1,o9.2.2.2⟩:aa))<|(ah (⟨o9.1,o9.2.1,o9.2.2.1,o9.2.2.2⟩:aa)))
  exact bO qeP call94 func94 (c:=qhO) rfl (aI (ah p) (aI (aj dN names) (aI (aj ah a) trivial))) z<|by kernel_rfl
 ·obtain⟨o14,bo14,h⟩:=ay h
  obtain⟨r15,br15,h⟩:=ay h
  obtain rfl:=lf h
  have z:=se (bU p)<|sx ib<|ka 0<|cY (e:=.normal) (s1:=gp names a p ([]:List aa) (.inr o9)) (wY names a p ([]:List aa) bo9)<|sv (bC p)<|sv (bD p)<|cq (bL.ln p.Kids)<|cY (HW R104 names a p p.Kids (p.Kids.length:Int) ([]:List aa) ([]:List aa) 0 hR104 bo14)<|sv (bh p)<|bz (WH br15)<|sx (cr r15)<|en (aI (dm r15)<|(ah r15))
  exact bO qeP call94 func94 (c:=qhO) rfl (aI (ah p) (aI (aj dN names) (aI (aj ah a) trivial))) z<|by kernel_rfl
def wX:((aa×waA×waB)->Option aa)->(aa×waA×waB)->Option aa:=fun(rec:(aa×waA×waB)->Option aa) (x:aa×waA×waB)=>qU (fun p names a=>rec (p,names,a)) x.1 x.2.1 x.2.2
def nq(p:aa)(names:waA)(a:waB):Option aa:=kK wX (p,names,a)
theorem uW{p:aa}{names:waA}{a:waB}{r:aa}(h:nq p names a=some r):CC Pg GE 94 [.agg (ac p),sl cS names,sl ac a] (.agg (ac r)) []:=
 cG (F:=wX) (M:=fun(x:aa×waA×waB) (r:aa)=>CC Pg GE 94 [.agg (ac x.1),sl cS x.2.1,sl ac x.2.2] (.agg (ac r)) []) (fun rec hrec x r h=>Lj _ (fun p names a r h=>hrec (p,names,a) r h) h) h
noncomputable def qlX:Code:=f75.body.getD .skip
def qlH:List Nat:=[]
def Ay(p:aa)(name:af)(a:aa):Option aa:=
 (nq p ([name]:List af) ([a]:List aa)).bind fun r1=>
 some r1
theorem Jk{p:aa}{name:af}{a:aa}{r:aa}(h:Ay p name a=some r):CC Pg GE 75 [.agg (ac p),.str name,.agg (ac a)] (.agg (ac r)) []:=by
 obtain⟨r1,br1,h⟩:=ay h
 obtain rfl:=lf h
 have z:=se (bU p)<|se (bU a)<|sx ib<|sv (bh p)<|sv (bq.mk' (v:=PVal.str) Fs ([name]:List af) 1 (by kernel_rfl))<|sv (bh a)<|sv (bL.mk' (v:=dZ) cP ([a]:List aa) 1 (by kernel_rfl))<|bz (uW br1)<|sx (cr r1)<|en (aI (dm r1)<|(ah r1))
 exact bO qlH call75 func75 (c:=qlX) rfl (aI (ah p) (aI trivial (aI (ah a) trivial))) z<|by kernel_rfl
noncomputable def qkl:Code:=f48.body.getD .skip
def qjm:List Nat:=[]
section
variable(t:ae)(v:aa)(m:waB)
def WN:aC:=be 18 [(2,.eptr (ag t)),(3,.eptr (ac v)),(4,.bptr 2 0)] [.dead,.dead,.cells [.int .i64 0,.str ([]:af),.int .i64 0,sl ac m] [(3,36)]] []
def EE(o:Bool):aC:=be 18 [(2,.eptr (ag t)),(3,.eptr (ac v)),(4,.bptr 2 0),(12,.bool o)] [.dead,.dead,.cells [.int .i64 0,.str ([]:af),.int .i64 0,sl ac m] [(3,36)]] []
def LI:Option Bool:=
 if(t.Op==6)=true then
  some true
 else
  (AF t.Pred).bind fun r3=>
  some r3
theorem UT{x:Bool}(h:LI t=some x):aV Pg GE 0 (cA qkl 12) (EX .normal (EE t v m x)) (WN t v m):=by
 have p2:=fun{sc F} (r:PS sc F)=>sv (aD t)<|sv (aE t)<|r
 rcases bj h with⟨c1,h⟩|⟨c1,h⟩
 ·obtain rfl:=lf h
  exact cf qjm (p2<|sg 4 c1<|eF .normal (EE t v m true))<|by kernel_rfl
 ·obtain⟨r3,br3,h⟩:=ay h
  obtain rfl:=lf h
  exact cf qjm (p2<|sg 4 c1<|sv (dH t)<|sv (dI t)<|bz (EU br3)<|eF .normal (EE t v m r3))<|by kernel_rfl
end
def PF(t:ae)(a:aa):Option aa:=
 (LI t).bind fun o4=>
 if o4=true then
  WC.bind fun r7=>
  some r7
 else
  (Ay t.Pred ([118]:af) a).bind fun r8=>
  some r8
theorem Td{t:ae}{a:aa}{r:aa}(h:PF t a=some r):CC Pg GE 48 [.agg (ag t),.agg (ac a)] (.agg (ac r)) []:=by
 obtain⟨o4,bo4,h⟩:=ay h
 have p6:=fun{sc F} (r:PS sc F)=>se (bw t)<|se (bU a)<|sx ib<|ka 1<|cY (UT t a ([]:List aa) bo4)<|r
 rcases bj h with⟨c5,h⟩|⟨c5,h⟩
 ·obtain⟨r7,br7,h⟩:=ay h
  obtain rfl:=lf h
  have z:=p6<|sg 0 c5<|bz (WD br7)<|sy (aK r7)<|en (aI (dm r7)<|(ah r7))
  exact bO qjm call48 func48 (c:=qkl) rfl (aI (ak t) (aI (ah a) trivial)) z<|by kernel_rfl
 ·obtain⟨r8,br8,h⟩:=ay h
  obtain rfl:=lf h
  have z:=p6<|sg 0 c5<|sv (dH t)<|sv (dI t)<|sv (bh a)<|bz (Jk br8)<|sx (cr r8)<|en (aI (dm r8)<|(ah r8))
  exact bO qjm call48 func48 (c:=qkl) rfl (aI (ak t) (aI (ah a) trivial)) z<|by kernel_rfl
abbrev yY:=(ae->Option ae)
abbrev DN(R:yY):Prop:=∀(t:ae) (r:ae),R t=some r->CC Pg GE 72 [.agg (ag t)] (.agg (ag r)) [(2,38),(3,9),(7,36),(8,36)]
noncomputable def qkr:Code:=f72.body.getD .skip
def qj4:List Nat:=[19]
section
variable(R108:yY)(t12:waC)(t13:Int)(m:waC)(m2:waB)(m3:Int)(m4:af)(t14:Int)(m5:waC)
def mt:aC:=be 27 [(2,.bptr 1 0),(3,.bptr 2 0),(12,sl ag t12),(13,.int .i64 t13),(14,.int .i64 t14)] [.dead,.cells [.int .i64 0,.str ([]:af),sl ag m,sl cS ([]:List af),.int .i64 0,.str ([]:af),.int .i64 0,sl ac m2,sl ac m2] [(2,38),(3,9),(7,36),(8,36)],.cells [.int .i64 m3,.str m4,sl ag m5,sl cS ([]:List af),.int .i64 0,.str ([]:af),.int .i64 0,sl ac m2,sl ac m2] [(2,38),(3,9),(7,36),(8,36)]] []
def w9(o:waC):aC:=be 27 [(2,.bptr 1 0),(3,.bptr 2 0)] [.dead,.cells [.int .i64 0,.str ([]:af),sl ag m,sl cS ([]:List af),.int .i64 0,.str ([]:af),.int .i64 0,sl ac m2,sl ac m2] [(2,38),(3,9),(7,36),(8,36)],.cells [.int .i64 m3,.str m4,sl ag o,sl cS ([]:List af),.int .i64 0,.str ([]:af),.int .i64 0,sl ac m2,sl ac m2] [(2,38),(3,9),(7,36),(8,36)]] []
def Eg:Option ((Int×waC)⊕(waC)):=
 if(decide (t14<t13))=true then
  (cz t12 t14).bind fun x2=>
  (R108 x2).bind fun r3=>
  (app m5 ([r3]:List ae)).bind fun l4=>
  some (.inl (aS (t14+1),l4))
 else
  some (.inr m5)
def BM:Option waC:=loop (fun(zz:Int×waC)=>Eg R108 t12 t13 zz.1 zz.2) (t14,m5)
theorem Ln(hR108:DN R108){y:(Int×waC)⊕(waC)}(h:Eg R108 t12 t13 t14 m5=some y):aV Pg GE 0 (cA qkr 119) (LQ (fun(zz:Int×waC)=>mt t12 t13 m m2 m3 m4 zz.1 zz.2) (fun _=>.exit 0) (w9 m m2 m3 m4) y) (mt t12 t13 m m2 m3 m4 t14 m5):=by
 rcases bj h with⟨c1,h⟩|⟨c1,h⟩
 ·obtain⟨x2,bx2,h⟩:=ay h
  obtain⟨r3,br3,h⟩:=ay h
  obtain⟨l4,bl4,h⟩:=ay h
  obtain rfl:=lf h
  have z:=sg 0 c1<|sv (ct.ia (k:=.i64) bx2)<|sv (aN x2)<|sx tu<|sx (ez x2)<|lK [0,1,0,4,12,31,63,127]<|sv (cX x2 [])<|bz (hR108 _ _ br3)<|sv (ct.mk' (v:=jG) eO ([r3]:List ae) 1 (by kernel_rfl))<|sv (ct.ap bl4)<|We (rfl:bK (sl ag l4)=some [sl ag l4])<|uP 0 .normal (mt t12 t13 m m2 m3 m4 (aS (t14+1)) l4) rfl (dF (aI (cZ rfl) (aI (cZ rfl) (aI (up (aj ak t12)) (aI trivial (aI trivial trivial)))))) (aI trivial (aI (aI trivial (aI trivial (aI (up (aj ak m)) (aI (up (aj dN ([]:List af))) (aI trivial (aI trivial (aI trivial (aI (up (aj ah m2)) (aI (up (aj ah m2)) trivial))))))))) (aI (aI trivial (aI trivial (aI (up (aj ak l4)) (aI (up (aj dN ([]:List af))) (aI trivial (aI trivial (aI trivial (aI (up (aj ah m2)) (aI (up (aj ah m2)) trivial))))))))) trivial)))
  exact dh (A:=qj4) mixed z<|by kernel_rfl
 ·obtain rfl:=lf h
  have z:=sg 0 c1<|eF (.exit 0) (w9 m m2 m3 m4 m5)
  exact gg qj4 (by intro hx;cases hx) z<|by kernel_rfl
theorem Np(hR108:DN R108){x:waC}(h:BM R108 t12 t13 t14 m5=some x):aV Pg GE 0 (.loop (cA qkr 119)) (EX (.exit 0) (w9 m m2 m3 m4 x)) (mt t12 t13 m m2 m3 m4 t14 m5):=
 aV.loop (S:=fun(zz:Int×waC)=>mt t12 t13 m m2 m3 m4 zz.1 zz.2) (ex:=(fun _=>.exit 0)) (s:=(t14,m5)) h fun zz y hy=>Ln R108 t12 t13 m m2 m3 m4 zz.1 zz.2 hR108 hy
end
def yQ(R108:yY)(t:ae):Option ae:=
 (BM R108 t.Args (t.Args.length:Int) 0 ([]:List ae)).bind fun o5=>
 some (⟨t.Op,t.Name,o5,([]:List af),(⟨0,([]:af),0,([]:List aa)⟩:aa),([]:List aa)⟩:ae)
theorem R0(R108:yY)(hR108:DN R108){t:ae}{r:ae}(h:yQ R108 t=some r):CC Pg GE 72 [.agg (ag t)] (.agg (ag r)) [(2,38),(3,9),(7,36),(8,36)]:=by
 obtain⟨o5,bo5,h⟩:=ay h
 obtain rfl:=lf h
 have z:=se (bw t)<|sx tu<|sv (aD t)<|sv (aE t)<|sv (cx t)<|sv (cT t)<|sb (J5 t.Op t.Name) (J2 t.Op t.Name)<|sx tu<|sy (bu (⟨t.Op,t.Name,([]:List ae),([]:List af),(⟨0,([]:af),0,([]:List aa)⟩:aa),([]:List aa)⟩:ae))<|sv (aL t)<|sv (aM t)<|cq (ct.ln t.Args)<|cY (Np R108 t.Args (t.Args.length:Int) ([]:List ae) ([]:List aa) t.Op t.Name 0 ([]:List ae) hR108 bo5)<|sz (cX (⟨t.Op,t.Name,o5,([]:List af),(⟨0,([]:af),0,([]:List aa)⟩:aa),([]:List aa)⟩:ae) [])<|sy (bu (⟨t.Op,t.Name,o5,([]:List af),(⟨0,([]:af),0,([]:List aa)⟩:aa),([]:List aa)⟩:ae))<|en (aI (ic (⟨t.Op,t.Name,o5,([]:List af),(⟨0,([]:af),0,([]:List aa)⟩:aa),([]:List aa)⟩:ae))<|aI (ak (⟨t.Op,t.Name,o5,([]:List af),(⟨0,([]:af),0,([]:List aa)⟩:aa),([]:List aa)⟩:ae))<|rT)
 exact bO qj4 call72 func72 (c:=qkr) rfl (aI (ak t) trivial) z<|by kernel_rfl
def Ef:(ae->Option ae)->(ae)->Option ae:=fun(rec:ae->Option ae) (x:ae)=>yQ (fun t=>rec t) x
def Lm(t:ae):Option ae:=kK Ef t
theorem UL{t:ae}{r:ae}(h:Lm t=some r):CC Pg GE 72 [.agg (ag t)] (.agg (ag r)) [(2,38),(3,9),(7,36),(8,36)]:=
 cG (F:=Ef) (M:=fun(x:ae) (r:ae)=>CC Pg GE 72 [.agg (ag x)] (.agg (ag r)) [(2,38),(3,9),(7,36),(8,36)]) (fun rec hrec x r h=>R0 _ (fun t r h=>hrec t r h) h) h
noncomputable def qhL:Code:=f71.body.getD .skip
def qhC:List Nat:=[]
def YB(t:ae):Option (af×Bool):=
 if(t.Op==1)=true then
  some (([73,110,116]:af),true)
 else
  if(t.Op==2)=true then
   some (([66,111,111,108]:af),true)
  else
   if(t.Op==3)=true then
    some (([67,101,108,108]:af),true)
   else
    if(t.Op==4)=true then
     if((t.Args.length:Int)==0)=true then
      some (t.Name,true)
     else
      some (([]:af),false)
    else
     some (([]:af),false)
theorem qaW{t:ae}{r:af×Bool}(h:YB t=some r):CC Pg GE 71 [.agg (ag t)] (.tuple [.str r.1,.bool r.2]) []:=by
 have p2:=fun{sc F} (r:PS sc F)=>se (bw t)<|sv (aD t)<|sv (aE t)<|r
 rcases bj h with⟨c1,h⟩|⟨c1,h⟩
 ·obtain rfl:=lf h
  have z:=p2<|sg 0 c1<|en (aI (rP (.tuple [.str ([73,110,116]:af),.bool true]))<|(aI trivial (aI trivial trivial)))
  exact bO qhC call71 func71 (c:=qhL) rfl (aI (ak t) trivial) z<|by kernel_rfl
 ·have p4:=fun{sc F} (r:PS sc F)=>p2<|sg 0 c1<|r
  rcases bj h with⟨c3,h⟩|⟨c3,h⟩
  ·obtain rfl:=lf h
   have z:=p4<|sg 0 c3<|en (aI (rP (.tuple [.str ([66,111,111,108]:af),.bool true]))<|(aI trivial (aI trivial trivial)))
   exact bO qhC call71 func71 (c:=qhL) rfl (aI (ak t) trivial) z<|by kernel_rfl
  ·have p6:=fun{sc F} (r:PS sc F)=>p4<|sg 0 c3<|r
   rcases bj h with⟨c5,h⟩|⟨c5,h⟩
   ·obtain rfl:=lf h
    have z:=p6<|sg 0 c5<|en (aI (rP (.tuple [.str ([67,101,108,108]:af),.bool true]))<|(aI trivial (aI trivial trivial)))
    exact bO qhC call71 func71 (c:=qhL) rfl (aI (ak t) trivial) z<|by kernel_rfl
   ·have p8:=fun{sc F} (r:PS sc F)=>p6<|sg 0 c5<|r
    rcases bj h with⟨c7,h⟩|⟨c7,h⟩
    ·have p10:=fun{sc F} (r:PS sc F)=>p8<|sg 0 c7<|sv (aL t)<|sv (aM t)<|cq (ct.ln t.Args)<|r
     rcases bj h with⟨c9,h⟩|⟨c9,h⟩
     ·obtain rfl:=lf h
      have z:=p10<|sg 0 c9<|sv (cx t)<|sv (cT t)<|en (aI (rP (.tuple [.str t.Name,.bool true]))<|(aI trivial (aI trivial trivial)))
      exact bO qhC call71 func71 (c:=qhL) rfl (aI (ak t) trivial) z<|by kernel_rfl
     ·obtain rfl:=lf h
      have z:=p10<|sg 0 c9<|en (aI (rP (.tuple [.str ([]:af),.bool false]))<|(aI trivial (aI trivial trivial)))
      exact bO qhC call71 func71 (c:=qhL) rfl (aI (ak t) trivial) z<|by kernel_rfl
    ·obtain rfl:=lf h
     have z:=p8<|sg 0 c7<|en (aI (rP (.tuple [.str ([]:af),.bool false]))<|(aI trivial (aI trivial trivial)))
     exact bO qhC call71 func71 (c:=qhL) rfl (aI (ak t) trivial) z<|by kernel_rfl
noncomputable def qlR:Code:=f47.body.getD .skip
def qlB:List Nat:=[11]
def Ik(t:ae):Option af:=
 (Lm t).bind fun r1=>
 (YB r1).bind fun r2=>
 some r2.1
theorem Sr{t:ae}{r:af}(h:Ik t=some r):CC Pg GE 47 [.agg (ag t)] (.str r) []:=by
 obtain⟨r1,br1,h⟩:=ay h
 obtain⟨r2,br2,h⟩:=ay h
 obtain rfl:=lf h
 have z:=se (bw t)<|sv (aN t)<|bz (UL br1)<|bz (qaW br2)<|en (aI (rP (.str r2.1))<|trivial)
 exact bO qlB call47 func47 (c:=qlR) rfl (aI (ak t) trivial) z<|by kernel_rfl
noncomputable def qla:Code:=f26.body.getD .skip
def qk0:List Nat:=[]
def AG(t:ae)(name:af)(c:ai):Option ai:=
 (EV t).bind fun r1=>
 if(!r1)=true then
  some c
 else
  (Ik t).bind fun r4=>
  (gV name).bind fun r5=>
  (PF t r5).bind fun r6=>
  some (⟨2,name,r4,r6,0,([c]:List ai)⟩:ai)
theorem EY{t:ae}{name:af}{c:ai}{r:ai}(h:AG t name c=some r):CC Pg GE 26 [.agg (ag t),.str name,.agg (au c)] (.agg (au r)) []:=by
 obtain⟨r1,br1,h⟩:=ay h
 have p3:=fun{sc F} (r:PS sc F)=>se (bw t)<|se (rN c)<|sx nK<|sv (aN t)<|bz (EW br1)<|r
 rcases bj h with⟨c2,h⟩|⟨c2,h⟩
 ·obtain rfl:=lf h
  have z:=p3<|sg 0 c2<|sv (ja c)<|sx (cj c)<|en (aI (ck c)<|(aX c))
  exact bO qk0 call26 func26 (c:=qla) rfl (aI (ak t) (aI trivial (aI (aX c) trivial))) z<|by kernel_rfl
 ·obtain⟨r4,br4,h⟩:=ay h
  obtain⟨r5,br5,h⟩:=ay h
  obtain⟨r6,br6,h⟩:=ay h
  obtain rfl:=lf h
  have z:=p3<|sg 0 c2<|lK [0,0,2,0,0,22,62,0,128,511,1023]<|sv (aN t)<|bz (Sr br4)<|sv (aN t)<|bz (pI br5)<|bz (Td br6)<|sv (ja c)<|sv (lQ.mk' (v:=jF) fM ([c]:List ai) 1 (by kernel_rfl))<|sv (km 2 name r4 r6 ([c]:List ai))<|sx (cj (⟨2,name,r4,r6,0,([c]:List ai)⟩:ai))<|en (aI (ck (⟨2,name,r4,r6,0,([c]:List ai)⟩:ai))<|(aX (⟨2,name,r4,r6,0,([c]:List ai)⟩:ai)))
  exact bO qk0 call26 func26 (c:=qla) rfl (aI (ak t) (aI trivial (aI (aX c) trivial))) z<|by kernel_rfl
noncomputable def qjD:Code:=f56.body.getD .skip
def qh5:List Nat:=[]
section
variable(name:af)(m:aG)(i:Int)(m2:af)(m3:waA)(m4:waF)(m5:waG)
def oS:aC:=be 28 [(1,.str name),(2,.eptr (aB m)),(4,.bptr 1 0),(6,.int .i64 i)] [.dead,.cells [.str m2,sl cS m3,sl bH m4,sl ef m5] [(1,9),(2,102),(3,73)]] []
def oT(o:(af×waA×waF×waG)⊕(af×waA×waF×waG)):Exit:=match o with
 |(.inl _)=>.ret
 |(.inr _)=>.exit 0
def lu(o:(af×waA×waF×waG)⊕(af×waA×waF×waG)):aC:=match o with
 |(.inl o)=>be 28 [(4,.bptr 1 0),(5,.bool true)] [.dead,.cells [.str o.1,sl cS o.2.1,sl bH o.2.2.1,sl ef o.2.2.2] []] []
 |(.inr o)=>be 28 [(4,.bptr 1 0)] [.dead,.cells [.str o.1,sl cS o.2.1,sl bH o.2.2.1,sl ef o.2.2.2] [(1,9),(2,102),(3,73)]] []
def jj:Option ((Int×af×waA×waF×waG)⊕((af×waA×waF×waG)⊕(af×waA×waF×waG))):=
 if(decide (i<(m.Datas.length:Int)))=true then
  (cz m.Datas i).bind fun x3=>
  if(x3.Name==name)=true then
   (cz m.Datas i).bind fun x6=>
   some (.inr (.inl (x6.Name,x6.Vars,x6.Preds,x6.Cons)))
  else
   some (.inl (aS (i+1),m2,m3,m4,m5))
 else
  some (.inr (.inr (m2,m3,m4,m5)))
def Es:Option ((af×waA×waF×waG)⊕(af×waA×waF×waG)):=loop (fun(zz:Int×af×waA×waF×waG)=>jj name m zz.1 zz.2.1 zz.2.2.1 zz.2.2.2.1 zz.2.2.2.2) (i,m2,m3,m4,m5)
theorem Nv{y:(Int×af×waA×waF×waG)⊕((af×waA×waF×waG)⊕(af×waA×waF×waG))}(h:jj name m i m2 m3 m4 m5=some y):aV Pg GE 0 (cA qjD 55) (LQ (fun(zz:Int×af×waA×waF×waG)=>oS name m zz.1 zz.2.1 zz.2.2.1 zz.2.2.2.1 zz.2.2.2.2) oT lu y) (oS name m i m2 m3 m4 m5):=by
 have p2:=fun{sc F} (r:PS sc F)=>sv (dj m)<|sv (dl m)<|cq (KX.ln m.Datas)<|r
 rcases bj h with⟨c1,h⟩|⟨c1,h⟩
 ·obtain⟨x3,bx3,h⟩:=ay h
  have p5:=fun{sc F} (r:PS sc F)=>p2<|sg 0 c1<|sv (dj m)<|sv (dl m)<|sv (KX.ia (k:=.i64) bx3)<|sv (Hw x3)<|sv (Kn x3)<|r
  rcases bj h with⟨c4,h⟩|⟨c4,h⟩
  ·obtain⟨x6,bx6,h⟩:=ay h
   obtain rfl:=lf h
   have z:=p5<|sg 0 c4<|sv (dj m)<|sv (dl m)<|sv (KX.ia (k:=.i64) bx6)<|sv (XC x6)<|sx (A4 x6)<|eF (oT (.inl (x6.Name,x6.Vars,x6.Preds,x6.Cons))) (lu (.inl (x6.Name,x6.Vars,x6.Preds,x6.Cons)))
   exact gg qh5 (by intro hx;cases hx) z<|by kernel_rfl
  ·obtain rfl:=lf h
   exact oo qh5 (p5<|sg 0 c4<|eF .normal (oS name m (aS (i+1)) m2 m3 m4 m5))<|by kernel_rfl
 ·obtain rfl:=lf h
  have z:=p2<|sg 0 c1<|eF (oT (.inr (m2,m3,m4,m5))) (lu (.inr (m2,m3,m4,m5)))
  exact gg qh5 (by intro hx;cases hx) z<|by kernel_rfl
theorem Et{x:(af×waA×waF×waG)⊕(af×waA×waF×waG)}(h:Es name m i m2 m3 m4 m5=some x):aV Pg GE 0 (.loop (cA qjD 55)) (EX (oT x) (lu x)) (oS name m i m2 m3 m4 m5):=
 aV.loop (S:=fun(zz:Int×af×waA×waF×waG)=>oS name m zz.1 zz.2.1 zz.2.2.1 zz.2.2.2.1 zz.2.2.2.2) (ex:=oT) (s:=(i,m2,m3,m4,m5)) h fun zz y hy=>Nv name m zz.1 zz.2.1 zz.2.2.1 zz.2.2.2.1 zz.2.2.2.2 hy
end
def Jo(m:aG)(name:af):Option (ed×Bool):=
 (Es name m 0 ([]:af) ([]:List af) ([]:List cM) ([]:List eh)).bind fun o7=>match o7 with
 |(.inl o7)=>
  some ((⟨o7.1,o7.2.1,o7.2.2.1,o7.2.2.2⟩:ed),true)
 |(.inr o7)=>
  some ((⟨([]:af),([]:List af),([]:List cM),([]:List eh)⟩:ed),false)
theorem WM{m:aG}{name:af}{r:ed×Bool}(h:Jo m name=some r):CC Pg GE 56 [.agg (aB m),.str name] (.tuple [.agg (cN r.1),.bool r.2]) []:=by
 obtain⟨o7,bo7,h⟩:=ay h
 rcases o7 with o7|o7
 ·obtain rfl:=lf h
  have z:=se (gE m)<|sx Zz<|cY (e:=.ret) (s1:=lu (.inl o7)) (Et name m 0 ([]:af) ([]:List af) ([]:List cM) ([]:List eh) bo7)<|en (aI (va3 PVal.tuple (fp (GF (⟨o7.1,o7.2.1,o7.2.2.1,o7.2.2.2⟩:ed)) (fp (rP (.bool true)) (rfl:([]:List PVal)=[]))))<|(aI (ur (⟨o7.1,o7.2.1,o7.2.2.1,o7.2.2.2⟩:ed)) (aI trivial trivial)))
  exact bO qh5 call56 func56 (c:=qjD) rfl (aI (cu m) (aI trivial trivial)) z<|by kernel_rfl
 ·obtain rfl:=lf h
  have z:=se (gE m)<|sx Zz<|cY (e:=.exit 0) (s1:=lu (.inr o7)) (Et name m 0 ([]:af) ([]:List af) ([]:List cM) ([]:List eh) bo7)<|sb (P4) (P1)<|sy (uA (⟨([]:af),([]:List af),([]:List cM),([]:List eh)⟩:ed))<|en (aI (va3 PVal.tuple (fp (GF (⟨([]:af),([]:List af),([]:List cM),([]:List eh)⟩:ed)) (fp (rP (.bool false)) (rfl:([]:List PVal)=[]))))<|(aI (ur (⟨([]:af),([]:List af),([]:List cM),([]:List eh)⟩:ed)) (aI trivial trivial)))
  exact bO qh5 call56 func56 (c:=qjD) rfl (aI (cu m) (aI trivial trivial)) z<|by kernel_rfl
noncomputable def qkn:Code:=f57.body.getD .skip
def qjo:List Nat:=[]
section
variable(v:waB)(i:Int)(v2:af)(m:waB)
def LR:aC:=be 27 [(0,sl ac v),(1,.int .i64 i),(2,.str v2),(6,.bptr 0 0)] [.cells [.int .i64 0,.str ([]:af),.int .i64 0,sl ac m] [(3,36)]] []
def sY(o:Bool):aC:=be 27 [(0,sl ac v),(1,.int .i64 i),(2,.str v2),(6,.bptr 0 0),(18,.bool o)] [.cells [.int .i64 0,.str ([]:af),.int .i64 0,sl ac m] [(3,36)]] []
def xE:Option Bool:=
 if(decide (i>=(v.length:Int)))=true then
  some true
 else
  (cz v i).bind fun x2=>
  (qT x2 (⟨0,([]:af),0,([]:List aa)⟩:aa)).bind fun r3=>
  some r3
theorem JL{x:Bool}(h:xE v i=some x):aV Pg GE 0 (cA qkn 12) (EX .normal (sY v i v2 m x)) (LR v i v2 m):=by
 rcases bj h with⟨c1,h⟩|⟨c1,h⟩
 ·obtain rfl:=lf h
  exact cf qjo (cq (bL.ln v)<|sg 5 c1<|eF .normal (sY v i v2 m true))<|by kernel_rfl
 ·obtain⟨x2,bx2,h⟩:=ay h
  obtain⟨r3,br3,h⟩:=ay h
  obtain rfl:=lf h
  exact cf qjo (cq (bL.ln v)<|sg 5 c1<|sv (bL.ia (k:=.i64) bx2)<|sv (bh x2)<|sb (tb) (ta)<|bz (uj br3)<|eF .normal (sY v i v2 m r3))<|by kernel_rfl
end
def ul(a:waB)(i:Int)(a2:af):Option aa:=
 (xE a i).bind fun o4=>
 if o4=true then
  some (⟨2,([]:af),1,([]:List aa)⟩:aa)
 else
  (cz a i).bind fun x7=>
  (gV a2).bind fun r8=>
  (Ay x7 ([118]:af) r8).bind fun r9=>
  some r9
theorem E0{a:waB}{i:Int}{a2:af}{r:aa}(h:ul a i a2=some r):CC Pg GE 57 [sl ac a,.int .i64 i,.str a2] (.agg (ac r)) []:=by
 obtain⟨o4,bo4,h⟩:=ay h
 have p6:=fun{sc F} (r:PS sc F)=>sx ib<|ka 1<|cY (JL a i a2 ([]:List aa) bo4)<|r
 rcases bj h with⟨c5,h⟩|⟨c5,h⟩
 ·obtain rfl:=lf h
  have z:=p6<|sg 0 c5<|sb (ry 2 1) (rv 2 1)<|sy (aK (⟨2,([]:af),1,([]:List aa)⟩:aa))<|en (aI (dm (⟨2,([]:af),1,([]:List aa)⟩:aa))<|(ah (⟨2,([]:af),1,([]:List aa)⟩:aa)))
  exact bO qjo call57 func57 (c:=qkn) rfl (aI (aj ah a) (aI trivial (aI trivial trivial))) z<|by kernel_rfl
 ·obtain⟨x7,bx7,h⟩:=ay h
  obtain⟨r8,br8,h⟩:=ay h
  obtain⟨r9,br9,h⟩:=ay h
  obtain rfl:=lf h
  have z:=p6<|sg 0 c5<|lK [0,0,3,7,0,16,63,127]<|sv (bL.ia (k:=.i64) bx7)<|sv (bh x7)<|bz (pI br8)<|bz (Jk br9)<|sx (cr r9)<|en (aI (dm r9)<|(ah r9))
  exact bO qjo call57 func57 (c:=qkn) rfl (aI (aj ah a) (aI trivial (aI trivial trivial))) z<|by kernel_rfl
abbrev Gc:=(waD->Option ai)
abbrev K6(R:Gc):Prop:=∀(a:waD) (r:ai),R a=some r->CC Pg GE 43 [sl au a] (.agg (au r)) [(6,36),(8,50)]
noncomputable def qlc:Code:=f68.body.getD .skip
def qk2:List Nat:=[]
def Ca(c:ai):Option Bool:=
 if(c.Op==2)=true then
  some true
 else
  some (c.Op==3)
theorem Sp{c:ai}{r:Bool}(h:Ca c=some r):CC Pg GE 68 [.agg (au c)] (.bool r) []:=by
 have p2:=fun{sc F} (r:PS sc F)=>se (rN c)<|sv (pj c)<|sv (pq c)<|r
 rcases bj h with⟨c1,h⟩|⟨c1,h⟩
 ·obtain rfl:=lf h
  have z:=p2<|sg 4 c1<|en (aI (rP (.bool true))<|trivial)
  exact bO qk2 call68 func68 (c:=qlc) rfl (aI (aX c) trivial) z<|by kernel_rfl
 ·obtain rfl:=lf h
  have z:=p2<|sg 4 c1<|sv (pj c)<|sv (pq c)<|en (aI (rP (.bool (c.Op==3)))<|trivial)
  exact bO qk2 call68 func68 (c:=qlc) rfl (aI (aX c) trivial) z<|by kernel_rfl
noncomputable def qki:Code:=f43.body.getD .skip
def qjk:List Nat:=[16,22]
section
variable(R112:Gc)(t7:waD)(t8:Int)(m:waB)(m2:waD)(t9:Int)(m3:waD)
def nx:aC:=be 31 [(2,.bptr 0 0),(3,.bptr 1 0),(7,sl au t7),(8,.int .i64 t8),(9,.int .i64 t9)] [.cells [.int .i64 0,.str ([]:af),.str ([]:af),.int .i64 0,.str ([]:af),.int .i64 0,sl ac m,.int .i64 0,sl au m2] [(6,36),(8,50)],.cells [.int .i64 1,.str ([]:af),.str ([]:af),.int .i64 0,.str ([]:af),.int .i64 0,sl ac m,.int .i64 0,sl au m3] [(6,36),(8,50)]] []
def B9(o:waD):aC:=be 31 [(2,.bptr 0 0),(3,.bptr 1 0)] [.cells [.int .i64 0,.str ([]:af),.str ([]:af),.int .i64 0,.str ([]:af),.int .i64 0,sl ac m,.int .i64 0,sl au m2] [(6,36),(8,50)],.cells [.int .i64 1,.str ([]:af),.str ([]:af),.int .i64 0,.str ([]:af),.int .i64 0,sl ac m,.int .i64 0,sl au o] [(6,36),(8,50)]] []
def JH:Option ((Int×waD)⊕(waD)):=
 if(decide (t9<t8))=true then
  (cz t7 t9).bind fun x2=>
  (Ca x2).bind fun r3=>
  if r3=true then
   (app m3 ([x2]:List ai)).bind fun l6=>
   some (.inl (aS (t9+1),l6))
  else
   (R112 x2.Kids).bind fun r7=>
   (app m3 r7.Kids).bind fun l8=>
   some (.inl (aS (t9+1),l8))
 else
  some (.inr m3)
def If:Option waD:=loop (fun(zz:Int×waD)=>JH R112 t7 t8 zz.1 zz.2) (t9,m3)
theorem PQ(hR112:K6 R112){y:(Int×waD)⊕(waD)}(h:JH R112 t7 t8 t9 m3=some y):aV Pg GE 0 (cA qki 119) (LQ (fun(zz:Int×waD)=>nx t7 t8 m m2 zz.1 zz.2) (fun _=>.exit 0) (B9 m m2) y) (nx t7 t8 m m2 t9 m3):=by
 rcases bj h with⟨c1,h⟩|⟨c1,h⟩
 ·obtain⟨x2,bx2,h⟩:=ay h
  obtain⟨r3,br3,h⟩:=ay h
  have p5:=fun{sc F} (r:PS sc F)=>sg 0 c1<|sv (lQ.ia (k:=.i64) bx2)<|sv (ja x2)<|sx nK<|sx (cj x2)<|sv (dA x2 [])<|bz (Sp br3)<|r
  rcases bj h with⟨c4,h⟩|⟨c4,h⟩
  ·obtain⟨l6,bl6,h⟩:=ay h
   obtain rfl:=lf h
   have z:=p5<|sg 0 c4<|sv (dA x2 [])<|sv (lQ.mk' (v:=jF) fM ([x2]:List ai) 1 (by kernel_rfl))<|sv (lQ.ap bl6)<|uP 0 .normal (nx t7 t8 m m2 (aS (t9+1)) l6) rfl (dF (aI (cZ rfl) (aI (cZ rfl) (aI (up (aj aX t7)) (aI trivial (aI trivial trivial)))))) (aI (aI trivial (aI trivial (aI trivial (aI trivial (aI trivial (aI trivial (aI (up (aj ah m)) (aI trivial (aI (up (aj aX m2)) trivial))))))))) (aI (aI trivial (aI trivial (aI trivial (aI trivial (aI trivial (aI trivial (aI (up (aj ah m)) (aI trivial (aI (up (aj aX l6)) trivial))))))))) trivial))
   exact dh (A:=qjk) mixed z<|by kernel_rfl
  ·obtain⟨r7,br7,h⟩:=ay h
   obtain⟨l8,bl8,h⟩:=ay h
   obtain rfl:=lf h
   have z:=p5<|sg 0 c4<|lK [0,1,0,4,12,28,63,127,255]<|ss<|bz (hR112 _ _ br7)<|sv (Ql r7)<|sv (lQ.ap bl8)<|We (rfl:bK (sl au l8)=some [sl au l8])<|uP 0 .normal (nx t7 t8 m m2 (aS (t9+1)) l8) rfl (dF (aI (cZ rfl) (aI (cZ rfl) (aI (up (aj aX t7)) (aI trivial (aI trivial trivial)))))) (aI (aI trivial (aI trivial (aI trivial (aI trivial (aI trivial (aI trivial (aI (up (aj ah m)) (aI trivial (aI (up (aj aX m2)) trivial))))))))) (aI (aI trivial (aI trivial (aI trivial (aI trivial (aI trivial (aI trivial (aI (up (aj ah m)) (aI trivial (aI (up (aj aX l8)) trivial))))))))) trivial))
   exact dh (A:=qjk) mixed z<|by kernel_rfl
 ·obtain rfl:=lf h
  have z:=sg 0 c1<|eF (.exit 0) (B9 m m2 m3)
  exact gg qjk (by intro hx;cases hx) z<|by kernel_rfl
theorem So(hR112:K6 R112){x:waD}(h:If R112 t7 t8 t9 m3=some x):aV Pg GE 0 (.loop (cA qki 119)) (EX (.exit 0) (B9 m m2 x)) (nx t7 t8 m m2 t9 m3):=
 aV.loop (S:=fun(zz:Int×waD)=>nx t7 t8 m m2 zz.1 zz.2) (ex:=(fun _=>.exit 0)) (s:=(t9,m3)) h fun zz y hy=>PQ R112 t7 t8 m m2 zz.1 zz.2 hR112 hy
end
def F9(R112:Gc)(a:waD):Option ai:=
 (If R112 a (a.length:Int) 0 ([]:List ai)).bind fun o9=>
 some (⟨1,([]:af),([]:af),(⟨0,([]:af),0,([]:List aa)⟩:aa),0,o9⟩:ai)
theorem WS(R112:Gc)(hR112:K6 R112){a:waD}{r:ai}(h:F9 R112 a=some r):CC Pg GE 43 [sl au a] (.agg (au r)) [(6,36),(8,50)]:=by
 obtain⟨o9,bo9,h⟩:=ay h
 obtain rfl:=lf h
 have z:=sx nK<|sb (xN 1) (xM 1)<|sx nK<|sy (bM (⟨1,([]:af),([]:af),(⟨0,([]:af),0,([]:List aa)⟩:aa),0,([]:List ai)⟩:ai))<|cq (lQ.ln a)<|cY (So R112 a (a.length:Int) ([]:List aa) ([]:List ai) 0 ([]:List ai) hR112 bo9)<|sz (dA (⟨1,([]:af),([]:af),(⟨0,([]:af),0,([]:List aa)⟩:aa),0,o9⟩:ai) [])<|sy (bM (⟨1,([]:af),([]:af),(⟨0,([]:af),0,([]:List aa)⟩:aa),0,o9⟩:ai))<|en (aI (ck (⟨1,([]:af),([]:af),(⟨0,([]:af),0,([]:List aa)⟩:aa),0,o9⟩:ai))<|aI (aX (⟨1,([]:af),([]:af),(⟨0,([]:af),0,([]:List aa)⟩:aa),0,o9⟩:ai))<|rT)
 exact bO qjk call43 func43 (c:=qki) rfl (aI (aj aX a) trivial) z<|by kernel_rfl
def LN:(waD->Option ai)->(waD)->Option ai:=fun(rec:waD->Option ai) (x:waD)=>F9 (fun a=>rec a) x
def JG(a:waD):Option ai:=kK LN a
theorem Ig{a:waD}{r:ai}(h:JG a=some r):CC Pg GE 43 [sl au a] (.agg (au r)) [(6,36),(8,50)]:=
 cG (F:=LN) (M:=fun(x:waD) (r:ai)=>CC Pg GE 43 [sl au x] (.agg (au r)) [(6,36),(8,50)]) (fun rec hrec x r h=>WS _ (fun a r h=>hrec a r h) h) h
noncomputable def qjy:Code:=f37.body.getD .skip
def qjj:List Nat:=[56]
section
variable(tag:Int)(v:ae)(v2:ae)(v3:af)(m:waB)(m2:waD)(m3:af)(m4:waA)(m5:waF)(m6:waG)(out:waD)(i:Int)
def pf:aC:=be 76 [(3,.int .i64 tag),(6,.eptr (ag v)),(7,.eptr (ag v2)),(10,.bptr 3 0),(11,.str v3),(12,sl au out),(13,.bptr 4 0),(15,.int .i64 i)] [.dead,.dead,.dead,.cells [.int .i64 0,.str ([]:af),.str ([]:af),.int .i64 0,.str ([]:af),.int .i64 0,sl ac m,.int .i64 0,sl au m2] [(6,36),(8,50)],.cells [.str m3,sl cS m4,sl bH m5,sl ef m6] []] [((12,0),50)]
def zZ(o:waD):aC:=be 76 [(10,.bptr 3 0),(12,sl au o)] [.dead,.dead,.dead,.cells [.int .i64 0,.str ([]:af),.str ([]:af),.int .i64 0,.str ([]:af),.int .i64 0,sl ac m,.int .i64 0,sl au m2] [(6,36),(8,50)],.cells [.str m3,sl cS m4,sl bH m5,sl ef m6] []] [((12,0),50)]
def lC:Option ((waD×Int)⊕(waD)):=
 if(decide (i<(m5.length:Int)))=true then
  (ul v2.Preds i v3).bind fun r11=>
  (cz m5 i).bind fun x12=>
  (ul v.Preds i v3).bind fun r13=>
  (app out ([(⟨2,v3,x12.Sort_,r13,0,([(⟨3,([]:af),([]:af),r11,tag,([]:List ai)⟩:ai)]:List ai)⟩:ai)]:List ai)).bind fun l14=>
  some (.inl (l14,aS (i+1)))
 else
  some (.inr out)
def EZ:Option waD:=loop (fun(zz:waD×Int)=>lC tag v v2 v3 m5 zz.1 zz.2) (out,i)
theorem N4{y:(waD×Int)⊕(waD)}(h:lC tag v v2 v3 m5 out i=some y):aV Pg GE 0 (cA qjy 1015) (LQ (fun(zz:waD×Int)=>pf tag v v2 v3 m m2 m3 m4 m5 m6 zz.1 zz.2) (fun _=>.exit 0) (zZ m m2 m3 m4 m5 m6) y) (pf tag v v2 v3 m m2 m3 m4 m5 m6 out i):=by
 have p10:=fun{sc F} (r:PS sc F)=>ss<|cq (I3.ln m5)<|r
 rcases bj h with⟨c9,h⟩|⟨c9,h⟩
 ·obtain⟨r11,br11,h⟩:=ay h
  obtain⟨x12,bx12,h⟩:=ay h
  obtain⟨r13,br13,h⟩:=ay h
  obtain⟨l14,bl14,h⟩:=ay h
  obtain rfl:=lf h
  have z:=p10<|sg 0 c9<|sv (du v2)<|sv (dv v2)<|bz (E0 br11)<|sb (rx 3 r11 tag) (ru 3 r11 tag)<|sx nK<|sy (bM (⟨3,([]:af),([]:af),r11,tag,([]:List ai)⟩:ai))<|lK [0,0,0,4,0,28,60,124,0,256,0,0,3840,0,8192,32766,65534,131071,262143]<|ss<|sv (I3.ia (k:=.i64) bx12)<|sv (SL x12)<|sv (VN x12)<|sv (du v)<|sv (dv v)<|bz (E0 br13)<|sv (dA (⟨3,([]:af),([]:af),r11,tag,([]:List ai)⟩:ai) [])<|sv (lQ.mk' (v:=jF) fM ([(⟨3,([]:af),([]:af),r11,tag,([]:List ai)⟩:ai)]:List ai) 1 (by kernel_rfl))<|sv (km 2 v3 x12.Sort_ r13 ([(⟨3,([]:af),([]:af),r11,tag,([]:List ai)⟩:ai)]:List ai))<|sv (lQ.mk' (v:=jF) fM ([(⟨2,v3,x12.Sort_,r13,0,([(⟨3,([]:af),([]:af),r11,tag,([]:List ai)⟩:ai)]:List ai)⟩:ai)]:List ai) 1 (by kernel_rfl))<|sv (lQ.ap bl14)<|uP 0 .normal (pf tag v v2 v3 m m2 m3 m4 m5 m6 l14 (aS (i+1))) rfl (dF (aI trivial (aI (im (ak v)) (aI (im (ak v2)) (aI (cZ rfl) (aI trivial (aI (up (aj aX l14)) (aI (cZ rfl) (aI trivial trivial))))))))) (aI trivial (aI trivial (aI trivial (aI (aI trivial (aI trivial (aI trivial (aI trivial (aI trivial (aI trivial (aI (up (aj ah m)) (aI trivial (aI (up (aj aX m2)) trivial))))))))) (aI (aI trivial (aI (up (aj dN m4)) (aI (up (aj lZ m5)) (aI (up (aj Gk m6)) trivial)))) trivial)))))
  exact dh (A:=qjj) mixed z<|by kernel_rfl
 ·obtain rfl:=lf h
  have z:=p10<|sg 0 c9<|eF (.exit 0) (zZ m m2 m3 m4 m5 m6 out)
  exact gg qjj (by intro hx;cases hx) z<|by kernel_rfl
theorem PT{x:waD}(h:EZ tag v v2 v3 m5 out i=some x):aV Pg GE 0 (.loop (cA qjy 1015)) (EX (.exit 0) (zZ m m2 m3 m4 m5 m6 x)) (pf tag v v2 v3 m m2 m3 m4 m5 m6 out i):=
 aV.loop (S:=fun(zz:waD×Int)=>pf tag v v2 v3 m m2 m3 m4 m5 m6 zz.1 zz.2) (ex:=(fun _=>.exit 0)) (s:=(out,i)) h fun zz y hy=>N4 tag v v2 v3 m m2 m3 m4 m5 m6 zz.1 zz.2 hy
end
def JJ(m:aG)(a:ae)(a2:ae)(tag:Int)(used:waA):Option ai:=
 (sL used ([118,49]:af)).bind fun r1=>
 (gV r1).bind fun r2=>
 (PF a2 r2).bind fun r3=>
 (AG a r1 (⟨3,([]:af),([]:af),r3,tag,([]:List ai)⟩:ai)).bind fun r4=>
 if(a.Op !=4)=true then
  (cz ([r4]:List ai) 0).bind fun x7=>
  some x7
 else
  (Jo m a.Name).bind fun r8=>
  (EZ tag a a2 r1 r8.1.Preds ([r4]:List ai) 0).bind fun o15=>
  (JG o15).bind fun r16=>
  some r16
theorem WU{m:aG}{a:ae}{a2:ae}{tag:Int}{used:waA}{r:ai}(h:JJ m a a2 tag used=some r):CC Pg GE 37 [.agg (aB m),.agg (ag a),.agg (ag a2),.int .i64 tag,sl cS used] (.agg (au r)) []:=by
 obtain⟨r1,br1,h⟩:=ay h
 obtain⟨r2,br2,h⟩:=ay h
 obtain⟨r3,br3,h⟩:=ay h
 obtain⟨r4,br4,h⟩:=ay h
 have p6:=fun{sc F} (r:PS sc F)=>se (gE m)<|se (bw a)<|se (bw a2)<|sx nK<|bz (Bu br1)<|lK [0,0,0,0,8,28,0,124,255,511,1023]<|sv (aN a)<|sv (aN a2)<|bz (pI br2)<|bz (Td br3)<|sb (rx 3 r3 tag) (ru 3 r3 tag)<|bz (EY br4)<|sv (lQ.mk' (v:=jF) fM ([r4]:List ai) 1 (by kernel_rfl))<|sv (aD a)<|sv (aE a)<|r
 rcases bj h with⟨c5,h⟩|⟨c5,h⟩
 ·obtain⟨x7,bx7,h⟩:=ay h
  obtain rfl:=lf h
  have z:=p6<|sg 0 c5<|sv (lQ.ia (k:=.i64) bx7)<|sv (ja x7)<|sx (cj x7)<|en (aI (ck x7)<|(aX x7))
  exact bO qjj call37 func37 (c:=qjy) rfl (aI (cu m) (aI (ak a) (aI (ak a2) (aI trivial (aI (aj dN used) trivial))))) z<|by kernel_rfl
 ·obtain⟨r8,br8,h⟩:=ay h
  obtain⟨o15,bo15,h⟩:=ay h
  obtain⟨r16,br16,h⟩:=ay h
  obtain rfl:=lf h
  have z:=p6<|sg 0 c5<|sv (fa m)<|sv (cx a)<|sv (cT a)<|bz (WM br8)<|sx Zz<|sx (A4 r8.1)<|cY (PT tag a a2 r1 ([]:List aa) ([]:List ai) r8.1.Name r8.1.Vars r8.1.Preds r8.1.Cons ([r4]:List ai) 0 bo15)<|bz (Ig br16)<|sy (bM r16)<|en (aI (ck r16)<|(aX r16))
  exact bO qjj call37 func37 (c:=qjy) rfl (aI (cu m) (aI (ak a) (aI (ak a2) (aI trivial (aI (aj dN used) trivial))))) z<|by kernel_rfl
abbrev xI:=(aG->ae->ae->Int->Int->waA->Option (ai×Int))
abbrev OP(R:xI):Prop:=∀(m:aG) (a:ae) (a2:ae) (i:Int) (tag:Int) (used:waA) (r:ai×Int),R m a a2 i tag used=some r->CC Pg GE 38 [.agg (aB m),.agg (ag a),.agg (ag a2),.int .i64 i,.int .i64 tag,sl cS used] (.tuple [.agg (au r.1),.int .i64 r.2]) []
noncomputable def qko:Code:=f58.body.getD .skip
def qj1:List Nat:=[17,25]
section
variable(t:ae)(v:waA)(k:Int)
def mL:aC:=be 26 [(2,sl cS v),(3,.eptr (ag t)),(7,.int .i64 k)] [.dead] [((2,0),9)]
def xG(o:waA):aC:=be 26 [(2,sl cS o)] [.dead] [((2,0),9)]
def ik:Option ((waA×Int)⊕(waA)):=
 if(decide (k<(t.Names.length:Int)))=true then
  (cz t.Names k).bind fun x3=>
  (app v ([x3]:List af)).bind fun l4=>
  some (.inl (l4,aS (k+1)))
 else
  some (.inr v)
def Cd:Option waA:=loop (fun(zz:waA×Int)=>ik t zz.1 zz.2) (v,k)
theorem LT{y:(waA×Int)⊕(waA)}(h:ik t v k=some y):aV Pg GE 1000 (cA qko 55) (LQ (fun(zz:waA×Int)=>mL t zz.1 zz.2) (fun _=>.exit 0) xG y) (mL t v k):=by
 have p2:=fun{sc F} (r:PS sc F)=>sv (aQ t)<|sv (aR t)<|cq (bq.ln t.Names)<|r
 rcases bj h with⟨c1,h⟩|⟨c1,h⟩
 ·obtain⟨x3,bx3,h⟩:=ay h
  obtain⟨l4,bl4,h⟩:=ay h
  obtain rfl:=lf h
  exact oo qj1 (p2<|sg 0 c1<|sv (aQ t)<|sv (aR t)<|sv (bq.ia (k:=.i64) bx3)<|sv (dB Bg (.str x3) [])<|sv (bq.mk' (v:=PVal.str) Fs ([x3]:List af) 1 (by kernel_rfl))<|sv (bq.ap bl4)<|eF .normal (mL t l4 (aS (k+1))))<|by kernel_rfl
 ·obtain rfl:=lf h
  have z:=p2<|sg 0 c1<|eF (.exit 0) (xG v)
  exact gg qj1 (by intro hx;cases hx) z<|by kernel_rfl
theorem N7{x:waA}(h:Cd t v k=some x):aV Pg GE 1000 (.loop (cA qko 55)) (EX (.exit 0) (xG x)) (mL t v k):=
 aV.loop (S:=fun(zz:waA×Int)=>mL t zz.1 zz.2) (ex:=(fun _=>.exit 0)) (s:=(v,k)) h fun zz y hy=>LT t zz.1 zz.2 hy
end
def AH(t:ae)(i:Int)(a:waA):Option waA:=
 (Cd t a (aS (i+1))).bind fun o5=>
 some o5
theorem JO{t:ae}{i:Int}{a:waA}{r:waA}(h:AH t i a=some r):C Pg GE 58 [.agg (ag t),.int .i64 i,sl cS a] [((2,0),9)] [] (sl cS r) [(0,9)] []:=by
 obtain⟨o5,bo5,h⟩:=ay h
 obtain rfl:=lf h
 have z:=se (bw t)<|cY (N7 t a (aS (i+1)) bo5)<|en (aI (rP (sl cS o5))<|aI (up (n:=0) (aj dN o5))<|aI (rL [])<|trivial)
 exact C.evGp (A:=qj1) mixed (m:=1000) (c:=qko) rfl call58 func58 rfl z<|by kernel_rfl
abbrev tN:=(ae->av->Option ae)
abbrev zq(R:tN):Prop:=∀(t:ae) (c:av) (r:ae),R t c=some r->CC Pg GE 114 [.agg (ag t),.agg (aH c)] (.agg (ag r)) [(2,38),(8,36)]
abbrev Ce:=(aa->Option waA)
abbrev HI(R:Ce):Prop:=∀(p:aa) (r:waA),R p=some r->CC Pg GE 143 [.agg (ac p)] (sl cS r) [(0,9)]
noncomputable def qa1:Code:=f142.body.getD .skip
def Uq:List Nat:=[19,28,46,51]
section
variable(v:waA)(s:af)(out:waA)(i:Int)
def Uz:aC:=be 52 [(0,sl cS v),(1,.str s),(5,sl cS out),(6,.int .i64 i)] [] [((5,0),9)]
def Bz(o:Bool):aC:=be 52 [(0,sl cS v),(1,.str s),(5,sl cS out),(6,.int .i64 i),(18,.bool o)] [] [((5,0),9)]
def sP:Option Bool:=
 if(decide (i<(v.length:Int)))=true then
  (cz v i).bind fun x2=>
  some (Op.bytesLess x2 s)
 else
  some false
theorem RJ{x:Bool}(h:sP v s i=some x):aV Pg GE 0 (cA qa1 492) (EX .normal (Bz v s out i x)) (Uz v s out i):=by
 rcases bj h with⟨c1,h⟩|⟨c1,h⟩
 ·obtain⟨x2,bx2,h⟩:=ay h
  obtain rfl:=lf h
  exact cf Uq (cq (bq.ln v)<|sg 5 c1<|sv (bq.ia (k:=.i64) bx2)<|sv (dB Bg (.str x2) [])<|eF .normal (Bz v s out i (Op.bytesLess x2 s)))<|by kernel_rfl
 ·obtain rfl:=lf h
  exact cf Uq (cq (bq.ln v)<|sg 5 c1<|eF .normal (Bz v s out i false))<|by kernel_rfl
end
section
variable(v:waA)(s:af)(out:waA)(i:Int)
def qQ:aC:=be 52 [(0,sl cS v),(1,.str s),(5,sl cS out),(6,.int .i64 i)] [] [((5,0),9)]
def BD(o:waA×Int):aC:=be 52 [(0,sl cS v),(1,.str s),(5,sl cS o.1),(6,.int .i64 o.2)] [] [((5,0),9)]
def qR:Option ((waA×Int)⊕((waA×Int))):=
 (sP v s i).bind fun o3=>
 if o3=true then
  (cz v i).bind fun x6=>
  (app out ([x6]:List af)).bind fun l7=>
  some (.inl (l7,aS (i+1)))
 else
  some (.inr (out,i))
def HS:Option ((waA×Int)):=loop (fun(zz:waA×Int)=>qR v s zz.1 zz.2) (out,i)
theorem O2{y:(waA×Int)⊕((waA×Int))}(h:qR v s out i=some y):aV Pg GE 0 (cA qa1 123) (LQ (fun(zz:waA×Int)=>qQ v s zz.1 zz.2) (fun _=>.exit 0) (BD v s) y) (qQ v s out i):=by
 obtain⟨o3,bo3,h⟩:=ay h
 have p5:=fun{sc F} (r:PS sc F)=>ka 1<|cY (RJ v s out i bo3)<|r
 rcases bj h with⟨c4,h⟩|⟨c4,h⟩
 ·obtain⟨x6,bx6,h⟩:=ay h
  obtain⟨l7,bl7,h⟩:=ay h
  obtain rfl:=lf h
  exact oo Uq (p5<|sg 0 c4<|sv (bq.ia (k:=.i64) bx6)<|sv (dB Bg (.str x6) [])<|sv (bq.mk' (v:=PVal.str) Fs ([x6]:List af) 1 (by kernel_rfl))<|sv (bq.ap bl7)<|eF .normal (qQ v s l7 (aS (i+1))))<|by kernel_rfl
 ·obtain rfl:=lf h
  have z:=p5<|sg 0 c4<|eF (.exit 0) (BD v s (out,i))
  exact gg Uq (by intro hx;cases hx) z<|by kernel_rfl
theorem RM{x:(waA×Int)}(h:HS v s out i=some x):aV Pg GE 0 (.loop (cA qa1 123)) (EX (.exit 0) (BD v s x)) (qQ v s out i):=
 aV.loop (S:=fun(zz:waA×Int)=>qQ v s zz.1 zz.2) (ex:=(fun _=>.exit 0)) (s:=(out,i)) h fun zz y hy=>O2 v s zz.1 zz.2 hy
end
section
variable(v:waA)(s:af)(out:waA)(i:Int)
def UB:aC:=be 52 [(0,sl cS v),(1,.str s),(5,sl cS out),(6,.int .i64 i)] [] [((5,0),9)]
def BC(o:Bool):aC:=be 52 [(0,sl cS v),(5,sl cS out),(6,.int .i64 i),(43,.bool o)] [] [((5,0),9)]
def HR:Option Bool:=
 if(decide (i<(v.length:Int)))=true then
  (cz v i).bind fun x11=>
  some (x11==s)
 else
  some false
theorem RL{x:Bool}(h:HR v s i=some x):aV Pg GE 0 (cA qa1 252) (EX .normal (BC v out i x)) (UB v s out i):=by
 rcases bj h with⟨c10,h⟩|⟨c10,h⟩
 ·obtain⟨x11,bx11,h⟩:=ay h
  obtain rfl:=lf h
  exact cf Uq (cq (bq.ln v)<|sg 5 c10<|sv (bq.ia (k:=.i64) bx11)<|sv (dB Bg (.str x11) [])<|eF .normal (BC v out i (x11==s)))<|by kernel_rfl
 ·obtain rfl:=lf h
  exact cf Uq (cq (bq.ln v)<|sg 5 c10<|eF .normal (BC v out i false))<|by kernel_rfl
end
section
variable(v:waA)(s:af)(out:waA)(i:Int)
def UA:aC:=be 52 [(0,sl cS v),(1,.str s),(5,sl cS out),(6,.int .i64 i)] [] [((5,0),9)]
def BB(o:Int):aC:=be 52 [(0,sl cS v),(5,sl cS out),(6,.int .i64 o)] [] [((5,0),9)]
def BA:Option Int:=
 (HR v s i).bind fun o12=>
 if o12=true then
  some (aS (i+1))
 else
  some i
theorem RK{x:Int}(h:BA v s i=some x):aV Pg GE 0 (cA qa1 126) (EX .normal (BB v out x)) (UA v s out i):=by
 obtain⟨o12,bo12,h⟩:=ay h
 have p14:=fun{sc F} (r:PS sc F)=>ka 0<|cY (RL v s out i bo12)<|r
 rcases bj h with⟨c13,h⟩|⟨c13,h⟩
 ·obtain rfl:=lf h
  exact cf Uq (p14<|sg 0 c13<|eF .normal (BB v out (aS (i+1))))<|by kernel_rfl
 ·obtain rfl:=lf h
  exact cf Uq (p14<|sg 0 c13<|eF .normal (BB v out i))<|by kernel_rfl
end
def yH(a:waA)(s:af):Option waA:=
 (HS a s ([]:List af) 0).bind fun o8=>
 (app o8.1 ([s]:List af)).bind fun l9=>
 (BA a s o8.2).bind fun o15=>
 (Ot a (some o15) none).bind fun l16=>
 (app l9 l16).bind fun l17=>
 some l17
theorem BE{a:waA}{s:af}{r:waA}(h:yH a s=some r):CC Pg GE 142 [sl cS a,.str s] (sl cS r) [(0,9)]:=by
 obtain⟨o8,bo8,h⟩:=ay h
 obtain⟨l9,bl9,h⟩:=ay h
 obtain⟨o15,bo15,h⟩:=ay h
 obtain⟨l16,bl16,h⟩:=ay h
 obtain⟨l17,bl17,h⟩:=ay h
 obtain rfl:=lf h
 have z:=cY (RM a s ([]:List af) 0 bo8)<|sv (bq.mk' (v:=PVal.str) Fs ([s]:List af) 1 (by kernel_rfl))<|sv (bq.ap bl9)<|ka 0<|cY (RK a s l9 o8.2 bo15)<|sv (bq.sc bl16)<|sv (bq.ap bl17)<|en (aI (rP (sl cS l17))<|(aj dN l17))
 exact bO Uq call142 func142 (c:=qa1) rfl (aI (aj dN a) (aI trivial trivial)) z<|by kernel_rfl
noncomputable def Sv:Code:=f121.body.getD .skip
def RD:List Nat:=[12,24,32]
section
variable(v:waA)(v2:waA)(t9:Int)(out:waA)(t10:Int)
def mm:aC:=be 33 [(0,sl cS v),(1,sl cS v2),(5,sl cS out),(9,.int .i64 t9),(10,.int .i64 t10)] [] [((5,0),9)]
def wQ(o:waA):aC:=be 33 [(1,sl cS v2),(5,sl cS o)] [] [((5,0),9)]
def mn:Option ((waA×Int)⊕(waA)):=
 if(decide (t10<t9))=true then
  (cz v t10).bind fun x2=>
  (yH out x2).bind fun r3=>
  some (.inl (r3,aS (t10+1)))
 else
  some (.inr out)
def qO:Option waA:=loop (fun(zz:waA×Int)=>mn v t9 zz.1 zz.2) (out,t10)
theorem Lb{y:(waA×Int)⊕(waA)}(h:mn v t9 out t10=some y):aV Pg GE 0 (cA Sv 119) (LQ (fun(zz:waA×Int)=>mm v v2 t9 zz.1 zz.2) (fun _=>.exit 0) (wQ v2) y) (mm v v2 t9 out t10):=by
 rcases bj h with⟨c1,h⟩|⟨c1,h⟩
 ·obtain⟨x2,bx2,h⟩:=ay h
  obtain⟨r3,br3,h⟩:=ay h
  obtain rfl:=lf h
  exact oo RD (sg 0 c1<|sv (bq.ia (k:=.i64) bx2)<|sv (dB Bg (.str x2) [])<|bz (BE br3)<|eF .normal (mm v v2 t9 r3 (aS (t10+1))))<|by kernel_rfl
 ·obtain rfl:=lf h
  have z:=sg 0 c1<|eF (.exit 0) (wQ v2 out)
  exact gg RD (by intro hx;cases hx) z<|by kernel_rfl
theorem Nd{x:waA}(h:qO v t9 out t10=some x):aV Pg GE 0 (.loop (cA Sv 119)) (EX (.exit 0) (wQ v2 x)) (mm v v2 t9 out t10):=
 aV.loop (S:=fun(zz:waA×Int)=>mm v v2 t9 zz.1 zz.2) (ex:=(fun _=>.exit 0)) (s:=(out,t10)) h fun zz y hy=>Lb v v2 t9 zz.1 zz.2 hy
end
section
variable(v:waA)(t21:Int)(out:waA)(t22:Int)
def mo:aC:=be 33 [(1,sl cS v),(5,sl cS out),(21,.int .i64 t21),(22,.int .i64 t22)] [] [((5,0),9)]
def wR(o:waA):aC:=be 33 [(5,sl cS o)] [] [((5,0),9)]
def dz:Option ((waA×Int)⊕(waA)):=
 if(decide (t22<t21))=true then
  (cz v t22).bind fun x6=>
  (yH out x6).bind fun r7=>
  some (.inl (r7,aS (t22+1)))
 else
  some (.inr out)
def qP:Option waA:=loop (fun(zz:waA×Int)=>dz v t21 zz.1 zz.2) (out,t22)
theorem Lc{y:(waA×Int)⊕(waA)}(h:dz v t21 out t22=some y):aV Pg GE 0 (cA Sv 247) (LQ (fun(zz:waA×Int)=>mo v t21 zz.1 zz.2) (fun _=>.exit 2) wR y) (mo v t21 out t22):=by
 rcases bj h with⟨c5,h⟩|⟨c5,h⟩
 ·obtain⟨x6,bx6,h⟩:=ay h
  obtain⟨r7,br7,h⟩:=ay h
  obtain rfl:=lf h
  exact oo RD (sg 0 c5<|sv (bq.ia (k:=.i64) bx6)<|sv (dB Bg (.str x6) [])<|bz (BE br7)<|eF .normal (mo v t21 r7 (aS (t22+1))))<|by kernel_rfl
 ·obtain rfl:=lf h
  have z:=sg 0 c5<|eF (.exit 2) (wR out)
  exact gg RD (by intro hx;cases hx) z<|by kernel_rfl
theorem Nf{x:waA}(h:qP v t21 out t22=some x):aV Pg GE 0 (.loop (cA Sv 247)) (EX (.exit 2) (wR x)) (mo v t21 out t22):=
 aV.loop (S:=fun(zz:waA×Int)=>mo v t21 zz.1 zz.2) (ex:=(fun _=>.exit 2)) (s:=(out,t22)) h fun zz y hy=>Lc v t21 zz.1 zz.2 hy
end
def gn(a:waA)(a2:waA):Option waA:=
 (qO a (a.length:Int) ([]:List af) 0).bind fun o4=>
 (qP a2 (a2.length:Int) o4 0).bind fun o8=>
 some o8
theorem nm{a:waA}{a2:waA}{r:waA}(h:gn a a2=some r):CC Pg GE 121 [sl cS a,sl cS a2] (sl cS r) [(0,9)]:=by
 obtain⟨o4,bo4,h⟩:=ay h
 obtain⟨o8,bo8,h⟩:=ay h
 obtain rfl:=lf h
 have z:=cq (bq.ln a)<|cY (Nd a a2 (a.length:Int) ([]:List af) 0 bo4)<|cq (bq.ln a2)<|cY (Nf a2 (a2.length:Int) o4 0 bo8)<|en (aI (rP (sl cS o8))<|(aj dN o8))
 exact bO RD call121 func121 (c:=Sv) rfl (aI (aj dN a) (aI (aj dN a2) trivial)) z<|by kernel_rfl
noncomputable def qe4:Code:=f143.body.getD .skip
def qcu:List Nat:=[24]
section
variable(p:aa)
def RO:aC:=be 25 [(1,.eptr (ac p)),(3,sl cS ([]:List af))] [.dead] [((3,0),9)]
def zA(o:waA):aC:=be 25 [(1,.eptr (ac p)),(3,sl cS o)] [.dead] [((3,0),9)]
def D0:Option waA:=
 if(p.Op==3)=true then
  some ([p.Name]:List af)
 else
  some ([]:List af)
theorem O4{x:waA}(h:D0 p=some x):aV Pg GE 0 (cA qe4 14) (EX .normal (zA p x)) (RO p):=by
 have p2:=fun{sc F} (r:PS sc F)=>sv (bE p)<|sv (bF p)<|r
 rcases bj h with⟨c1,h⟩|⟨c1,h⟩
 ·obtain rfl:=lf h
  exact cf qcu (p2<|sg 0 c1<|sv (cw p)<|sv (cR p)<|sv (bq.mk' (v:=PVal.str) Fs ([p.Name]:List af) 1 (by kernel_rfl))<|eF .normal (zA p ([p.Name]:List af)))<|by kernel_rfl
 ·obtain rfl:=lf h
  exact cf qcu (p2<|sg 0 c1<|eF .normal (zA p ([]:List af)))<|by kernel_rfl
end
section
variable(R121:Ce)(t13:waB)(t14:Int)(out:waA)(t15:Int)
def oF:aC:=be 25 [(3,sl cS out),(13,sl ac t13),(14,.int .i64 t14),(15,.int .i64 t15)] [.dead] [((3,0),9)]
def zB(o:waA):aC:=be 25 [(3,sl cS o)] [.dead] [((3,0),9)]
def G9:Option ((waA×Int)⊕(waA)):=
 if(decide (t15<t14))=true then
  (cz t13 t15).bind fun x5=>
  (R121 x5).bind fun r6=>
  (gn out r6).bind fun r7=>
  some (.inl (r7,aS (t15+1)))
 else
  some (.inr out)
def D1:Option waA:=loop (fun(zz:waA×Int)=>G9 R121 t13 t14 zz.1 zz.2) (out,t15)
theorem Nk(hR121:HI R121){y:(waA×Int)⊕(waA)}(h:G9 R121 t13 t14 out t15=some y):aV Pg GE 0 (cA qe4 247) (LQ (fun(zz:waA×Int)=>oF t13 t14 zz.1 zz.2) (fun _=>.exit 0) zB y) (oF t13 t14 out t15):=by
 rcases bj h with⟨c4,h⟩|⟨c4,h⟩
 ·obtain⟨x5,bx5,h⟩:=ay h
  obtain⟨r6,br6,h⟩:=ay h
  obtain⟨r7,br7,h⟩:=ay h
  obtain rfl:=lf h
  have z:=sg 0 c4<|sv (bL.ia (k:=.i64) bx5)<|sv (bh x5)<|sx ib<|sx (cr x5)<|sv (bX x5 [])<|bz (hR121 _ _ br6)<|bz (nm br7)<|uP 0 .normal (oF t13 t14 r7 (aS (t15+1))) rfl (dF (aI (up (aj dN r7)) (aI (up (aj ah t13)) (aI trivial (aI trivial trivial))))) (aI trivial trivial)
  exact dh (A:=qcu) mixed z<|by kernel_rfl
 ·obtain rfl:=lf h
  have z:=sg 0 c4<|eF (.exit 0) (zB out)
  exact gg qcu (by intro hx;cases hx) z<|by kernel_rfl
theorem O5(hR121:HI R121){x:waA}(h:D1 R121 t13 t14 out t15=some x):aV Pg GE 0 (.loop (cA qe4 247)) (EX (.exit 0) (zB x)) (oF t13 t14 out t15):=
 aV.loop (S:=fun(zz:waA×Int)=>oF t13 t14 zz.1 zz.2) (ex:=(fun _=>.exit 0)) (s:=(out,t15)) h fun zz y hy=>Nk R121 t13 t14 zz.1 zz.2 hR121 hy
end
def BG(R121:Ce)(p:aa):Option waA:=
 (D0 p).bind fun o3=>
 (D1 R121 p.Kids (p.Kids.length:Int) o3 0).bind fun o8=>
 some o8
theorem UE(R121:Ce)(hR121:HI R121){p:aa}{r:waA}(h:BG R121 p=some r):CC Pg GE 143 [.agg (ac p)] (sl cS r) [(0,9)]:=by
 obtain⟨o3,bo3,h⟩:=ay h
 obtain⟨o8,bo8,h⟩:=ay h
 obtain rfl:=lf h
 have z:=se (bU p)<|ka 1<|cY (O4 p bo3)<|sv (bC p)<|sv (bD p)<|cq (bL.ln p.Kids)<|cY (O5 R121 p.Kids (p.Kids.length:Int) o3 0 hR121 bo8)<|en (aI (rP (sl cS o8))<|(aj dN o8))
 exact bO qcu call143 func143 (c:=qe4) rfl (aI (ah p) trivial) z<|by kernel_rfl
def HT:(aa->Option waA)->(aa)->Option waA:=fun(rec:aa->Option waA) (x:aa)=>BG (fun p=>rec p) x
def ui(p:aa):Option waA:=kK HT p
theorem D2{p:aa}{r:waA}(h:ui p=some r):CC Pg GE 143 [.agg (ac p)] (sl cS r) [(0,9)]:=
 cG (F:=HT) (M:=fun(x:aa) (r:waA)=>CC Pg GE 143 [.agg (ac x)] (sl cS r) [(0,9)]) (fun rec hrec x r h=>UE _ (fun p r h=>hrec p r h) h) h
noncomputable def qgN:Code:=f122.body.getD .skip
def qgx:List Nat:=[17]
section
variable(t6:waB)(t7:Int)(out:waA)(t8:Int)
def mJ:aC:=be 18 [(3,sl cS out),(6,sl ac t6),(7,.int .i64 t7),(8,.int .i64 t8)] [] [((3,0),9)]
def xz(o:waA):aC:=be 18 [(3,sl cS o)] [] [((3,0),9)]
def EM:Option ((waA×Int)⊕(waA)):=
 if(decide (t8<t7))=true then
  (cz t6 t8).bind fun x2=>
  (ui x2).bind fun r3=>
  (gn out r3).bind fun r4=>
  some (.inl (r4,aS (t8+1)))
 else
  some (.inr out)
def B8:Option waA:=loop (fun(zz:waA×Int)=>EM t6 t7 zz.1 zz.2) (out,t8)
theorem LL{y:(waA×Int)⊕(waA)}(h:EM t6 t7 out t8=some y):aV Pg GE 0 (cA qgN 119) (LQ (fun(zz:waA×Int)=>mJ t6 t7 zz.1 zz.2) (fun _=>.exit 0) xz y) (mJ t6 t7 out t8):=by
 rcases bj h with⟨c1,h⟩|⟨c1,h⟩
 ·obtain⟨x2,bx2,h⟩:=ay h
  obtain⟨r3,br3,h⟩:=ay h
  obtain⟨r4,br4,h⟩:=ay h
  obtain rfl:=lf h
  have z:=sg 0 c1<|sv (bL.ia (k:=.i64) bx2)<|sv (bh x2)<|sx ib<|sx (cr x2)<|sv (bX x2 [])<|bz (D2 br3)<|bz (nm br4)<|uP 0 .normal (mJ t6 t7 r4 (aS (t8+1))) rfl (dF (aI (up (aj dN r4)) (aI (up (aj ah t6)) (aI trivial (aI trivial trivial))))) trivial
  exact dh (A:=qgx) mixed z<|by kernel_rfl
 ·obtain rfl:=lf h
  have z:=sg 0 c1<|eF (.exit 0) (xz out)
  exact gg qgx (by intro hx;cases hx) z<|by kernel_rfl
theorem N1{x:waA}(h:B8 t6 t7 out t8=some x):aV Pg GE 0 (.loop (cA qgN 119)) (EX (.exit 0) (xz x)) (mJ t6 t7 out t8):=
 aV.loop (S:=fun(zz:waA×Int)=>mJ t6 t7 zz.1 zz.2) (ex:=(fun _=>.exit 0)) (s:=(out,t8)) h fun zz y hy=>LL t6 t7 zz.1 zz.2 hy
end
def F8(a:waB):Option waA:=
 (B8 a (a.length:Int) ([]:List af) 0).bind fun o5=>
 some o5
theorem UY{a:waB}{r:waA}(h:F8 a=some r):CC Pg GE 122 [sl ac a] (sl cS r) [(0,9)]:=by
 obtain⟨o5,bo5,h⟩:=ay h
 obtain rfl:=lf h
 have z:=cq (bL.ln a)<|cY (N1 a (a.length:Int) ([]:List af) 0 bo5)<|en (aI (rP (sl cS o5))<|(aj dN o5))
 exact bO qgx call122 func122 (c:=qgN) rfl (aI (aj ah a) trivial) z<|by kernel_rfl
abbrev Cj:=(ae->Option waA)
abbrev HN(R:Cj):Prop:=∀(t:ae) (r:waA),R t=some r->CC Pg GE 123 [.agg (ag t)] (sl cS r) [(0,9)]
noncomputable def qgT:Code:=f144.body.getD .skip
def qeJ:List Nat:=[18,23]
section
variable(names:waA)(t8:waA)(t9:Int)(out:waA)(t10:Int)
def hX:aC:=be 24 [(1,sl cS names),(5,sl cS out),(8,sl cS t8),(9,.int .i64 t9),(10,.int .i64 t10)] [] [((5,0),9)]
def sX(o:waA):aC:=be 24 [(5,sl cS o)] [] [((5,0),9)]
def AE:Option ((waA×Int)⊕(waA)):=
 if(decide (t10<t9))=true then
  (cz t8 t10).bind fun x2=>
  (gM names x2).bind fun r3=>
  if(decide (r3<0))=true then
   (app out ([x2]:List af)).bind fun l6=>
   some (.inl (l6,aS (t10+1)))
  else
   some (.inl (out,aS (t10+1)))
 else
  some (.inr out)
def xA:Option waA:=loop (fun(zz:waA×Int)=>AE names t8 t9 zz.1 zz.2) (out,t10)
theorem Id{y:(waA×Int)⊕(waA)}(h:AE names t8 t9 out t10=some y):aV Pg GE 0 (cA qgT 119) (LQ (fun(zz:waA×Int)=>hX names t8 t9 zz.1 zz.2) (fun _=>.exit 0) sX y) (hX names t8 t9 out t10):=by
 rcases bj h with⟨c1,h⟩|⟨c1,h⟩
 ·obtain⟨x2,bx2,h⟩:=ay h
  obtain⟨r3,br3,h⟩:=ay h
  have p5:=fun{sc F} (r:PS sc F)=>sg 0 c1<|sv (bq.ia (k:=.i64) bx2)<|sv (dB Bg (.str x2) [])<|bz (kb br3)<|r
  rcases bj h with⟨c4,h⟩|⟨c4,h⟩
  ·obtain⟨l6,bl6,h⟩:=ay h
   obtain rfl:=lf h
   exact oo qeJ (p5<|sg 0 c4<|sv (bq.mk' (v:=PVal.str) Fs ([x2]:List af) 1 (by kernel_rfl))<|sv (bq.ap bl6)<|eF .normal (hX names t8 t9 l6 (aS (t10+1))))<|by kernel_rfl
  ·obtain rfl:=lf h
   exact oo qeJ (p5<|sg 0 c4<|eF .normal (hX names t8 t9 out (aS (t10+1))))<|by kernel_rfl
 ·obtain rfl:=lf h
  have z:=sg 0 c1<|eF (.exit 0) (sX out)
  exact gg qeJ (by intro hx;cases hx) z<|by kernel_rfl
theorem JD{x:waA}(h:xA names t8 t9 out t10=some x):aV Pg GE 0 (.loop (cA qgT 119)) (EX (.exit 0) (sX x)) (hX names t8 t9 out t10):=
 aV.loop (S:=fun(zz:waA×Int)=>hX names t8 t9 zz.1 zz.2) (ex:=(fun _=>.exit 0)) (s:=(out,t10)) h fun zz y hy=>Id names t8 t9 zz.1 zz.2 hy
end
def mK(a:waA)(names:waA):Option waA:=
 (xA names a (a.length:Int) ([]:List af) 0).bind fun o7=>
 some o7
theorem ET{a:waA}{names:waA}{r:waA}(h:mK a names=some r):CC Pg GE 144 [sl cS a,sl cS names] (sl cS r) [(0,9)]:=by
 obtain⟨o7,bo7,h⟩:=ay h
 obtain rfl:=lf h
 have z:=cq (bq.ln a)<|cY (JD names a (a.length:Int) ([]:List af) 0 bo7)<|en (aI (rP (sl cS o7))<|(aj dN o7))
 exact bO qeJ call144 func144 (c:=qgT) rfl (aI (aj dN a) (aI (aj dN names) trivial)) z<|by kernel_rfl
noncomputable def qa0:Code:=f123.body.getD .skip
def Yy:List Nat:=[32,53]
section
variable(t:ae)(t14:waB)(t15:Int)(out:waA)(t16:Int)
def oV:aC:=be 54 [(1,.eptr (ag t)),(3,sl cS out),(14,sl ac t14),(15,.int .i64 t15),(16,.int .i64 t16)] [.dead] [((14,0),36),((3,0),9)]
def zT(o:waA):aC:=be 54 [(1,.eptr (ag t)),(3,sl cS o)] [.dead] [((3,0),9)]
def Hg:Option ((waA×Int)⊕(waA)):=
 if(decide (t16<t15))=true then
  (cz t14 t16).bind fun x3=>
  (ui x3).bind fun r4=>
  (mK r4 ([([118]:af)]:List af)).bind fun r5=>
  (gn out r5).bind fun r6=>
  some (.inl (r6,aS (t16+1)))
 else
  some (.inr out)
def EF:Option waA:=loop (fun(zz:waA×Int)=>Hg t14 t15 zz.1 zz.2) (out,t16)
theorem NV{y:(waA×Int)⊕(waA)}(h:Hg t14 t15 out t16=some y):aV Pg GE 0 (cA qa0 119) (LQ (fun(zz:waA×Int)=>oV t t14 t15 zz.1 zz.2) (fun _=>.exit 0) (zT t) y) (oV t t14 t15 out t16):=by
 rcases bj h with⟨c2,h⟩|⟨c2,h⟩
 ·obtain⟨x3,bx3,h⟩:=ay h
  obtain⟨r4,br4,h⟩:=ay h
  obtain⟨r5,br5,h⟩:=ay h
  obtain⟨r6,br6,h⟩:=ay h
  obtain rfl:=lf h
  have z:=sg 0 c2<|sv (bL.ia (k:=.i64) bx3)<|sv (bh x3)<|sx ib<|sx (cr x3)<|sv (bX x3 [])<|bz (D2 br4)<|sv (bq.mk' (v:=PVal.str) Fs ([([118]:af)]:List af) 1 (by kernel_rfl))<|bz (ET br5)<|bz (nm br6)<|uP 0 .normal (oV t t14 t15 r6 (aS (t16+1))) rfl (dF (aI (im (ak t)) (aI (up (aj dN r6)) (aI (up (aj ah t14)) (aI trivial (aI trivial trivial)))))) (aI trivial trivial)
  exact dh (A:=Yy) mixed z<|by kernel_rfl
 ·obtain rfl:=lf h
  have z:=sg 0 c2<|eF (.exit 0) (zT t out)
  exact gg Yy (by intro hx;cases hx) z<|by kernel_rfl
theorem PI{x:waA}(h:EF t14 t15 out t16=some x):aV Pg GE 0 (.loop (cA qa0 119)) (EX (.exit 0) (zT t x)) (oV t t14 t15 out t16):=
 aV.loop (S:=fun(zz:waA×Int)=>oV t t14 t15 zz.1 zz.2) (ex:=(fun _=>.exit 0)) (s:=(out,t16)) h fun zz y hy=>NV t t14 t15 zz.1 zz.2 hy
end
section
variable(t:ae)(out:waA)(bound:waA)(t28:waC)(t29:Int)(t30:Int)(m:Int)(m2:af)(m3:waC)(m4:waA)(m5:Int)(m6:af)(m7:Int)(m8:waB)(m9:waB)
def Sk:aC:=be 54 [(1,.eptr (ag t)),(3,sl cS out),(7,.bptr 1 0),(8,sl cS bound),(28,sl ag t28),(29,.int .i64 t29),(30,.int .i64 t30)] [.dead,.cells [.int .i64 m,.str m2,sl ag m3,sl cS m4,.int .i64 m5,.str m6,.int .i64 m7,sl ac m8,sl ac m9] []] [((3,0),9)]
def zS(o:waA):aC:=be 54 [(1,.eptr (ag t)),(3,sl cS out),(7,.bptr 1 0),(8,sl cS o),(28,sl ag t28),(29,.int .i64 t29),(30,.int .i64 t30)] [.dead,.cells [.int .i64 m,.str m2,sl ag m3,sl cS m4,.int .i64 m5,.str m6,.int .i64 m7,sl ac m8,sl ac m9] []] [((3,0),9)]
def uk:Option waA:=
 if(t.Op !=6)=true then
  some ([]:List af)
 else
  some bound
theorem PH{x:waA}(h:uk t bound=some x):aV Pg GE 0 (cA qa0 31726) (EX .normal (zS t out t28 t29 t30 m m2 m3 m4 m5 m6 m7 m8 m9 x)) (Sk t out bound t28 t29 t30 m m2 m3 m4 m5 m6 m7 m8 m9):=by
 have p12:=fun{sc F} (r:PS sc F)=>sv (aD t)<|sv (aE t)<|r
 rcases bj h with⟨c11,h⟩|⟨c11,h⟩
 ·obtain rfl:=lf h
  exact cf Yy (p12<|sg 0 c11<|eF .normal (zS t out t28 t29 t30 m m2 m3 m4 m5 m6 m7 m8 m9 ([]:List af)))<|by kernel_rfl
 ·obtain rfl:=lf h
  exact cf Yy (p12<|sg 0 c11<|eF .normal (zS t out t28 t29 t30 m m2 m3 m4 m5 m6 m7 m8 m9 bound))<|by kernel_rfl
end
section
variable(R124:Cj)(t:ae)(t28:waC)(t29:Int)(out:waA)(t30:Int)
def oW:aC:=be 54 [(1,.eptr (ag t)),(3,sl cS out),(28,sl ag t28),(29,.int .i64 t29),(30,.int .i64 t30)] [.dead] [((3,0),9)]
def zU(o:waA):aC:=be 54 [(3,sl cS o)] [.dead] [((3,0),9)]
def Hh:Option ((waA×Int)⊕(waA)):=
 if(decide (t30<t29))=true then
  (cz t28 t30).bind fun x9=>
  (Ot t.Names none (some (if(t.Names.length:Int)<t30 then(t.Names.length:Int)else t30))).bind fun l10=>
  (uk t l10).bind fun o13=>
  (R124 x9).bind fun r14=>
  (mK r14 o13).bind fun r15=>
  (gn out r15).bind fun r16=>
  some (.inl (r16,aS (t30+1)))
 else
  some (.inr out)
def EG:Option waA:=loop (fun(zz:waA×Int)=>Hh R124 t t28 t29 zz.1 zz.2) (out,t30)
theorem NW(hR124:HN R124){y:(waA×Int)⊕(waA)}(h:Hh R124 t t28 t29 out t30=some y):aV Pg GE 0 (cA qa0 247) (LQ (fun(zz:waA×Int)=>oW t t28 t29 zz.1 zz.2) (fun _=>.exit 2) zU y) (oW t t28 t29 out t30):=by
 rcases bj h with⟨c8,h⟩|⟨c8,h⟩
 ·obtain⟨x9,bx9,h⟩:=ay h
  obtain⟨l10,bl10,h⟩:=ay h
  obtain⟨o13,bo13,h⟩:=ay h
  obtain⟨r14,br14,h⟩:=ay h
  obtain⟨r15,br15,h⟩:=ay h
  obtain⟨r16,br16,h⟩:=ay h
  obtain rfl:=lf h
  have z:=sg 0 c8<|sv (ct.ia (k:=.i64) bx9)<|sv (aN x9)<|sx tu<|sx (ez x9)<|sv (aQ t)<|sv (aR t)<|sv (aQ t)<|sv (aR t)<|cq (bq.ln t.Names)<|sv (bq.sc bl10)<|ka 0<|cY (PH t out l10 t28 t29 t30 x9.Op x9.Name x9.Args x9.Names x9.Pred.Op x9.Pred.Name x9.Pred.N x9.Pred.Kids x9.Preds bo13)<|sv (cX x9 [])<|bz (hR124 _ _ br14)<|bz (ET br15)<|bz (nm br16)<|uP 0 .normal (oW t t28 t29 r16 (aS (t30+1))) rfl (dF (aI (im (ak t)) (aI (up (aj dN r16)) (aI (up (aj ak t28)) (aI trivial (aI trivial trivial)))))) (aI trivial trivial)
  exact dh (A:=Yy) mixed z<|by kernel_rfl
 ·obtain rfl:=lf h
  have z:=sg 0 c8<|eF (.exit 2) (zU out)
  exact gg Yy (by intro hx;cases hx) z<|by kernel_rfl
theorem PJ(hR124:HN R124){x:waA}(h:EG R124 t t28 t29 out t30=some x):aV Pg GE 0 (.loop (cA qa0 247)) (EX (.exit 2) (zU x)) (oW t t28 t29 out t30):=
 aV.loop (S:=fun(zz:waA×Int)=>oW t t28 t29 zz.1 zz.2) (ex:=(fun _=>.exit 2)) (s:=(out,t30)) h fun zz y hy=>NW R124 t t28 t29 zz.1 zz.2 hR124 hy
end
def B4(R124:Cj)(t:ae):Option waA:=
 (app ([t.Pred]:List aa) t.Preds).bind fun l1=>
 (EF l1 (l1.length:Int) ([]:List af) 0).bind fun o7=>
 (EG R124 t t.Args (t.Args.length:Int) o7 0).bind fun o17=>
 some o17
theorem UU(R124:Cj)(hR124:HN R124){t:ae}{r:waA}(h:B4 R124 t=some r):CC Pg GE 123 [.agg (ag t)] (sl cS r) [(0,9)]:=by
 obtain⟨l1,bl1,h⟩:=ay h
 obtain⟨o7,bo7,h⟩:=ay h
 obtain⟨o17,bo17,h⟩:=ay h
 obtain rfl:=lf h
 have z:=se (bw t)<|sv (dH t)<|sv (dI t)<|sv (bL.mk' (v:=dZ) cP ([t.Pred]:List aa) 1 (by kernel_rfl))<|sv (du t)<|sv (dv t)<|sv (bL.ap bl1)<|cq (bL.ln l1)<|cY (PI t l1 (l1.length:Int) ([]:List af) 0 bo7)<|sv (aL t)<|sv (aM t)<|cq (ct.ln t.Args)<|cY (PJ R124 t t.Args (t.Args.length:Int) o7 0 hR124 bo17)<|en (aI (rP (sl cS o17))<|(aj dN o17))
 exact bO Yy call123 func123 (c:=qa0) rfl (aI (ak t) trivial) z<|by kernel_rfl
def H7:(ae->Option waA)->(ae)->Option waA:=fun(rec:ae->Option waA) (x:ae)=>B4 (fun t=>rec t) x
def PG(t:ae):Option waA:=kK H7 t
theorem WO{t:ae}{r:waA}(h:PG t=some r):CC Pg GE 123 [.agg (ag t)] (sl cS r) [(0,9)]:=
 cG (F:=H7) (M:=fun(x:ae) (r:waA)=>CC Pg GE 123 [.agg (ag x)] (sl cS r) [(0,9)]) (fun rec hrec x r h=>UU _ (fun t r h=>hrec t r h) h) h
noncomputable def qe2:Code:=f124.body.getD .skip
def qaP:List Nat:=[14,28,34]
section
variable(name:af)(c:av)(i:Int)(s:af)(t10:waA)(t11:Int)(m:waB)(m2:waA)(m3:waB)
def Sl:aC:=be 45 [(1,.str name),(2,.eptr (aH c)),(4,.bptr 1 0),(5,.bptr 2 0),(6,.int .i64 i),(7,.str s),(10,sl cS t10),(11,.int .i64 t11),(12,.int .i64 i)] [.dead,.cells [sl cS ([]:List af),sl ac m] [(0,9),(1,36)],.cells [sl cS m2,sl ac m3] [(0,9),(1,36)]] []
def zW(o:Bool):aC:=be 45 [(1,.str name),(2,.eptr (aH c)),(4,.bptr 1 0),(5,.bptr 2 0),(6,.int .i64 i),(7,.str s),(10,sl cS t10),(11,.int .i64 t11),(12,.int .i64 i),(26,.bool o)] [.dead,.cells [sl cS ([]:List af),sl ac m] [(0,9),(1,36)],.cells [sl cS m2,sl ac m3] [(0,9),(1,36)]] []
def EI:Option Bool:=
 if(decide (i<(c.By.length:Int)))=true then
  some (!(s==name))
 else
  some false
theorem PL{x:Bool}(h:EI name c i s=some x):aV Pg GE 0 (cA qe2 7670) (EX .normal (zW name c i s t10 t11 m m2 m3 x)) (Sl name c i s t10 t11 m m2 m3):=by
 have p4:=fun{sc F} (r:PS sc F)=>sv (dW c)<|sv (d5 c)<|cq (bL.ln c.By)<|r
 rcases bj h with⟨c3,h⟩|⟨c3,h⟩
 ·obtain rfl:=lf h
  exact cf qaP (p4<|sg 6 c3<|eF .normal (zW name c i s t10 t11 m m2 m3 (!(s==name))))<|by kernel_rfl
 ·obtain rfl:=lf h
  exact cf qaP (p4<|sg 6 c3<|eF .normal (zW name c i s t10 t11 m m2 m3 false))<|by kernel_rfl
end
section
variable(name:af)(c:av)(t10:waA)(t11:Int)(m:waB)(t12:Int)(m2:waA)(m3:waB)
def lw:aC:=be 45 [(1,.str name),(2,.eptr (aH c)),(4,.bptr 1 0),(5,.bptr 2 0),(10,sl cS t10),(11,.int .i64 t11),(12,.int .i64 t12)] [.dead,.cells [sl cS ([]:List af),sl ac m] [(0,9),(1,36)],.cells [sl cS m2,sl ac m3] [(0,9),(1,36)]] []
def zX(o:waA×waB):aC:=be 45 [(4,.bptr 1 0),(5,.bptr 2 0)] [.dead,.cells [sl cS ([]:List af),sl ac m] [(0,9),(1,36)],.cells [sl cS o.1,sl ac o.2] [(0,9),(1,36)]] []
def jk:Option ((Int×waA×waB)⊕((waA×waB))):=
 if(decide (t12<t11))=true then
  (cz t10 t12).bind fun x2=>
  (EI name c t12 x2).bind fun o5=>
  if o5=true then
   (app m2 ([x2]:List af)).bind fun l8=>
   (cz c.By t12).bind fun x9=>
   (app m3 ([x9]:List aa)).bind fun l10=>
   some (.inl (aS (t12+1),l8,l10))
  else
   some (.inl (aS (t12+1),m2,m3))
 else
  some (.inr (m2,m3))
def EJ:Option ((waA×waB)):=loop (fun(zz:Int×waA×waB)=>jk name c t10 t11 zz.1 zz.2.1 zz.2.2) (t12,m2,m3)
theorem NZ{y:(Int×waA×waB)⊕((waA×waB))}(h:jk name c t10 t11 t12 m2 m3=some y):aV Pg GE 0 (cA qe2 119) (LQ (fun(zz:Int×waA×waB)=>lw name c t10 t11 m zz.1 zz.2.1 zz.2.2) (fun _=>.exit 0) (zX m) y) (lw name c t10 t11 m t12 m2 m3):=by
 rcases bj h with⟨c1,h⟩|⟨c1,h⟩
 ·obtain⟨x2,bx2,h⟩:=ay h
  obtain⟨o5,bo5,h⟩:=ay h
  have p7:=fun{sc F} (r:PS sc F)=>sg 0 c1<|sv (bq.ia (k:=.i64) bx2)<|sv (dB Bg (.str x2) [])<|ka 0<|cY (PL name c t12 x2 t10 t11 m m2 m3 bo5)<|r
  rcases bj h with⟨c6,h⟩|⟨c6,h⟩
  ·obtain⟨l8,bl8,h⟩:=ay h
   obtain⟨x9,bx9,h⟩:=ay h
   obtain⟨l10,bl10,h⟩:=ay h
   obtain rfl:=lf h
   exact oo qaP (p7<|sg 0 c6<|sv (bq.mk' (v:=PVal.str) Fs ([x2]:List af) 1 (by kernel_rfl))<|sv (bq.ap bl8)<|lK [0,1,0,4,0,28,60,124,255,511,1023]<|sv (dW c)<|sv (d5 c)<|sv (bL.ia (k:=.i64) bx9)<|sv (bh x9)<|sv (bL.mk' (v:=dZ) cP ([x9]:List aa) 1 (by kernel_rfl))<|sv (bL.ap bl10)<|We (rfl:bK (sl ac l10)=some [sl ac l10])<|eF .normal (lw name c t10 t11 m (aS (t12+1)) l8 l10))<|by kernel_rfl
  ·obtain rfl:=lf h
   exact oo qaP (p7<|sg 0 c6<|eF .normal (lw name c t10 t11 m (aS (t12+1)) m2 m3))<|by kernel_rfl
 ·obtain rfl:=lf h
  have z:=sg 0 c1<|eF (.exit 0) (zX m (m2,m3))
  exact gg qaP (by intro hx;cases hx) z<|by kernel_rfl
theorem PM{x:(waA×waB)}(h:EJ name c t10 t11 t12 m2 m3=some x):aV Pg GE 0 (.loop (cA qe2 119)) (EX (.exit 0) (zX m x)) (lw name c t10 t11 m t12 m2 m3):=
 aV.loop (S:=fun(zz:Int×waA×waB)=>lw name c t10 t11 m zz.1 zz.2.1 zz.2.2) (ex:=(fun _=>.exit 0)) (s:=(t12,m2,m3)) h fun zz y hy=>NZ name c t10 t11 m zz.1 zz.2.1 zz.2.2 hy
end
def JB(c:av)(name:af):Option av:=
 (EJ name c c.Names (c.Names.length:Int) 0 ([]:List af) ([]:List aa)).bind fun o11=>
 some (⟨o11.1,o11.2⟩:av)
theorem WP{c:av}{name:af}{r:av}(h:JB c name=some r):CC Pg GE 124 [.agg (aH c),.str name] (.agg (aH r)) [(0,9),(1,36)]:=by
 obtain⟨o11,bo11,h⟩:=ay h
 obtain rfl:=lf h
 have z:=se (iq c)<|sx qd9<|sb (kH) (kG)<|sx qd9<|sy (dc (⟨([]:List af),([]:List aa)⟩:av))<|sv (rH c)<|sv (sA c)<|cq (bq.ln c.Names)<|cY (PM name c c.Names (c.Names.length:Int) ([]:List aa) 0 ([]:List af) ([]:List aa) bo11)<|sz (dY (⟨o11.1,o11.2⟩:av) [])<|sy (dc (⟨o11.1,o11.2⟩:av))<|en (aI (wz (⟨o11.1,o11.2⟩:av))<|aI (d9 (⟨o11.1,o11.2⟩:av))<|rT)
 exact bO qaP call124 func124 (c:=qe2) rfl (aI (d9 c) (aI trivial trivial)) z<|by kernel_rfl
noncomputable def qe3:Code:=f125.body.getD .skip
def qcs:List Nat:=[]
section
variable(name:af)(t8:waB)(t9:Int)(t10:Int)
def mH:aC:=be 20 [(1,.str name),(8,sl ac t8),(9,.int .i64 t9),(10,.int .i64 t10)] [.dead] []
def mI(o:Unit⊕(Unit)):Exit:=match o with
 |(.inl _)=>.ret
 |(.inr _)=>.exit 0
def jX(o:Unit⊕(Unit)):aC:=match o with
 |(.inl o)=>be 20 [(4,.bool true)] [.dead] []
 |(.inr o)=>be 20 [] [.dead] []
def xy:Option (Int⊕(Unit⊕(Unit))):=
 if(decide (t10<t9))=true then
  (cz t8 t10).bind fun x2=>
  (ui x2).bind fun r3=>
  (gM r3 name).bind fun r4=>
  if(decide (r4>=0))=true then
   some (.inr (.inl ()))
  else
   some (.inl (aS (t10+1)))
 else
  some (.inr (.inr ()))
def B6:Option (Unit⊕(Unit)):=loop (fun(zz:Int)=>xy name t8 t9 zz) t10
theorem LK{y:Int⊕(Unit⊕(Unit))}(h:xy name t8 t9 t10=some y):aV Pg GE 0 (cA qe3 55) (LQ (fun(zz:Int)=>mH name t8 t9 zz) mI jX y) (mH name t8 t9 t10):=by
 rcases bj h with⟨c1,h⟩|⟨c1,h⟩
 ·obtain⟨x2,bx2,h⟩:=ay h
  obtain⟨r3,br3,h⟩:=ay h
  obtain⟨r4,br4,h⟩:=ay h
  have p6:=fun{sc F} (r:PS sc F)=>sg 0 c1<|sv (bL.ia (k:=.i64) bx2)<|sv (bh x2)<|sx ib<|sx (cr x2)<|sv (bX x2 [])<|bz (D2 br3)<|bz (kb br4)<|r
  rcases bj h with⟨c5,h⟩|⟨c5,h⟩
  ·obtain rfl:=lf h
   have z:=p6<|sg 0 c5<|uP 0 (mI (.inl ())) (jX (.inl ())) rfl (dF (aI trivial trivial)) (aI trivial trivial)
   exact IN (A:=qcs) mixed (by intro hx;cases hx) z<|by kernel_rfl
  ·obtain rfl:=lf h
   have z:=p6<|sg 0 c5<|uP 0 .normal (mH name t8 t9 (aS (t10+1))) rfl (dF (aI trivial (aI (up (aj ah t8)) (aI trivial (aI trivial trivial))))) (aI trivial trivial)
   exact dh (A:=qcs) mixed z<|by kernel_rfl
 ·obtain rfl:=lf h
  have z:=sg 0 c1<|eF (mI (.inr ())) (jX (.inr ()))
  exact gg qcs (by intro hx;cases hx) z<|by kernel_rfl
theorem C8{x:Unit⊕(Unit)}(h:B6 name t8 t9 t10=some x):aV Pg GE 0 (.loop (cA qe3 55)) (EX (mI x) (jX x)) (mH name t8 t9 t10):=
 aV.loop (S:=fun(zz:Int)=>mH name t8 t9 zz) (ex:=mI) (s:=t10) h fun zz y hy=>LK name t8 t9 zz hy
end
def F7(c:av)(name:af):Option Bool:=
 (B6 name c.By (c.By.length:Int) 0).bind fun o7=>match o7 with
 |(.inl o7)=>
  some true
 |(.inr o7)=>
  some false
theorem UW{c:av}{name:af}{r:Bool}(h:F7 c name=some r):CC Pg GE 125 [.agg (aH c),.str name] (.bool r) []:=by
 obtain⟨o7,bo7,h⟩:=ay h
 rcases o7 with o7|o7
 ·obtain rfl:=lf h
  have z:=se (iq c)<|sv (dW c)<|sv (d5 c)<|cq (bL.ln c.By)<|cY (e:=.ret) (s1:=jX (.inl o7)) (C8 name c.By (c.By.length:Int) 0 bo7)<|en (aI (rP (.bool true))<|trivial)
  exact bO qcs call125 func125 (c:=qe3) rfl (aI (d9 c) (aI trivial trivial)) z<|by kernel_rfl
 ·obtain rfl:=lf h
  have z:=se (iq c)<|sv (dW c)<|sv (d5 c)<|cq (bL.ln c.By)<|cY (e:=.exit 0) (s1:=jX (.inr o7)) (C8 name c.By (c.By.length:Int) 0 bo7)<|en (aI (rP (.bool false))<|trivial)
  exact bO qcs call125 func125 (c:=qe3) rfl (aI (d9 c) (aI trivial trivial)) z<|by kernel_rfl
section
variable(v:waA)(lo:Int)(n:Nat)(t9:Int)(w0:List af)(out:waA)(t10:Int)
def jJ:aC:=be 33 [(0,sl cS v),(1,.bsl 0 (lP Pg 9 lo) n),(5,sl cS out),(9,.int .i64 t9),(10,.int .i64 t10)] [.cells (pN cS w0) []] [((5,0),9)]
def sM(o:waA):aC:=be 33 [(1,.bsl 0 (lP Pg 9 lo) n),(5,sl cS o)] [.cells (pN cS w0) []] [((5,0),9)]
def Ax:Option ((waA×Int)⊕(waA)):=
 if(decide (t10<t9))=true then
  (cz v t10).bind fun x2=>
  (yH out x2).bind fun r3=>
  some (.inl (r3,aS (t10+1)))
 else
  some (.inr out)
def wP:Option waA:=loop (fun(zz:waA×Int)=>Ax v t9 zz.1 zz.2) (out,t10)
theorem HP{y:(waA×Int)⊕(waA)}(h:Ax v t9 out t10=some y):aV Pg GE 1 (cA Sv 119) (LQ (fun(zz:waA×Int)=>jJ v lo n t9 w0 zz.1 zz.2) (fun _=>.exit 0) (sM lo n w0) y) (jJ v lo n t9 w0 out t10):=by
 rcases bj h with⟨c1,h⟩|⟨c1,h⟩
 ·obtain⟨x2,bx2,h⟩:=ay h
  obtain⟨r3,br3,h⟩:=ay h
  obtain rfl:=lf h
  exact oo RD (sg 0 c1<|sv (bq.ia (k:=.i64) bx2)<|sv (dB Bg (.str x2) [])<|bz (BE br3)<|eF .normal (jJ v lo n t9 w0 r3 (aS (t10+1))))<|by kernel_rfl
 ·obtain rfl:=lf h
  have z:=sg 0 c1<|eF (.exit 0) (sM lo n w0 out)
  exact gg RD (by intro hx;cases hx) z<|by kernel_rfl
theorem Je{x:waA}(h:wP v t9 out t10=some x):aV Pg GE 1 (.loop (cA Sv 119)) (EX (.exit 0) (sM lo n w0 x)) (jJ v lo n t9 w0 out t10):=
 aV.loop (S:=fun(zz:waA×Int)=>jJ v lo n t9 w0 zz.1 zz.2) (ex:=(fun _=>.exit 0)) (s:=(out,t10)) h fun zz y hy=>HP v lo n t9 w0 zz.1 zz.2 hy
end
section
variable(lo:Int)(n:Nat)(t21:Int)(w0:List af)(out:waA)(t22:Int)
def jK:aC:=be 33 [(1,.bsl 0 (lP Pg 9 lo) n),(5,sl cS out),(21,.int .i64 t21),(22,.int .i64 t22)] [.cells (pN cS w0) []] [((5,0),9)]
def sN(o:waA):aC:=be 33 [(5,sl cS o)] [.cells (pN cS w0) []] [((5,0),9)]
def hO:Option ((waA×Int)⊕(waA)):=
 if(decide (t22<t21))=true then
  (qha lo n w0 t22).bind fun x6=>
  (yH out x6).bind fun r7=>
  some (.inl (r7,aS (t22+1)))
 else
  some (.inr out)
def qN:Option waA:=loop (fun(zz:waA×Int)=>hO lo n t21 w0 zz.1 zz.2) (out,t22)
theorem HQ{y:(waA×Int)⊕(waA)}(h:hO lo n t21 w0 out t22=some y):aV Pg GE 1 (cA Sv 247) (LQ (fun(zz:waA×Int)=>jK lo n t21 w0 zz.1 zz.2) (fun _=>.exit 2) (sN w0) y) (jK lo n t21 w0 out t22):=by
 rcases bj h with⟨c5,h⟩|⟨c5,h⟩
 ·obtain⟨x6,bx6,h⟩:=ay h
  obtain⟨r7,br7,h⟩:=ay h
  obtain rfl:=lf h
  exact oo RD (sg 0 c5<|sv (bq.iaM 0 (k:=.i64) bx6)<|sv (bq.ldM (fun r=>dB Bg (.str x6) r) bx6)<|bz (BE br7)<|eF .normal (jK lo n t21 w0 r7 (aS (t22+1))))<|by kernel_rfl
 ·obtain rfl:=lf h
  have z:=sg 0 c5<|eF (.exit 2) (sN w0 out)
  exact gg RD (by intro hx;cases hx) z<|by kernel_rfl
theorem Jf{x:waA}(h:qN lo n t21 w0 out t22=some x):aV Pg GE 1 (.loop (cA Sv 247)) (EX (.exit 2) (sN w0 x)) (jK lo n t21 w0 out t22):=
 aV.loop (S:=fun(zz:waA×Int)=>jK lo n t21 w0 zz.1 zz.2) (ex:=(fun _=>.exit 2)) (s:=(out,t22)) h fun zz y hy=>HQ lo n t21 w0 zz.1 zz.2 hy
end
def yF(a:waA)(lo:Int)(n:Nat)(k0:List af):Option waA:=
 (wP a (a.length:Int) ([]:List af) 0).bind fun o4=>
 (qN lo n (n:Int) k0 o4 0).bind fun o8=>
 some o8
theorem OY{a:waA}{lo:Int}{n:Nat}{k0:List af}{r:waA}(h:yF a lo n k0=some r):C Pg GE 121 [sl cS a,.bsl 0 (lP Pg 9 lo) n] [] [.cells (pN cS k0) []] (sl cS r) [(0,9)] [.cells (pN cS k0) []]:=by
 obtain⟨o4,bo4,h⟩:=ay h
 obtain⟨o8,bo8,h⟩:=ay h
 obtain rfl:=lf h
 have z:=cq (bq.ln a)<|cY (Je a lo n (a.length:Int) k0 ([]:List af) 0 bo4)<|cq (bq.lnR 0 (lP Pg 9 lo) n)<|cY (Jf lo n (n:Int) k0 o4 0 bo8)<|en (aI (rP (sl cS o8))<|aI (up (n:=1) (aj dN o8))<|aI (rL [.cells (pN cS k0) []])<|(aI (qeF 1 dN k0) trivial))
 exact C.evGp (A:=RD) mixed (m:=1) (c:=Sv) rfl call121 func121 rfl z<|by kernel_rfl
end Go.Proofs.YtbaamopmfmpfaaaGreatDoor
