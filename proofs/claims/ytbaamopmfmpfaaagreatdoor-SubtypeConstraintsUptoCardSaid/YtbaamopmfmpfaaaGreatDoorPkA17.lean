/- PROVED: a part of the proof. Conditions: none. -/
import Derived.Test.YtbaamopmfmpfaaaGreatDoorPkA16
noncomputable section
namespace Go.Proofs.YtbaamopmfmpfaaaGreatDoor
open Go Go.Proofs.Tryz
set_option linter.unusedVariables false
set_option maxRecDepth 100000
noncomputable def qjZ:Code:=f55.body.getD .skip
def qjE:List Nat:=[7,18]
section
variable(used:waA)(base:ag)(s:ag)(n:Int)
def me:aA:=be 19 [(0,sl cS used),(1,.str base),(5,.str s),(6,.int .i64 n)] [] []
def wz(o:ag):aA:=be 19 [(5,.str o)] [] []
def dm:Option ((ag×Int)⊕(ag)):=
 (gI used s).bind fun r1=>
 if(decide (r1>=0))=true then
  (IQ n).bind fun r3=>
  (qgH base r3).bind fun s4=>
  some (.inl (s4,aR (n+1)))
 else
  some (.inr s)
def kc:Option ag:=loop (fun(zz:ag×Int)=>dm used base zz.1 zz.2) (s,n)
theorem KJ{y:(ag×Int)⊕(ag)}(h:dm used base s n=some y):aU Pg GE 0 (cA qjZ 119) (LQ (fun(zz:ag×Int)=>me used base zz.1 zz.2) (fun _=>.exit 0) wz y) (me used base s n):=by
 obtain⟨r1,br1,h⟩:=ay h
 rcases bj h with⟨c2,h⟩|⟨c2,h⟩
 ·obtain⟨r3,br3,h⟩:=ay h
  obtain⟨s4,bs4,h⟩:=ay h
  obtain rfl:=lf h
  exact n9 qjE (bz (j6 br1)<|sg 0 c2<|bz (Wc br3)<|sv (VS (P:=Pg) (t:=9) bs4)<|eF .normal (me used base s4 (aR (n+1))))<|by kernel_rfl
 ·obtain rfl:=lf h
  have z:=bz (j6 br1)<|sg 0 c2<|eF (.exit 0) (wz s)
  exact f6 qjE (by intro hx;cases hx) z<|by kernel_rfl
theorem ML{x:ag}(h:kc used base s n=some x):aU Pg GE 0 (.loop (cA qjZ 119)) (EX (.exit 0) (wz x)) (me used base s n):=
 aU.loop (S:=fun(zz:ag×Int)=>me used base zz.1 zz.2) (ex:=(fun _=>.exit 0)) (s:=(s,n)) h fun zz y hy=>KJ used base zz.1 zz.2 hy
end
def sA(used:waA)(base:ag):Option ag:=
 (kc used base base 1).bind fun o5=>
 some o5
theorem Bf{used:waA}{base:ag}{r:ag}(h:sA used base=some r):CC Pg GE 55 [sl cS used,.str base] (.str r) []:=by
 obtain⟨o5,bo5,h⟩:=ay h
 obtain rfl:=lf h
 have z:=cW (ML used base base 1 bo5)<|en (aI (rP (.str o5))<|trivial)
 exact bN qjE call55 func55 (c:=qjZ) rfl (aI (aj dQ used) (aI trivial trivial)) z<|by kernel_rfl
noncomputable def qlt:Code:=f49.body.getD .skip
def qld:List Nat:=[]
def gR(name:ag):Option aa:=
 some (⟨3,name,0,([]:List aa)⟩:aa)
theorem pA{name:ag}{r:aa}(h:gR name=some r):CC Pg GE 49 [.str name] (.agg (ac r)) [(3,36)]:=by
 obtain rfl:=lf h
 have z:=sx hO<|sb (kj 3 name) (kh 3 name)<|sy (aJ (⟨3,name,0,([]:List aa)⟩:aa))<|en (aI (dj (⟨3,name,0,([]:List aa)⟩:aa))<|aI (ah (⟨3,name,0,([]:List aa)⟩:aa))<|rT)
 exact bN qld call49 func49 (c:=qlt) rfl (aI trivial trivial) z<|by kernel_rfl
noncomputable def qlx:Code:=f74.body.getD .skip
def qlh:List Nat:=[]
def We:Option aa:=
 some (⟨2,([]:ag),1,([]:List aa)⟩:aa)
theorem Wf{r:aa}(h:We=some r):CC Pg GE 74 [] (.agg (ac r)) [(3,36)]:=by
 obtain rfl:=lf h
 have z:=sx hO<|sb (ri 2 1) (rh 2 1)<|sy (aJ (⟨2,([]:ag),1,([]:List aa)⟩:aa))<|en (aI (dj (⟨2,([]:ag),1,([]:List aa)⟩:aa))<|aI (ah (⟨2,([]:ag),1,([]:List aa)⟩:aa))<|rT)
 exact bN qlh call74 func74 (c:=qlx) rfl trivial z<|by kernel_rfl
abbrev qX:=(aa->waA->waB->Option aa)
abbrev wu(R:qX):Prop:=∀(p:aa) (names:waA) (a:waB) (r:aa),R p names a=some r->CC Pg GE 94 [.agg (ac p),sl cS names,sl ac a] (.agg (ac r)) []
noncomputable def qjP:Code:=f111.body.getD .skip
def qjx:List Nat:=[]
def Wi(p:aa)(kids:waB):Option aa:=
 some (⟨p.Op,p.Name,p.N,kids⟩:aa)
theorem Wj{p:aa}{kids:waB}{r:aa}(h:Wi p kids=some r):CC Pg GE 111 [.agg (ac p),sl ac kids] (.agg (ac r)) []:=by
 obtain rfl:=lf h
 have z:=se (bS p)<|sx hO<|sv (bE p)<|sv (bF p)<|sv (cp p)<|sv (cO p)<|sv (dD p)<|sv (dU p)<|sv (Lv p.Op p.Name p.N kids)<|sx (cj (⟨p.Op,p.Name,p.N,kids⟩:aa))<|en (aI (dj (⟨p.Op,p.Name,p.N,kids⟩:aa))<|(ah (⟨p.Op,p.Name,p.N,kids⟩:aa)))
 exact bN qjx call111 func111 (c:=qjP) rfl (aI (ah p) (aI (aj ah kids) trivial)) z<|by kernel_rfl
noncomputable def qht:Code:=f94.body.getD .skip
def qeq:List Nat:=[37]
section
variable(names:waA)(v:waB)(p:aa)(i:Int)(m:waB)
def IX:aA:=be 48 [(1,sl cS names),(2,sl ac v),(3,.eptr (ac p)),(6,.bptr 1 0),(7,.int .i64 i)] [.dead,.cells [.int .i64 0,.str ([]:ag),.int .i64 0,sl ac m] [(3,36)]] []
def qM(o:Bool):aA:=be 48 [(1,sl cS names),(2,sl ac v),(3,.eptr (ac p)),(6,.bptr 1 0),(7,.int .i64 i),(25,.bool o)] [.dead,.cells [.int .i64 0,.str ([]:ag),.int .i64 0,sl ac m] [(3,36)]] []
def uE:Option Bool:=
 if(decide (i>=0))=true then
  some (decide (i<(v.length:Int)))
 else
  some false
theorem HB{x:Bool}(h:uE v i=some x):aU Pg GE 0 (cA qht 106) (EX .normal (qM names v p i m x)) (IX names v p i m):=by
 rcases bj h with⟨c4,h⟩|⟨c4,h⟩
 ·obtain rfl:=lf h
  exact cd qeq (sg 3 c4<|cm (bL.ln v)<|eF .normal (qM names v p i m (decide (i<(v.length:Int)))))<|by kernel_rfl
 ·obtain rfl:=lf h
  exact cd qeq (sg 3 c4<|eF .normal (qM names v p i m false))<|by kernel_rfl
end
section
variable(names:waA)(v:waB)(p:aa)(m:waB)
def IW:aA:=be 48 [(1,sl cS names),(2,sl ac v),(3,.eptr (ac p)),(6,.bptr 1 0)] [.dead,.cells [.int .i64 0,.str ([]:ag),.int .i64 0,sl ac m] [(3,36)]] []
def lO(o:(Int×ag×Int×waB)⊕(Unit)):Exit:=match o with
 |(.inl _)=>.ret
 |(.inr _)=>.normal
def gk(o:(Int×ag×Int×waB)⊕(Unit)):aA:=match o with
 |(.inl o)=>be 48 [(6,.bptr 1 0)] [.dead,.cells [.int .i64 o.1,.str o.2.1,.int .i64 o.2.2.1,sl ac o.2.2.2] []] []
 |(.inr o)=>be 48 [(1,sl cS names),(2,sl ac v),(3,.eptr (ac p)),(6,.bptr 1 0)] [.dead,.cells [.int .i64 0,.str ([]:ag),.int .i64 0,sl ac m] [(3,36)]] []
def py:Option ((Int×ag×Int×waB)⊕(Unit)):=
 if(p.Op==3)=true then
  (gI names p.Name).bind fun r3=>
  (uE v r3).bind fun o5=>
  if o5=true then
   (cz v r3).bind fun x8=>
   some (.inl (x8.Op,x8.Name,x8.N,x8.Kids))
  else
   some (.inr ())
 else
  some (.inr ())
theorem wI{x:(Int×ag×Int×waB)⊕(Unit)}(h:py names v p=some x):aU Pg GE 0 (cA qht 6) (EX (lO x) (gk names v p m x)) (IW names v p m):=by
 have p2:=fun{sc F} (r:PS sc F)=>sv (bE p)<|sv (bF p)<|r
 rcases bj h with⟨c1,h⟩|⟨c1,h⟩
 ·obtain⟨r3,br3,h⟩:=ay h
  obtain⟨o5,bo5,h⟩:=ay h
  have p7:=fun{sc F} (r:PS sc F)=>p2<|sg 0 c1<|sv (cp p)<|sv (cO p)<|bz (j6 br3)<|kr 0<|cW (HB names v p r3 m bo5)<|r
  rcases bj h with⟨c6,h⟩|⟨c6,h⟩
  ·obtain⟨x8,bx8,h⟩:=ay h
   obtain rfl:=lf h
   exact cd qeq (p7<|sg 0 c6<|sv (bL.ia (k:=.i64) bx8)<|sv (bh x8)<|sx (cj x8)<|eF (lO (.inl (x8.Op,x8.Name,x8.N,x8.Kids))) (gk names v p m (.inl (x8.Op,x8.Name,x8.N,x8.Kids))))<|by kernel_rfl
  ·obtain rfl:=lf h
   exact cd qeq (p7<|sg 0 c6<|eF (lO (.inr ())) (gk names v p m (.inr ())))<|by kernel_rfl
 ·obtain rfl:=lf h
  exact cd qeq (p2<|sg 0 c1<|eF (lO (.inr ())) (gk names v p m (.inr ())))<|by kernel_rfl
end
section
variable(R104:qX)(names:waA)(v:waB)(p:aa)(t31:waB)(t32:Int)(m:waB)(out:waB)(t33:Int)
def iR:aA:=be 48 [(1,sl cS names),(2,sl ac v),(3,.eptr (ac p)),(6,.bptr 1 0),(8,sl ac out),(31,sl ac t31),(32,.int .i64 t32),(33,.int .i64 t33)] [.dead,.cells [.int .i64 0,.str ([]:ag),.int .i64 0,sl ac m] [(3,36)]] [((8,0),36)]
def qN(o:waB):aA:=be 48 [(3,.eptr (ac p)),(6,.bptr 1 0),(8,sl ac o)] [.dead,.cells [.int .i64 0,.str ([]:ag),.int .i64 0,sl ac m] [(3,36)]] [((8,0),36)]
def yz:Option ((waB×Int)⊕(waB)):=
 if(decide (t33<t32))=true then
  (cz t31 t33).bind fun x11=>
  (R104 x11 names v).bind fun r12=>
  (app out ([r12]:List aa)).bind fun l13=>
  some (.inl (l13,aR (t33+1)))
 else
  some (.inr out)
def uF:Option waB:=loop (fun(zz:waB×Int)=>yz R104 names v t31 t32 zz.1 zz.2) (out,t33)
theorem Gr(hR104:wu R104){y:(waB×Int)⊕(waB)}(h:yz R104 names v t31 t32 out t33=some y):aU Pg GE 0 (cA qht 247) (LQ (fun(zz:waB×Int)=>iR names v p t31 t32 m zz.1 zz.2) (fun _=>.exit 0) (qN p m) y) (iR names v p t31 t32 m out t33):=by
 rcases bj h with⟨c10,h⟩|⟨c10,h⟩
 ·obtain⟨x11,bx11,h⟩:=ay h
  obtain⟨r12,br12,h⟩:=ay h
  obtain⟨l13,bl13,h⟩:=ay h
  obtain rfl:=lf h
  have z:=sg 0 c10<|sv (bL.ia (k:=.i64) bx11)<|sv (bh x11)<|sx hO<|sx (cj x11)<|sv (bT x11 [])<|bz (hR104 _ _ _ _ br12)<|sv (bL.mk' (v:=dW) cK ([r12]:List aa) 1 (by kernel_rfl))<|sv (bL.ap bl13)<|uz 0 .normal (iR names v p t31 t32 m l13 (aR (t33+1))) rfl (dC (aI (up (aj dQ names)) (aI (up (aj ah v)) (aI (ij (ah p)) (aI (cV rfl) (aI (up (aj ah l13)) (aI (up (aj ah t31)) (aI trivial (aI trivial trivial))))))))) (aI trivial (aI (aI trivial (aI trivial (aI trivial (aI (up (aj ah m)) trivial)))) trivial))
  exact df (A:=qeq) mixed z<|by kernel_rfl
 ·obtain rfl:=lf h
  have z:=sg 0 c10<|eF (.exit 0) (qN p m out)
  exact f6 qeq (by intro hx;cases hx) z<|by kernel_rfl
theorem HC(hR104:wu R104){x:waB}(h:uF R104 names v t31 t32 out t33=some x):aU Pg GE 0 (.loop (cA qht 247)) (EX (.exit 0) (qN p m x)) (iR names v p t31 t32 m out t33):=
 aU.loop (S:=fun(zz:waB×Int)=>iR names v p t31 t32 m zz.1 zz.2) (ex:=(fun _=>.exit 0)) (s:=(out,t33)) h fun zz y hy=>Gr R104 names v p t31 t32 m zz.1 zz.2 hR104 hy
end
def qL(R104:qX)(p:aa)(names:waA)(a:waB):Option aa:=
 (py names a p).bind fun o9=>match o9 with
 |(.inl o9)=>
  some (⟨o9.1,o9.2.1,o9.2.2.1,o9.2.2.2⟩:aa)
 |(.inr o9)=>
  (uF R104 names a p.Kids (p.Kids.length:Int) ([]:List aa) 0).bind fun o14=>
  (Wi p o14).bind fun r15=>
  some r15
theorem KS(R104:qX)(hR104:wu R104){p:aa}{names:waA}{a:waB}{r:aa}(h:qL R104 p names a=some r):CC Pg GE 94 [.agg (ac p),sl cS names,sl ac a] (.agg (ac r)) []:=by
 obtain⟨o9,bo9,h⟩:=ay h
 rcases o9 with o9|o9
 ·obtain rfl:=lf h
  have z:=se (bS p)<|sx hO<|kr 0<|cW (e:=.ret) (s1:=gk names a p ([]:List aa) (.inl o9)) (wI names a p ([]:List aa) bo9)<|en (aI (dj (⟨o9.1,o9.2.1,o9.2.2.1,o9.2.2.2⟩:aa))<|(ah (⟨o9.1,o9.2.1,o9.2.2.1,o9.2.2.2⟩:aa)))
  exact bN qeq call94 func94 (c:=qht) rfl (aI (ah p) (aI (aj dQ names) (aI (aj ah a) trivial))) z<|by kernel_rfl
 ·obtain⟨o14,bo14,h⟩:=ay h
  obtain⟨r15,br15,h⟩:=ay h
  obtain rfl:=lf h
  have z:=se (bS p)<|sx hO<|kr 0<|cW (e:=.normal) (s1:=gk names a p ([]:List aa) (.inr o9)) (wI names a p ([]:List aa) bo9)<|sv (bA p)<|sv (bC p)<|cm (bL.ln p.Kids)<|cW (HC R104 names a p p.Kids (p.Kids.length:Int) ([]:List aa) ([]:List aa) 0 hR104 bo14)<|sv (bh p)<|bz (Wj br15)<|sx (cj r15)<|en (aI (dj r15)<|(ah r15))
  exact bN qeq call94 func94 (c:=qht) rfl (aI (ah p) (aI (aj dQ names) (aI (aj ah a) trivial))) z<|by kernel_rfl
def wH:((aa×waA×waB)->Option aa)->(aa×waA×waB)->Option aa:=fun(rec:(aa×waA×waB)->Option aa) (x:aa×waA×waB)=>qL (fun p names a=>rec (p,names,a)) x.1 x.2.1 x.2.2
def nk(p:aa)(names:waA)(a:waB):Option aa:=kJ wH (p,names,a)
theorem uG{p:aa}{names:waA}{a:waB}{r:aa}(h:nk p names a=some r):CC Pg GE 94 [.agg (ac p),sl cS names,sl ac a] (.agg (ac r)) []:=
 cy (F:=wH) (M:=fun(x:aa×waA×waB) (r:aa)=>CC Pg GE 94 [.agg (ac x.1),sl cS x.2.1,sl ac x.2.2] (.agg (ac r)) []) (fun rec hrec x r h=>KS _ (fun p names a r h=>hrec (p,names,a) r h) h) h
noncomputable def qly:Code:=f75.body.getD .skip
def qli:List Nat:=[]
def An(p:aa)(name:ag)(a:aa):Option aa:=
 (nk p ([name]:List ag) ([a]:List aa)).bind fun r1=>
 some r1
theorem IY{p:aa}{name:ag}{a:aa}{r:aa}(h:An p name a=some r):CC Pg GE 75 [.agg (ac p),.str name,.agg (ac a)] (.agg (ac r)) []:=by
 obtain⟨r1,br1,h⟩:=ay h
 obtain rfl:=lf h
 have z:=se (bS p)<|se (bS a)<|sx hO<|sv (bh p)<|sv (bp.mk' (v:=PVal.str) E8 ([name]:List ag) 1 (by kernel_rfl))<|sv (bh a)<|sv (bL.mk' (v:=dW) cK ([a]:List aa) 1 (by kernel_rfl))<|bz (uG br1)<|sx (cj r1)<|en (aI (dj r1)<|(ah r1))
 exact bN qli call75 func75 (c:=qly) rfl (aI (ah p) (aI trivial (aI (ah a) trivial))) z<|by kernel_rfl
noncomputable def qjY:Code:=f48.body.getD .skip
def qi1:List Nat:=[]
section
variable(t:ae)(v:aa)(m:waB)
def Wp:aA:=be 18 [(2,.eptr (af t)),(3,.eptr (ac v)),(4,.bptr 2 0)] [.dead,.dead,.cells [.int .i64 0,.str ([]:ag),.int .i64 0,sl ac m] [(3,36)]] []
def El(o:Bool):aA:=be 18 [(2,.eptr (af t)),(3,.eptr (ac v)),(4,.bptr 2 0),(12,.bool o)] [.dead,.dead,.cells [.int .i64 0,.str ([]:ag),.int .i64 0,sl ac m] [(3,36)]] []
def Li:Option Bool:=
 if(t.Op==6)=true then
  some true
 else
  (At t.Pred).bind fun r3=>
  some r3
theorem Uy{x:Bool}(h:Li t=some x):aU Pg GE 0 (cA qjY 12) (EX .normal (El t v m x)) (Wp t v m):=by
 have p2:=fun{sc F} (r:PS sc F)=>sv (aC t)<|sv (aD t)<|r
 rcases bj h with⟨c1,h⟩|⟨c1,h⟩
 ·obtain rfl:=lf h
  exact cd qi1 (p2<|sg 4 c1<|eF .normal (El t v m true))<|by kernel_rfl
 ·obtain⟨r3,br3,h⟩:=ay h
  obtain rfl:=lf h
  exact cd qi1 (p2<|sg 4 c1<|sv (dE t)<|sv (dF t)<|bz (EC br3)<|eF .normal (El t v m r3))<|by kernel_rfl
end
def Pm(t:ae)(a:aa):Option aa:=
 (Li t).bind fun o4=>
 if o4=true then
  We.bind fun r7=>
  some r7
 else
  (An t.Pred ([118]:ag) a).bind fun r8=>
  some r8
theorem SQ{t:ae}{a:aa}{r:aa}(h:Pm t a=some r):CC Pg GE 48 [.agg (af t),.agg (ac a)] (.agg (ac r)) []:=by
 obtain⟨o4,bo4,h⟩:=ay h
 have p6:=fun{sc F} (r:PS sc F)=>se (bD t)<|se (bS a)<|sx hO<|kr 1<|cW (Uy t a ([]:List aa) bo4)<|r
 rcases bj h with⟨c5,h⟩|⟨c5,h⟩
 ·obtain⟨r7,br7,h⟩:=ay h
  obtain rfl:=lf h
  have z:=p6<|sg 0 c5<|bz (Wf br7)<|sy (aJ r7)<|en (aI (dj r7)<|(ah r7))
  exact bN qi1 call48 func48 (c:=qjY) rfl (aI (ak t) (aI (ah a) trivial)) z<|by kernel_rfl
 ·obtain⟨r8,br8,h⟩:=ay h
  obtain rfl:=lf h
  have z:=p6<|sg 0 c5<|sv (dE t)<|sv (dF t)<|sv (bh a)<|bz (IY br8)<|sx (cj r8)<|en (aI (dj r8)<|(ah r8))
  exact bN qi1 call48 func48 (c:=qjY) rfl (aI (ak t) (aI (ah a) trivial)) z<|by kernel_rfl
abbrev yM:=(ae->Option ae)
abbrev Dv(R:yM):Prop:=∀(t:ae) (r:ae),R t=some r->CC Pg GE 72 [.agg (af t)] (.agg (af r)) [(2,38),(3,9),(7,36),(8,36)]
noncomputable def qj4:Code:=f72.body.getD .skip
def qjI:List Nat:=[19]
section
variable(R108:yM)(t12:waC)(t13:Int)(m:waC)(m2:waB)(m3:Int)(m4:ag)(t14:Int)(m5:waC)
def mo:aA:=be 27 [(2,.bptr 1 0),(3,.bptr 2 0),(12,sl af t12),(13,.int .i64 t13),(14,.int .i64 t14)] [.dead,.cells [.int .i64 0,.str ([]:ag),sl af m,sl cS ([]:List ag),.int .i64 0,.str ([]:ag),.int .i64 0,sl ac m2,sl ac m2] [(2,38),(3,9),(7,36),(8,36)],.cells [.int .i64 m3,.str m4,sl af m5,sl cS ([]:List ag),.int .i64 0,.str ([]:ag),.int .i64 0,sl ac m2,sl ac m2] [(2,38),(3,9),(7,36),(8,36)]] []
def wK(o:waC):aA:=be 27 [(2,.bptr 1 0),(3,.bptr 2 0)] [.dead,.cells [.int .i64 0,.str ([]:ag),sl af m,sl cS ([]:List ag),.int .i64 0,.str ([]:ag),.int .i64 0,sl ac m2,sl ac m2] [(2,38),(3,9),(7,36),(8,36)],.cells [.int .i64 m3,.str m4,sl af o,sl cS ([]:List ag),.int .i64 0,.str ([]:ag),.int .i64 0,sl ac m2,sl ac m2] [(2,38),(3,9),(7,36),(8,36)]] []
def DY:Option ((Int×waC)⊕(waC)):=
 if(decide (t14<t13))=true then
  (cz t12 t14).bind fun x2=>
  (R108 x2).bind fun r3=>
  (app m5 ([r3]:List ae)).bind fun l4=>
  some (.inl (aR (t14+1),l4))
 else
  some (.inr m5)
def Bx:Option waC:=loop (fun(zz:Int×waC)=>DY R108 t12 t13 zz.1 zz.2) (t14,m5)
theorem KW(hR108:Dv R108){y:(Int×waC)⊕(waC)}(h:DY R108 t12 t13 t14 m5=some y):aU Pg GE 0 (cA qj4 119) (LQ (fun(zz:Int×waC)=>mo t12 t13 m m2 m3 m4 zz.1 zz.2) (fun _=>.exit 0) (wK m m2 m3 m4) y) (mo t12 t13 m m2 m3 m4 t14 m5):=by
 rcases bj h with⟨c1,h⟩|⟨c1,h⟩
 ·obtain⟨x2,bx2,h⟩:=ay h
  obtain⟨r3,br3,h⟩:=ay h
  obtain⟨l4,bl4,h⟩:=ay h
  obtain rfl:=lf h
  have z:=sg 0 c1<|sv (ck.ia (k:=.i64) bx2)<|sv (aV x2)<|sx tc<|sx (ey x2)<|lY [0,1,0,4,12,31,63,127]<|sv (cU x2 [])<|bz (hR108 _ _ br3)<|sv (ck.mk' (v:=jC) eO ([r3]:List ae) 1 (by kernel_rfl))<|sv (ck.ap bl4)<|VP (rfl:bK (sl af l4)=some [sl af l4])<|uz 0 .normal (mo t12 t13 m m2 m3 m4 (aR (t14+1)) l4) rfl (dC (aI (cV rfl) (aI (cV rfl) (aI (up (aj ak t12)) (aI trivial (aI trivial trivial)))))) (aI trivial (aI (aI trivial (aI trivial (aI (up (aj ak m)) (aI (up (aj dQ ([]:List ag))) (aI trivial (aI trivial (aI trivial (aI (up (aj ah m2)) (aI (up (aj ah m2)) trivial))))))))) (aI (aI trivial (aI trivial (aI (up (aj ak l4)) (aI (up (aj dQ ([]:List ag))) (aI trivial (aI trivial (aI trivial (aI (up (aj ah m2)) (aI (up (aj ah m2)) trivial))))))))) trivial)))
  exact df (A:=qjI) mixed z<|by kernel_rfl
 ·obtain rfl:=lf h
  have z:=sg 0 c1<|eF (.exit 0) (wK m m2 m3 m4 m5)
  exact f6 qjI (by intro hx;cases hx) z<|by kernel_rfl
theorem MZ(hR108:Dv R108){x:waC}(h:Bx R108 t12 t13 t14 m5=some x):aU Pg GE 0 (.loop (cA qj4 119)) (EX (.exit 0) (wK m m2 m3 m4 x)) (mo t12 t13 m m2 m3 m4 t14 m5):=
 aU.loop (S:=fun(zz:Int×waC)=>mo t12 t13 m m2 m3 m4 zz.1 zz.2) (ex:=(fun _=>.exit 0)) (s:=(t14,m5)) h fun zz y hy=>KW R108 t12 t13 m m2 m3 m4 zz.1 zz.2 hR108 hy
end
def yF(R108:yM)(t:ae):Option ae:=
 (Bx R108 t.Args (t.Args.length:Int) 0 ([]:List ae)).bind fun o5=>
 some (⟨t.Op,t.Name,o5,([]:List ag),(⟨0,([]:ag),0,([]:List aa)⟩:aa),([]:List aa)⟩:ae)
theorem RF(R108:yM)(hR108:Dv R108){t:ae}{r:ae}(h:yF R108 t=some r):CC Pg GE 72 [.agg (af t)] (.agg (af r)) [(2,38),(3,9),(7,36),(8,36)]:=by
 obtain⟨o5,bo5,h⟩:=ay h
 obtain rfl:=lf h
 have z:=se (bD t)<|sx tc<|sv (aC t)<|sv (aD t)<|sv (cq t)<|sv (cP t)<|sb (JH t.Op t.Name) (JD t.Op t.Name)<|sx tc<|sy (bu (⟨t.Op,t.Name,([]:List ae),([]:List ag),(⟨0,([]:ag),0,([]:List aa)⟩:aa),([]:List aa)⟩:ae))<|sv (aK t)<|sv (aL t)<|cm (ck.ln t.Args)<|cW (MZ R108 t.Args (t.Args.length:Int) ([]:List ae) ([]:List aa) t.Op t.Name 0 ([]:List ae) hR108 bo5)<|sz (cU (⟨t.Op,t.Name,o5,([]:List ag),(⟨0,([]:ag),0,([]:List aa)⟩:aa),([]:List aa)⟩:ae) [])<|sy (bu (⟨t.Op,t.Name,o5,([]:List ag),(⟨0,([]:ag),0,([]:List aa)⟩:aa),([]:List aa)⟩:ae))<|en (aI (hX (⟨t.Op,t.Name,o5,([]:List ag),(⟨0,([]:ag),0,([]:List aa)⟩:aa),([]:List aa)⟩:ae))<|aI (ak (⟨t.Op,t.Name,o5,([]:List ag),(⟨0,([]:ag),0,([]:List aa)⟩:aa),([]:List aa)⟩:ae))<|rT)
 exact bN qjI call72 func72 (c:=qj4) rfl (aI (ak t) trivial) z<|by kernel_rfl
def DX:(ae->Option ae)->(ae)->Option ae:=fun(rec:ae->Option ae) (x:ae)=>yF (fun t=>rec t) x
def KV(t:ae):Option ae:=kJ DX t
theorem Uq{t:ae}{r:ae}(h:KV t=some r):CC Pg GE 72 [.agg (af t)] (.agg (af r)) [(2,38),(3,9),(7,36),(8,36)]:=
 cy (F:=DX) (M:=fun(x:ae) (r:ae)=>CC Pg GE 72 [.agg (af x)] (.agg (af r)) [(2,38),(3,9),(7,36),(8,36)]) (fun rec hrec x r h=>RF _ (fun t r h=>hrec t r h) h) h
noncomputable def qhq:Code:=f71.body.getD .skip
def qhh:List Nat:=[]
def Ye(t:ae):Option (ag×Bool):=
 if(t.Op==1)=true then
  some (([73,110,116]:ag),true)
 else
  if(t.Op==2)=true then
   some (([66,111,111,108]:ag),true)
  else
   if(t.Op==3)=true then
    some (([67,101,108,108]:ag),true)
   else
    if(t.Op==4)=true then
     if((t.Args.length:Int)==0)=true then
      some (t.Name,true)
     else
      some (([]:ag),false)
    else
     some (([]:ag),false)
theorem qaB{t:ae}{r:ag×Bool}(h:Ye t=some r):CC Pg GE 71 [.agg (af t)] (.tuple [.str r.1,.bool r.2]) []:=by
 have p2:=fun{sc F} (r:PS sc F)=>se (bD t)<|sv (aC t)<|sv (aD t)<|r
 rcases bj h with⟨c1,h⟩|⟨c1,h⟩
 ·obtain rfl:=lf h
  have z:=p2<|sg 0 c1<|en (aI (rP (.tuple [.str ([73,110,116]:ag),.bool true]))<|(aI trivial (aI trivial trivial)))
  exact bN qhh call71 func71 (c:=qhq) rfl (aI (ak t) trivial) z<|by kernel_rfl
 ·have p4:=fun{sc F} (r:PS sc F)=>p2<|sg 0 c1<|r
  rcases bj h with⟨c3,h⟩|⟨c3,h⟩
  ·obtain rfl:=lf h
   have z:=p4<|sg 0 c3<|en (aI (rP (.tuple [.str ([66,111,111,108]:ag),.bool true]))<|(aI trivial (aI trivial trivial)))
   exact bN qhh call71 func71 (c:=qhq) rfl (aI (ak t) trivial) z<|by kernel_rfl
  ·have p6:=fun{sc F} (r:PS sc F)=>p4<|sg 0 c3<|r
   rcases bj h with⟨c5,h⟩|⟨c5,h⟩
   ·obtain rfl:=lf h
    have z:=p6<|sg 0 c5<|en (aI (rP (.tuple [.str ([67,101,108,108]:ag),.bool true]))<|(aI trivial (aI trivial trivial)))
    exact bN qhh call71 func71 (c:=qhq) rfl (aI (ak t) trivial) z<|by kernel_rfl
   ·have p8:=fun{sc F} (r:PS sc F)=>p6<|sg 0 c5<|r
    rcases bj h with⟨c7,h⟩|⟨c7,h⟩
    ·have p10:=fun{sc F} (r:PS sc F)=>p8<|sg 0 c7<|sv (aK t)<|sv (aL t)<|cm (ck.ln t.Args)<|r
     rcases bj h with⟨c9,h⟩|⟨c9,h⟩
     ·obtain rfl:=lf h
      have z:=p10<|sg 0 c9<|sv (cq t)<|sv (cP t)<|en (aI (rP (.tuple [.str t.Name,.bool true]))<|(aI trivial (aI trivial trivial)))
      exact bN qhh call71 func71 (c:=qhq) rfl (aI (ak t) trivial) z<|by kernel_rfl
     ·obtain rfl:=lf h
      have z:=p10<|sg 0 c9<|en (aI (rP (.tuple [.str ([]:ag),.bool false]))<|(aI trivial (aI trivial trivial)))
      exact bN qhh call71 func71 (c:=qhq) rfl (aI (ak t) trivial) z<|by kernel_rfl
    ·obtain rfl:=lf h
     have z:=p8<|sg 0 c7<|en (aI (rP (.tuple [.str ([]:ag),.bool false]))<|(aI trivial (aI trivial trivial)))
     exact bN qhh call71 func71 (c:=qhq) rfl (aI (ak t) trivial) z<|by kernel_rfl
noncomputable def qls:Code:=f47.body.getD .skip
def qlc:List Nat:=[11]
def HX(t:ae):Option ag:=
 (KV t).bind fun r1=>
 (Ye r1).bind fun r2=>
 some r2.1
theorem RY{t:ae}{r:ag}(h:HX t=some r):CC Pg GE 47 [.agg (af t)] (.str r) []:=by
 obtain⟨r1,br1,h⟩:=ay h
 obtain⟨r2,br2,h⟩:=ay h
 obtain rfl:=lf h
 have z:=se (bD t)<|sv (aV t)<|bz (Uq br1)<|bz (qaB br2)<|en (aI (rP (.str r2.1))<|trivial)
 exact bN qlc call47 func47 (c:=qls) rfl (aI (ak t) trivial) z<|by kernel_rfl
noncomputable def qkL:Code:=f26.body.getD .skip
def qkC:List Nat:=[]
def ED(t:ae)(name:ag)(c:ai):Option ai:=
 (Jk t).bind fun r1=>
 if(!r1)=true then
  some c
 else
  (HX t).bind fun r4=>
  (gR name).bind fun r5=>
  (Pm t r5).bind fun r6=>
  some (⟨2,name,r4,r6,0,([c]:List ai)⟩:ai)
theorem Mi{t:ae}{name:ag}{c:ai}{r:ai}(h:ED t name c=some r):CC Pg GE 26 [.agg (af t),.str name,.agg (aw c)] (.agg (aw r)) []:=by
 obtain⟨r1,br1,h⟩:=ay h
 have p3:=fun{sc F} (r:PS sc F)=>se (bD t)<|se (rz c)<|sx td<|sv (aV t)<|bz (Mh br1)<|r
 rcases bj h with⟨c2,h⟩|⟨c2,h⟩
 ·obtain rfl:=lf h
  have z:=p3<|sg 0 c2<|sv (iZ c)<|sx (cF c)<|en (aI (cM c)<|(ba c))
  exact bN qkC call26 func26 (c:=qkL) rfl (aI (ak t) (aI trivial (aI (ba c) trivial))) z<|by kernel_rfl
 ·obtain⟨r4,br4,h⟩:=ay h
  obtain⟨r5,br5,h⟩:=ay h
  obtain⟨r6,br6,h⟩:=ay h
  obtain rfl:=lf h
  have z:=p3<|sg 0 c2<|lY [0,0,2,0,0,22,62,0,128,511,1023]<|sv (aV t)<|bz (RY br4)<|sv (aV t)<|bz (pA br5)<|bz (SQ br6)<|sv (iZ c)<|sv (mX.mk' (v:=lZ) g9 ([c]:List ai) 1 (by kernel_rfl))<|sv (ki 2 name r4 r6 ([c]:List ai))<|sx (cF (⟨2,name,r4,r6,0,([c]:List ai)⟩:ai))<|en (aI (cM (⟨2,name,r4,r6,0,([c]:List ai)⟩:ai))<|(ba (⟨2,name,r4,r6,0,([c]:List ai)⟩:ai)))
  exact bN qkC call26 func26 (c:=qkL) rfl (aI (ak t) (aI trivial (aI (ba c) trivial))) z<|by kernel_rfl
noncomputable def qji:Code:=f56.body.getD .skip
def qhK:List Nat:=[]
section
variable(name:ag)(m:aH)(i:Int)(m2:ag)(m3:waA)(m4:waF)(m5:waG)
def oK:aA:=be 28 [(1,.str name),(2,.eptr (aB m)),(4,.bptr 1 0),(6,.int .i64 i)] [.dead,.cells [.str m2,sl cS m3,sl bH m4,sl ec m5] [(1,9),(2,102),(3,73)]] []
def oL(o:(ag×waA×waF×waG)⊕(ag×waA×waF×waG)):Exit:=match o with
 |(.inl _)=>.ret
 |(.inr _)=>.exit 0
def lr(o:(ag×waA×waF×waG)⊕(ag×waA×waF×waG)):aA:=match o with
 |(.inl o)=>be 28 [(4,.bptr 1 0),(5,.bool true)] [.dead,.cells [.str o.1,sl cS o.2.1,sl bH o.2.2.1,sl ec o.2.2.2] []] []
 |(.inr o)=>be 28 [(4,.bptr 1 0)] [.dead,.cells [.str o.1,sl cS o.2.1,sl bH o.2.2.1,sl ec o.2.2.2] [(1,9),(2,102),(3,73)]] []
def jd:Option ((Int×ag×waA×waF×waG)⊕((ag×waA×waF×waG)⊕(ag×waA×waF×waG))):=
 if(decide (i<(m.Datas.length:Int)))=true then
  (cz m.Datas i).bind fun x3=>
  if(x3.Name==name)=true then
   (cz m.Datas i).bind fun x6=>
   some (.inr (.inl (x6.Name,x6.Vars,x6.Preds,x6.Cons)))
  else
   some (.inl (aR (i+1),m2,m3,m4,m5))
 else
  some (.inr (.inr (m2,m3,m4,m5)))
def D9:Option ((ag×waA×waF×waG)⊕(ag×waA×waF×waG)):=loop (fun(zz:Int×ag×waA×waF×waG)=>jd name m zz.1 zz.2.1 zz.2.2.1 zz.2.2.2.1 zz.2.2.2.2) (i,m2,m3,m4,m5)
theorem M5{y:(Int×ag×waA×waF×waG)⊕((ag×waA×waF×waG)⊕(ag×waA×waF×waG))}(h:jd name m i m2 m3 m4 m5=some y):aU Pg GE 0 (cA qji 55) (LQ (fun(zz:Int×ag×waA×waF×waG)=>oK name m zz.1 zz.2.1 zz.2.2.1 zz.2.2.2.1 zz.2.2.2.2) oL lr y) (oK name m i m2 m3 m4 m5):=by
 have p2:=fun{sc F} (r:PS sc F)=>sv (dh m)<|sv (di m)<|cm (Ky.ln m.Datas)<|r
 rcases bj h with⟨c1,h⟩|⟨c1,h⟩
 ·obtain⟨x3,bx3,h⟩:=ay h
  have p5:=fun{sc F} (r:PS sc F)=>p2<|sg 0 c1<|sv (dh m)<|sv (di m)<|sv (Ky.ia (k:=.i64) bx3)<|sv (Hb x3)<|sv (J0 x3)<|r
  rcases bj h with⟨c4,h⟩|⟨c4,h⟩
  ·obtain⟨x6,bx6,h⟩:=ay h
   obtain rfl:=lf h
   have z:=p5<|sg 0 c4<|sv (dh m)<|sv (di m)<|sv (Ky.ia (k:=.i64) bx6)<|sv (Xe x6)<|sx (AP x6)<|eF (oL (.inl (x6.Name,x6.Vars,x6.Preds,x6.Cons))) (lr (.inl (x6.Name,x6.Vars,x6.Preds,x6.Cons)))
   exact f6 qhK (by intro hx;cases hx) z<|by kernel_rfl
  ·obtain rfl:=lf h
   exact n9 qhK (p5<|sg 0 c4<|eF .normal (oK name m (aR (i+1)) m2 m3 m4 m5))<|by kernel_rfl
 ·obtain rfl:=lf h
  have z:=p2<|sg 0 c1<|eF (oL (.inr (m2,m3,m4,m5))) (lr (.inr (m2,m3,m4,m5)))
  exact f6 qhK (by intro hx;cases hx) z<|by kernel_rfl
theorem Ea{x:(ag×waA×waF×waG)⊕(ag×waA×waF×waG)}(h:D9 name m i m2 m3 m4 m5=some x):aU Pg GE 0 (.loop (cA qji 55)) (EX (oL x) (lr x)) (oK name m i m2 m3 m4 m5):=
 aU.loop (S:=fun(zz:Int×ag×waA×waF×waG)=>oK name m zz.1 zz.2.1 zz.2.2.1 zz.2.2.2.1 zz.2.2.2.2) (ex:=oL) (s:=(i,m2,m3,m4,m5)) h fun zz y hy=>M5 name m zz.1 zz.2.1 zz.2.2.1 zz.2.2.2.1 zz.2.2.2.2 hy
end
def I2(m:aH)(name:ag):Option (d8×Bool):=
 (D9 name m 0 ([]:ag) ([]:List ag) ([]:List cG) ([]:List ee)).bind fun o7=>match o7 with
 |(.inl o7)=>
  some ((⟨o7.1,o7.2.1,o7.2.2.1,o7.2.2.2⟩:d8),true)
 |(.inr o7)=>
  some ((⟨([]:ag),([]:List ag),([]:List cG),([]:List ee)⟩:d8),false)
theorem Wo{m:aH}{name:ag}{r:d8×Bool}(h:I2 m name=some r):CC Pg GE 56 [.agg (aB m),.str name] (.tuple [.agg (cH r.1),.bool r.2]) []:=by
 obtain⟨o7,bo7,h⟩:=ay h
 rcases o7 with o7|o7
 ·obtain rfl:=lf h
  have z:=se (jm m)<|sx Zd<|cW (e:=.ret) (s1:=lr (.inl o7)) (Ea name m 0 ([]:ag) ([]:List ag) ([]:List cG) ([]:List ee) bo7)<|en (aI (va9 PVal.tuple (jv (Gj (⟨o7.1,o7.2.1,o7.2.2.1,o7.2.2.2⟩:d8)) (jv (rP (.bool true)) (rfl:([]:List PVal)=[]))))<|(aI (ub (⟨o7.1,o7.2.1,o7.2.2.1,o7.2.2.2⟩:d8)) (aI trivial trivial)))
  exact bN qhK call56 func56 (c:=qji) rfl (aI (de m) (aI trivial trivial)) z<|by kernel_rfl
 ·obtain rfl:=lf h
  have z:=se (jm m)<|sx Zd<|cW (e:=.exit 0) (s1:=lr (.inr o7)) (Ea name m 0 ([]:ag) ([]:List ag) ([]:List cG) ([]:List ee) bo7)<|sb (PK) (PH)<|sy (ui (⟨([]:ag),([]:List ag),([]:List cG),([]:List ee)⟩:d8))<|en (aI (va9 PVal.tuple (jv (Gj (⟨([]:ag),([]:List ag),([]:List cG),([]:List ee)⟩:d8)) (jv (rP (.bool false)) (rfl:([]:List PVal)=[]))))<|(aI (ub (⟨([]:ag),([]:List ag),([]:List cG),([]:List ee)⟩:d8)) (aI trivial trivial)))
  exact bN qhK call56 func56 (c:=qji) rfl (aI (de m) (aI trivial trivial)) z<|by kernel_rfl
noncomputable def qj0:Code:=f57.body.getD .skip
def qi3:List Nat:=[]
section
variable(v:waB)(i:Int)(v2:ag)(m:waB)
def Lq:aA:=be 27 [(0,sl ac v),(1,.int .i64 i),(2,.str v2),(6,.bptr 0 0)] [.cells [.int .i64 0,.str ([]:ag),.int .i64 0,sl ac m] [(3,36)]] []
def sN(o:Bool):aA:=be 27 [(0,sl ac v),(1,.int .i64 i),(2,.str v2),(6,.bptr 0 0),(18,.bool o)] [.cells [.int .i64 0,.str ([]:ag),.int .i64 0,sl ac m] [(3,36)]] []
def xo:Option Bool:=
 if(decide (i>=(v.length:Int)))=true then
  some true
 else
  (cz v i).bind fun x2=>
  (qK x2 (⟨0,([]:ag),0,([]:List aa)⟩:aa)).bind fun r3=>
  some r3
theorem Jn{x:Bool}(h:xo v i=some x):aU Pg GE 0 (cA qj0 12) (EX .normal (sN v i v2 m x)) (Lq v i v2 m):=by
 rcases bj h with⟨c1,h⟩|⟨c1,h⟩
 ·obtain rfl:=lf h
  exact cd qi3 (cm (bL.ln v)<|sg 5 c1<|eF .normal (sN v i v2 m true))<|by kernel_rfl
 ·obtain⟨x2,bx2,h⟩:=ay h
  obtain⟨r3,br3,h⟩:=ay h
  obtain rfl:=lf h
  exact cd qi3 (cm (bL.ln v)<|sg 5 c1<|sv (bL.ia (k:=.i64) bx2)<|sv (bh x2)<|sb (sP) (sO)<|bz (tV br3)<|eF .normal (sN v i v2 m r3))<|by kernel_rfl
end
def tX(a:waB)(i:Int)(a2:ag):Option aa:=
 (xo a i).bind fun o4=>
 if o4=true then
  some (⟨2,([]:ag),1,([]:List aa)⟩:aa)
 else
  (cz a i).bind fun x7=>
  (gR a2).bind fun r8=>
  (An x7 ([118]:ag) r8).bind fun r9=>
  some r9
theorem EF{a:waB}{i:Int}{a2:ag}{r:aa}(h:tX a i a2=some r):CC Pg GE 57 [sl ac a,.int .i64 i,.str a2] (.agg (ac r)) []:=by
 obtain⟨o4,bo4,h⟩:=ay h
 have p6:=fun{sc F} (r:PS sc F)=>sx hO<|kr 1<|cW (Jn a i a2 ([]:List aa) bo4)<|r
 rcases bj h with⟨c5,h⟩|⟨c5,h⟩
 ·obtain rfl:=lf h
  have z:=p6<|sg 0 c5<|sb (ri 2 1) (rh 2 1)<|sy (aJ (⟨2,([]:ag),1,([]:List aa)⟩:aa))<|en (aI (dj (⟨2,([]:ag),1,([]:List aa)⟩:aa))<|(ah (⟨2,([]:ag),1,([]:List aa)⟩:aa)))
  exact bN qi3 call57 func57 (c:=qj0) rfl (aI (aj ah a) (aI trivial (aI trivial trivial))) z<|by kernel_rfl
 ·obtain⟨x7,bx7,h⟩:=ay h
  obtain⟨r8,br8,h⟩:=ay h
  obtain⟨r9,br9,h⟩:=ay h
  obtain rfl:=lf h
  have z:=p6<|sg 0 c5<|lY [0,0,3,7,0,16,63,127]<|sv (bL.ia (k:=.i64) bx7)<|sv (bh x7)<|bz (pA br8)<|bz (IY br9)<|sx (cj r9)<|en (aI (dj r9)<|(ah r9))
  exact bN qi3 call57 func57 (c:=qj0) rfl (aI (aj ah a) (aI trivial (aI trivial trivial))) z<|by kernel_rfl
abbrev FP:=(waD->Option ai)
abbrev KG(R:FP):Prop:=∀(a:waD) (r:ai),R a=some r->CC Pg GE 43 [sl aw a] (.agg (aw r)) [(6,36),(8,50)]
noncomputable def qkN:Code:=f68.body.getD .skip
def qkE:List Nat:=[]
def BU(c:ai):Option Bool:=
 if(c.Op==2)=true then
  some true
 else
  some (c.Op==3)
theorem RW{c:ai}{r:Bool}(h:BU c=some r):CC Pg GE 68 [.agg (aw c)] (.bool r) []:=by
 have p2:=fun{sc F} (r:PS sc F)=>se (rz c)<|sv (oY c)<|sv (pf c)<|r
 rcases bj h with⟨c1,h⟩|⟨c1,h⟩
 ·obtain rfl:=lf h
  have z:=p2<|sg 4 c1<|en (aI (rP (.bool true))<|trivial)
  exact bN qkE call68 func68 (c:=qkN) rfl (aI (ba c) trivial) z<|by kernel_rfl
 ·obtain rfl:=lf h
  have z:=p2<|sg 4 c1<|sv (oY c)<|sv (pf c)<|en (aI (rP (.bool (c.Op==3)))<|trivial)
  exact bN qkE call68 func68 (c:=qkN) rfl (aI (ba c) trivial) z<|by kernel_rfl
noncomputable def qjV:Code:=f43.body.getD .skip
def qiZ:List Nat:=[16,22]
section
variable(R112:FP)(t7:waD)(t8:Int)(m:waB)(m2:waD)(t9:Int)(m3:waD)
def nr:aA:=be 31 [(2,.bptr 0 0),(3,.bptr 1 0),(7,sl aw t7),(8,.int .i64 t8),(9,.int .i64 t9)] [.cells [.int .i64 0,.str ([]:ag),.str ([]:ag),.int .i64 0,.str ([]:ag),.int .i64 0,sl ac m,.int .i64 0,sl aw m2] [(6,36),(8,50)],.cells [.int .i64 1,.str ([]:ag),.str ([]:ag),.int .i64 0,.str ([]:ag),.int .i64 0,sl ac m,.int .i64 0,sl aw m3] [(6,36),(8,50)]] []
def BT(o:waD):aA:=be 31 [(2,.bptr 0 0),(3,.bptr 1 0)] [.cells [.int .i64 0,.str ([]:ag),.str ([]:ag),.int .i64 0,.str ([]:ag),.int .i64 0,sl ac m,.int .i64 0,sl aw m2] [(6,36),(8,50)],.cells [.int .i64 1,.str ([]:ag),.str ([]:ag),.int .i64 0,.str ([]:ag),.int .i64 0,sl ac m,.int .i64 0,sl aw o] [(6,36),(8,50)]] []
def Jj:Option ((Int×waD)⊕(waD)):=
 if(decide (t9<t8))=true then
  (cz t7 t9).bind fun x2=>
  (BU x2).bind fun r3=>
  if r3=true then
   (app m3 ([x2]:List ai)).bind fun l6=>
   some (.inl (aR (t9+1),l6))
  else
   (R112 x2.Kids).bind fun r7=>
   (app m3 r7.Kids).bind fun l8=>
   some (.inl (aR (t9+1),l8))
 else
  some (.inr m3)
def HT:Option waD:=loop (fun(zz:Int×waD)=>Jj R112 t7 t8 zz.1 zz.2) (t9,m3)
theorem Px(hR112:KG R112){y:(Int×waD)⊕(waD)}(h:Jj R112 t7 t8 t9 m3=some y):aU Pg GE 0 (cA qjV 119) (LQ (fun(zz:Int×waD)=>nr t7 t8 m m2 zz.1 zz.2) (fun _=>.exit 0) (BT m m2) y) (nr t7 t8 m m2 t9 m3):=by
 rcases bj h with⟨c1,h⟩|⟨c1,h⟩
 ·obtain⟨x2,bx2,h⟩:=ay h
  obtain⟨r3,br3,h⟩:=ay h
  have p5:=fun{sc F} (r:PS sc F)=>sg 0 c1<|sv (mX.ia (k:=.i64) bx2)<|sv (iZ x2)<|sx td<|sx (cF x2)<|sv (eM x2 [])<|bz (RW br3)<|r
  rcases bj h with⟨c4,h⟩|⟨c4,h⟩
  ·obtain⟨l6,bl6,h⟩:=ay h
   obtain rfl:=lf h
   have z:=p5<|sg 0 c4<|sv (eM x2 [])<|sv (mX.mk' (v:=lZ) g9 ([x2]:List ai) 1 (by kernel_rfl))<|sv (mX.ap bl6)<|uz 0 .normal (nr t7 t8 m m2 (aR (t9+1)) l6) rfl (dC (aI (cV rfl) (aI (cV rfl) (aI (up (aj ba t7)) (aI trivial (aI trivial trivial)))))) (aI (aI trivial (aI trivial (aI trivial (aI trivial (aI trivial (aI trivial (aI (up (aj ah m)) (aI trivial (aI (up (aj ba m2)) trivial))))))))) (aI (aI trivial (aI trivial (aI trivial (aI trivial (aI trivial (aI trivial (aI (up (aj ah m)) (aI trivial (aI (up (aj ba l6)) trivial))))))))) trivial))
   exact df (A:=qiZ) mixed z<|by kernel_rfl
  ·obtain⟨r7,br7,h⟩:=ay h
   obtain⟨l8,bl8,h⟩:=ay h
   obtain rfl:=lf h
   have z:=p5<|sg 0 c4<|lY [0,1,0,4,12,28,63,127,255]<|ss<|bz (hR112 _ _ br7)<|sv (P3 r7)<|sv (mX.ap bl8)<|VP (rfl:bK (sl aw l8)=some [sl aw l8])<|uz 0 .normal (nr t7 t8 m m2 (aR (t9+1)) l8) rfl (dC (aI (cV rfl) (aI (cV rfl) (aI (up (aj ba t7)) (aI trivial (aI trivial trivial)))))) (aI (aI trivial (aI trivial (aI trivial (aI trivial (aI trivial (aI trivial (aI (up (aj ah m)) (aI trivial (aI (up (aj ba m2)) trivial))))))))) (aI (aI trivial (aI trivial (aI trivial (aI trivial (aI trivial (aI trivial (aI (up (aj ah m)) (aI trivial (aI (up (aj ba l8)) trivial))))))))) trivial))
   exact df (A:=qiZ) mixed z<|by kernel_rfl
 ·obtain rfl:=lf h
  have z:=sg 0 c1<|eF (.exit 0) (BT m m2 m3)
  exact f6 qiZ (by intro hx;cases hx) z<|by kernel_rfl
theorem RV(hR112:KG R112){x:waD}(h:HT R112 t7 t8 t9 m3=some x):aU Pg GE 0 (.loop (cA qjV 119)) (EX (.exit 0) (BT m m2 x)) (nr t7 t8 m m2 t9 m3):=
 aU.loop (S:=fun(zz:Int×waD)=>nr t7 t8 m m2 zz.1 zz.2) (ex:=(fun _=>.exit 0)) (s:=(t9,m3)) h fun zz y hy=>Px R112 t7 t8 m m2 zz.1 zz.2 hR112 hy
end
def FM(R112:FP)(a:waD):Option ai:=
 (HT R112 a (a.length:Int) 0 ([]:List ai)).bind fun o9=>
 some (⟨1,([]:ag),([]:ag),(⟨0,([]:ag),0,([]:List aa)⟩:aa),0,o9⟩:ai)
theorem Wu(R112:FP)(hR112:KG R112){a:waD}{r:ai}(h:FM R112 a=some r):CC Pg GE 43 [sl aw a] (.agg (aw r)) [(6,36),(8,50)]:=by
 obtain⟨o9,bo9,h⟩:=ay h
 obtain rfl:=lf h
 have z:=sx td<|sb (xz 1) (xx 1)<|sx td<|sy (cb (⟨1,([]:ag),([]:ag),(⟨0,([]:ag),0,([]:List aa)⟩:aa),0,([]:List ai)⟩:ai))<|cm (mX.ln a)<|cW (RV R112 a (a.length:Int) ([]:List aa) ([]:List ai) 0 ([]:List ai) hR112 bo9)<|sz (eM (⟨1,([]:ag),([]:ag),(⟨0,([]:ag),0,([]:List aa)⟩:aa),0,o9⟩:ai) [])<|sy (cb (⟨1,([]:ag),([]:ag),(⟨0,([]:ag),0,([]:List aa)⟩:aa),0,o9⟩:ai))<|en (aI (cM (⟨1,([]:ag),([]:ag),(⟨0,([]:ag),0,([]:List aa)⟩:aa),0,o9⟩:ai))<|aI (ba (⟨1,([]:ag),([]:ag),(⟨0,([]:ag),0,([]:List aa)⟩:aa),0,o9⟩:ai))<|rT)
 exact bN qiZ call43 func43 (c:=qjV) rfl (aI (aj ba a) trivial) z<|by kernel_rfl
def Ln:(waD->Option ai)->(waD)->Option ai:=fun(rec:waD->Option ai) (x:waD)=>FM (fun a=>rec a) x
def N8(a:waD):Option ai:=kJ Ln a
theorem Py{a:waD}{r:ai}(h:N8 a=some r):CC Pg GE 43 [sl aw a] (.agg (aw r)) [(6,36),(8,50)]:=
 cy (F:=Ln) (M:=fun(x:waD) (r:ai)=>CC Pg GE 43 [sl aw x] (.agg (aw r)) [(6,36),(8,50)]) (fun rec hrec x r h=>Wu _ (fun a r h=>hrec a r h) h) h
noncomputable def qjd:Code:=f37.body.getD .skip
def qiY:List Nat:=[56]
section
variable(tag:Int)(v:ae)(v2:ae)(v3:ag)(m:waB)(m2:waD)(m3:ag)(m4:waA)(m5:waF)(m6:waG)(out:waD)(i:Int)
def oV:aA:=be 76 [(3,.int .i64 tag),(6,.eptr (af v)),(7,.eptr (af v2)),(10,.bptr 3 0),(11,.str v3),(12,sl aw out),(13,.bptr 4 0),(15,.int .i64 i)] [.dead,.dead,.dead,.cells [.int .i64 0,.str ([]:ag),.str ([]:ag),.int .i64 0,.str ([]:ag),.int .i64 0,sl ac m,.int .i64 0,sl aw m2] [(6,36),(8,50)],.cells [.str m3,sl cS m4,sl bH m5,sl ec m6] []] [((12,0),50)]
def zP(o:waD):aA:=be 76 [(10,.bptr 3 0),(12,sl aw o)] [.dead,.dead,.dead,.cells [.int .i64 0,.str ([]:ag),.str ([]:ag),.int .i64 0,.str ([]:ag),.int .i64 0,sl ac m,.int .i64 0,sl aw m2] [(6,36),(8,50)],.cells [.str m3,sl cS m4,sl bH m5,sl ec m6] []] [((12,0),50)]
def lz:Option ((waD×Int)⊕(waD)):=
 if(decide (i<(m5.length:Int)))=true then
  (tX v2.Preds i v3).bind fun r11=>
  (cz m5 i).bind fun x12=>
  (tX v.Preds i v3).bind fun r13=>
  (app out ([(⟨2,v3,x12.Sort_,r13,0,([(⟨3,([]:ag),([]:ag),r11,tag,([]:List ai)⟩:ai)]:List ai)⟩:ai)]:List ai)).bind fun l14=>
  some (.inl (l14,aR (i+1)))
 else
  some (.inr out)
def EE:Option waD:=loop (fun(zz:waD×Int)=>lz tag v v2 v3 m5 zz.1 zz.2) (out,i)
theorem NG{y:(waD×Int)⊕(waD)}(h:lz tag v v2 v3 m5 out i=some y):aU Pg GE 0 (cA qjd 1015) (LQ (fun(zz:waD×Int)=>oV tag v v2 v3 m m2 m3 m4 m5 m6 zz.1 zz.2) (fun _=>.exit 0) (zP m m2 m3 m4 m5 m6) y) (oV tag v v2 v3 m m2 m3 m4 m5 m6 out i):=by
 have p10:=fun{sc F} (r:PS sc F)=>ss<|cm (IG.ln m5)<|r
 rcases bj h with⟨c9,h⟩|⟨c9,h⟩
 ·obtain⟨r11,br11,h⟩:=ay h
  obtain⟨x12,bx12,h⟩:=ay h
  obtain⟨r13,br13,h⟩:=ay h
  obtain⟨l14,bl14,h⟩:=ay h
  obtain rfl:=lf h
  have z:=p10<|sg 0 c9<|sv (dq v2)<|sv (dt v2)<|bz (EF br11)<|sb (xA 3 r11 tag) (xy 3 r11 tag)<|sx td<|sy (cb (⟨3,([]:ag),([]:ag),r11,tag,([]:List ai)⟩:ai))<|lY [0,0,0,4,0,28,60,124,0,256,0,0,3840,0,8192,32766,65534,131071,262143]<|ss<|sv (IG.ia (k:=.i64) bx12)<|sv (Sq x12)<|sv (Vo x12)<|sv (dq v)<|sv (dt v)<|bz (EF br13)<|sv (eM (⟨3,([]:ag),([]:ag),r11,tag,([]:List ai)⟩:ai) [])<|sv (mX.mk' (v:=lZ) g9 ([(⟨3,([]:ag),([]:ag),r11,tag,([]:List ai)⟩:ai)]:List ai) 1 (by kernel_rfl))<|sv (ki 2 v3 x12.Sort_ r13 ([(⟨3,([]:ag),([]:ag),r11,tag,([]:List ai)⟩:ai)]:List ai))<|sv (mX.mk' (v:=lZ) g9 ([(⟨2,v3,x12.Sort_,r13,0,([(⟨3,([]:ag),([]:ag),r11,tag,([]:List ai)⟩:ai)]:List ai)⟩:ai)]:List ai) 1 (by kernel_rfl))<|sv (mX.ap bl14)<|uz 0 .normal (oV tag v v2 v3 m m2 m3 m4 m5 m6 l14 (aR (i+1))) rfl (dC (aI trivial (aI (ij (ak v)) (aI (ij (ak v2)) (aI (cV rfl) (aI trivial (aI (up (aj ba l14)) (aI (cV rfl) (aI trivial trivial))))))))) (aI trivial (aI trivial (aI trivial (aI (aI trivial (aI trivial (aI trivial (aI trivial (aI trivial (aI trivial (aI (up (aj ah m)) (aI trivial (aI (up (aj ba m2)) trivial))))))))) (aI (aI trivial (aI (up (aj dQ m4)) (aI (up (aj lT m5)) (aI (up (aj F1 m6)) trivial)))) trivial)))))
  exact df (A:=qiY) mixed z<|by kernel_rfl
 ·obtain rfl:=lf h
  have z:=p10<|sg 0 c9<|eF (.exit 0) (zP m m2 m3 m4 m5 m6 out)
  exact f6 qiY (by intro hx;cases hx) z<|by kernel_rfl
theorem Pz{x:waD}(h:EE tag v v2 v3 m5 out i=some x):aU Pg GE 0 (.loop (cA qjd 1015)) (EX (.exit 0) (zP m m2 m3 m4 m5 m6 x)) (oV tag v v2 v3 m m2 m3 m4 m5 m6 out i):=
 aU.loop (S:=fun(zz:waD×Int)=>oV tag v v2 v3 m m2 m3 m4 m5 m6 zz.1 zz.2) (ex:=(fun _=>.exit 0)) (s:=(out,i)) h fun zz y hy=>NG tag v v2 v3 m m2 m3 m4 m5 m6 zz.1 zz.2 hy
end
def Jl(m:aH)(a:ae)(a2:ae)(tag:Int)(used:waA):Option ai:=
 (sA used ([118,49]:ag)).bind fun r1=>
 (gR r1).bind fun r2=>
 (Pm a2 r2).bind fun r3=>
 (ED a r1 (⟨3,([]:ag),([]:ag),r3,tag,([]:List ai)⟩:ai)).bind fun r4=>
 if(a.Op !=4)=true then
  (cz ([r4]:List ai) 0).bind fun x7=>
  some x7
 else
  (I2 m a.Name).bind fun r8=>
  (EE tag a a2 r1 r8.1.Preds ([r4]:List ai) 0).bind fun o15=>
  (N8 o15).bind fun r16=>
  some r16
theorem Ww{m:aH}{a:ae}{a2:ae}{tag:Int}{used:waA}{r:ai}(h:Jl m a a2 tag used=some r):CC Pg GE 37 [.agg (aB m),.agg (af a),.agg (af a2),.int .i64 tag,sl cS used] (.agg (aw r)) []:=by
 obtain⟨r1,br1,h⟩:=ay h
 obtain⟨r2,br2,h⟩:=ay h
 obtain⟨r3,br3,h⟩:=ay h
 obtain⟨r4,br4,h⟩:=ay h
 have p6:=fun{sc F} (r:PS sc F)=>se (jm m)<|se (bD a)<|se (bD a2)<|sx td<|bz (Bf br1)<|lY [0,0,0,0,8,28,0,124,255,511,1023]<|sv (aV a)<|sv (aV a2)<|bz (pA br2)<|bz (SQ br3)<|sb (xA 3 r3 tag) (xy 3 r3 tag)<|bz (Mi br4)<|sv (mX.mk' (v:=lZ) g9 ([r4]:List ai) 1 (by kernel_rfl))<|sv (aC a)<|sv (aD a)<|r
 rcases bj h with⟨c5,h⟩|⟨c5,h⟩
 ·obtain⟨x7,bx7,h⟩:=ay h
  obtain rfl:=lf h
  have z:=p6<|sg 0 c5<|sv (mX.ia (k:=.i64) bx7)<|sv (iZ x7)<|sx (cF x7)<|en (aI (cM x7)<|(ba x7))
  exact bN qiY call37 func37 (c:=qjd) rfl (aI (de m) (aI (ak a) (aI (ak a2) (aI trivial (aI (aj dQ used) trivial))))) z<|by kernel_rfl
 ·obtain⟨r8,br8,h⟩:=ay h
  obtain⟨o15,bo15,h⟩:=ay h
  obtain⟨r16,br16,h⟩:=ay h
  obtain rfl:=lf h
  have z:=p6<|sg 0 c5<|sv (jl m)<|sv (cq a)<|sv (cP a)<|bz (Wo br8)<|sx Zd<|sx (AP r8.1)<|cW (Pz tag a a2 r1 ([]:List aa) ([]:List ai) r8.1.Name r8.1.Vars r8.1.Preds r8.1.Cons ([r4]:List ai) 0 bo15)<|bz (Py br16)<|sy (cb r16)<|en (aI (cM r16)<|(ba r16))
  exact bN qiY call37 func37 (c:=qjd) rfl (aI (de m) (aI (ak a) (aI (ak a2) (aI trivial (aI (aj dQ used) trivial))))) z<|by kernel_rfl
abbrev xt:=(aH->ae->ae->Int->Int->waA->Option (ai×Int))
abbrev Ov(R:xt):Prop:=∀(m:aH) (a:ae) (a2:ae) (i:Int) (tag:Int) (used:waA) (r:ai×Int),R m a a2 i tag used=some r->CC Pg GE 38 [.agg (aB m),.agg (af a),.agg (af a2),.int .i64 i,.int .i64 tag,sl cS used] (.tuple [.agg (aw r.1),.int .i64 r.2]) []
noncomputable def qj1:Code:=f58.body.getD .skip
def qjF:List Nat:=[17,25]
section
variable(t:ae)(v:waA)(k:Int)
def mH:aA:=be 26 [(2,sl cS v),(3,.eptr (af t)),(7,.int .i64 k)] [.dead] [((2,0),9)]
def xq(o:waA):aA:=be 26 [(2,sl cS o)] [.dead] [((2,0),9)]
def ig:Option ((waA×Int)⊕(waA)):=
 if(decide (k<(t.Names.length:Int)))=true then
  (cz t.Names k).bind fun x3=>
  (app v ([x3]:List ag)).bind fun l4=>
  some (.inl (l4,aR (k+1)))
 else
  some (.inr v)
def BX:Option waA:=loop (fun(zz:waA×Int)=>ig t zz.1 zz.2) (v,k)
theorem Ls{y:(waA×Int)⊕(waA)}(h:ig t v k=some y):aU Pg GE 1000 (cA qj1 55) (LQ (fun(zz:waA×Int)=>mH t zz.1 zz.2) (fun _=>.exit 0) xq y) (mH t v k):=by
 have p2:=fun{sc F} (r:PS sc F)=>sv (aO t)<|sv (aP t)<|cm (bp.ln t.Names)<|r
 rcases bj h with⟨c1,h⟩|⟨c1,h⟩
 ·obtain⟨x3,bx3,h⟩:=ay h
  obtain⟨l4,bl4,h⟩:=ay h
  obtain rfl:=lf h
  exact n9 qjF (p2<|sg 0 c1<|sv (aO t)<|sv (aP t)<|sv (bp.ia (k:=.i64) bx3)<|sv (dH Ba (.str x3) [])<|sv (bp.mk' (v:=PVal.str) E8 ([x3]:List ag) 1 (by kernel_rfl))<|sv (bp.ap bl4)<|eF .normal (mH t l4 (aR (k+1))))<|by kernel_rfl
 ·obtain rfl:=lf h
  have z:=p2<|sg 0 c1<|eF (.exit 0) (xq v)
  exact f6 qjF (by intro hx;cases hx) z<|by kernel_rfl
theorem NJ{x:waA}(h:BX t v k=some x):aU Pg GE 1000 (.loop (cA qj1 55)) (EX (.exit 0) (xq x)) (mH t v k):=
 aU.loop (S:=fun(zz:waA×Int)=>mH t zz.1 zz.2) (ex:=(fun _=>.exit 0)) (s:=(v,k)) h fun zz y hy=>Ls t zz.1 zz.2 hy
end
def Au(t:ae)(i:Int)(a:waA):Option waA:=
 (BX t a (aR (i+1))).bind fun o5=>
 some o5
theorem Jq{t:ae}{i:Int}{a:waA}{r:waA}(h:Au t i a=some r):C Pg GE 58 [.agg (af t),.int .i64 i,sl cS a] [((2,0),9)] [] (sl cS r) [(0,9)] []:=by
 obtain⟨o5,bo5,h⟩:=ay h
 obtain rfl:=lf h
 have z:=se (bD t)<|cW (NJ t a (aR (i+1)) bo5)<|en (aI (rP (sl cS o5))<|aI (up (n:=0) (aj dQ o5))<|aI (rL [])<|trivial)
 exact C.evGp (A:=qjF) mixed (m:=1000) (c:=qj1) rfl call58 func58 rfl z<|by kernel_rfl
abbrev tA:=(ae->au->Option ae)
abbrev zg(R:tA):Prop:=∀(t:ae) (c:au) (r:ae),R t c=some r->CC Pg GE 114 [.agg (af t),.agg (aG c)] (.agg (af r)) [(2,38),(8,36)]
abbrev BY:=(aa->Option waA)
abbrev Ho(R:BY):Prop:=∀(p:aa) (r:waA),R p=some r->CC Pg GE 143 [.agg (ac p)] (sl cS r) [(0,9)]
noncomputable def qaG:Code:=f142.body.getD .skip
def T2:List Nat:=[19,28,46,51]
section
variable(v:waA)(s:ag)(out:waA)(i:Int)
def Ue:aA:=be 52 [(0,sl cS v),(1,.str s),(5,sl cS out),(6,.int .i64 i)] [] [((5,0),9)]
def Bj(o:Bool):aA:=be 52 [(0,sl cS v),(1,.str s),(5,sl cS out),(6,.int .i64 i),(18,.bool o)] [] [((5,0),9)]
def sE:Option Bool:=
 if(decide (i<(v.length:Int)))=true then
  (cz v i).bind fun x2=>
  some (Op.bytesLess x2 s)
 else
  some false
theorem Rn{x:Bool}(h:sE v s i=some x):aU Pg GE 0 (cA qaG 492) (EX .normal (Bj v s out i x)) (Ue v s out i):=by
 rcases bj h with⟨c1,h⟩|⟨c1,h⟩
 ·obtain⟨x2,bx2,h⟩:=ay h
  obtain rfl:=lf h
  exact cd T2 (cm (bp.ln v)<|sg 5 c1<|sv (bp.ia (k:=.i64) bx2)<|sv (dH Ba (.str x2) [])<|eF .normal (Bj v s out i (Op.bytesLess x2 s)))<|by kernel_rfl
 ·obtain rfl:=lf h
  exact cd T2 (cm (bp.ln v)<|sg 5 c1<|eF .normal (Bj v s out i false))<|by kernel_rfl
end
section
variable(v:waA)(s:ag)(out:waA)(i:Int)
def qH:aA:=be 52 [(0,sl cS v),(1,.str s),(5,sl cS out),(6,.int .i64 i)] [] [((5,0),9)]
def Bn(o:waA×Int):aA:=be 52 [(0,sl cS v),(1,.str s),(5,sl cS o.1),(6,.int .i64 o.2)] [] [((5,0),9)]
def qI:Option ((waA×Int)⊕((waA×Int))):=
 (sE v s i).bind fun o3=>
 if o3=true then
  (cz v i).bind fun x6=>
  (app out ([x6]:List ag)).bind fun l7=>
  some (.inl (l7,aR (i+1)))
 else
  some (.inr (out,i))
def Hy:Option ((waA×Int)):=loop (fun(zz:waA×Int)=>qI v s zz.1 zz.2) (out,i)
theorem OJ{y:(waA×Int)⊕((waA×Int))}(h:qI v s out i=some y):aU Pg GE 0 (cA qaG 123) (LQ (fun(zz:waA×Int)=>qH v s zz.1 zz.2) (fun _=>.exit 0) (Bn v s) y) (qH v s out i):=by
 obtain⟨o3,bo3,h⟩:=ay h
 have p5:=fun{sc F} (r:PS sc F)=>kr 1<|cW (Rn v s out i bo3)<|r
 rcases bj h with⟨c4,h⟩|⟨c4,h⟩
 ·obtain⟨x6,bx6,h⟩:=ay h
  obtain⟨l7,bl7,h⟩:=ay h
  obtain rfl:=lf h
  exact n9 T2 (p5<|sg 0 c4<|sv (bp.ia (k:=.i64) bx6)<|sv (dH Ba (.str x6) [])<|sv (bp.mk' (v:=PVal.str) E8 ([x6]:List ag) 1 (by kernel_rfl))<|sv (bp.ap bl7)<|eF .normal (qH v s l7 (aR (i+1))))<|by kernel_rfl
 ·obtain rfl:=lf h
  have z:=p5<|sg 0 c4<|eF (.exit 0) (Bn v s (out,i))
  exact f6 T2 (by intro hx;cases hx) z<|by kernel_rfl
theorem Rq{x:(waA×Int)}(h:Hy v s out i=some x):aU Pg GE 0 (.loop (cA qaG 123)) (EX (.exit 0) (Bn v s x)) (qH v s out i):=
 aU.loop (S:=fun(zz:waA×Int)=>qH v s zz.1 zz.2) (ex:=(fun _=>.exit 0)) (s:=(out,i)) h fun zz y hy=>OJ v s zz.1 zz.2 hy
end
section
variable(v:waA)(s:ag)(out:waA)(i:Int)
def Ug:aA:=be 52 [(0,sl cS v),(1,.str s),(5,sl cS out),(6,.int .i64 i)] [] [((5,0),9)]
def Bm(o:Bool):aA:=be 52 [(0,sl cS v),(5,sl cS out),(6,.int .i64 i),(43,.bool o)] [] [((5,0),9)]
def Hx:Option Bool:=
 if(decide (i<(v.length:Int)))=true then
  (cz v i).bind fun x11=>
  some (x11==s)
 else
  some false
theorem Rp{x:Bool}(h:Hx v s i=some x):aU Pg GE 0 (cA qaG 252) (EX .normal (Bm v out i x)) (Ug v s out i):=by
 rcases bj h with⟨c10,h⟩|⟨c10,h⟩
 ·obtain⟨x11,bx11,h⟩:=ay h
  obtain rfl:=lf h
  exact cd T2 (cm (bp.ln v)<|sg 5 c10<|sv (bp.ia (k:=.i64) bx11)<|sv (dH Ba (.str x11) [])<|eF .normal (Bm v out i (x11==s)))<|by kernel_rfl
 ·obtain rfl:=lf h
  exact cd T2 (cm (bp.ln v)<|sg 5 c10<|eF .normal (Bm v out i false))<|by kernel_rfl
end
section
variable(v:waA)(s:ag)(out:waA)(i:Int)
def Uf:aA:=be 52 [(0,sl cS v),(1,.str s),(5,sl cS out),(6,.int .i64 i)] [] [((5,0),9)]
def Bl(o:Int):aA:=be 52 [(0,sl cS v),(5,sl cS out),(6,.int .i64 o)] [] [((5,0),9)]
def Bk:Option Int:=
 (Hx v s i).bind fun o12=>
 if o12=true then
  some (aR (i+1))
 else
  some i
theorem Ro{x:Int}(h:Bk v s i=some x):aU Pg GE 0 (cA qaG 126) (EX .normal (Bl v out x)) (Uf v s out i):=by
 obtain⟨o12,bo12,h⟩:=ay h
 have p14:=fun{sc F} (r:PS sc F)=>kr 0<|cW (Rp v s out i bo12)<|r
 rcases bj h with⟨c13,h⟩|⟨c13,h⟩
 ·obtain rfl:=lf h
  exact cd T2 (p14<|sg 0 c13<|eF .normal (Bl v out (aR (i+1))))<|by kernel_rfl
 ·obtain rfl:=lf h
  exact cd T2 (p14<|sg 0 c13<|eF .normal (Bl v out i))<|by kernel_rfl
end
def yw(a:waA)(s:ag):Option waA:=
 (Hy a s ([]:List ag) 0).bind fun o8=>
 (app o8.1 ([s]:List ag)).bind fun l9=>
 (Bk a s o8.2).bind fun o15=>
 (N2 a (some o15) none).bind fun l16=>
 (app l9 l16).bind fun l17=>
 some l17
theorem Bo{a:waA}{s:ag}{r:waA}(h:yw a s=some r):CC Pg GE 142 [sl cS a,.str s] (sl cS r) [(0,9)]:=by
 obtain⟨o8,bo8,h⟩:=ay h
 obtain⟨l9,bl9,h⟩:=ay h
 obtain⟨o15,bo15,h⟩:=ay h
 obtain⟨l16,bl16,h⟩:=ay h
 obtain⟨l17,bl17,h⟩:=ay h
 obtain rfl:=lf h
 have z:=cW (Rq a s ([]:List ag) 0 bo8)<|sv (bp.mk' (v:=PVal.str) E8 ([s]:List ag) 1 (by kernel_rfl))<|sv (bp.ap bl9)<|kr 0<|cW (Ro a s l9 o8.2 bo15)<|sv (bp.sc bl16)<|sv (bp.ap bl17)<|en (aI (rP (sl cS l17))<|(aj dQ l17))
 exact bN T2 call142 func142 (c:=qaG) rfl (aI (aj dQ a) (aI trivial trivial)) z<|by kernel_rfl
noncomputable def R3:Code:=f121.body.getD .skip
def Rh:List Nat:=[12,24,32]
section
variable(v:waA)(v2:waA)(t9:Int)(out:waA)(t10:Int)
def mh:aA:=be 33 [(0,sl cS v),(1,sl cS v2),(5,sl cS out),(9,.int .i64 t9),(10,.int .i64 t10)] [] [((5,0),9)]
def wB(o:waA):aA:=be 33 [(1,sl cS v2),(5,sl cS o)] [] [((5,0),9)]
def mi:Option ((waA×Int)⊕(waA)):=
 if(decide (t10<t9))=true then
  (cz v t10).bind fun x2=>
  (yw out x2).bind fun r3=>
  some (.inl (r3,aR (t10+1)))
 else
  some (.inr out)
def qF:Option waA:=loop (fun(zz:waA×Int)=>mi v t9 zz.1 zz.2) (out,t10)
theorem KL{y:(waA×Int)⊕(waA)}(h:mi v t9 out t10=some y):aU Pg GE 0 (cA R3 119) (LQ (fun(zz:waA×Int)=>mh v v2 t9 zz.1 zz.2) (fun _=>.exit 0) (wB v2) y) (mh v v2 t9 out t10):=by
 rcases bj h with⟨c1,h⟩|⟨c1,h⟩
 ·obtain⟨x2,bx2,h⟩:=ay h
  obtain⟨r3,br3,h⟩:=ay h
  obtain rfl:=lf h
  exact n9 Rh (sg 0 c1<|sv (bp.ia (k:=.i64) bx2)<|sv (dH Ba (.str x2) [])<|bz (Bo br3)<|eF .normal (mh v v2 t9 r3 (aR (t10+1))))<|by kernel_rfl
 ·obtain rfl:=lf h
  have z:=sg 0 c1<|eF (.exit 0) (wB v2 out)
  exact f6 Rh (by intro hx;cases hx) z<|by kernel_rfl
theorem MO{x:waA}(h:qF v t9 out t10=some x):aU Pg GE 0 (.loop (cA R3 119)) (EX (.exit 0) (wB v2 x)) (mh v v2 t9 out t10):=
 aU.loop (S:=fun(zz:waA×Int)=>mh v v2 t9 zz.1 zz.2) (ex:=(fun _=>.exit 0)) (s:=(out,t10)) h fun zz y hy=>KL v v2 t9 zz.1 zz.2 hy
end
section
variable(v:waA)(t21:Int)(out:waA)(t22:Int)
def mj:aA:=be 33 [(1,sl cS v),(5,sl cS out),(21,.int .i64 t21),(22,.int .i64 t22)] [] [((5,0),9)]
def wC(o:waA):aA:=be 33 [(5,sl cS o)] [] [((5,0),9)]
def dy:Option ((waA×Int)⊕(waA)):=
 if(decide (t22<t21))=true then
  (cz v t22).bind fun x6=>
  (yw out x6).bind fun r7=>
  some (.inl (r7,aR (t22+1)))
 else
  some (.inr out)
def qG:Option waA:=loop (fun(zz:waA×Int)=>dy v t21 zz.1 zz.2) (out,t22)
theorem KM{y:(waA×Int)⊕(waA)}(h:dy v t21 out t22=some y):aU Pg GE 0 (cA R3 247) (LQ (fun(zz:waA×Int)=>mj v t21 zz.1 zz.2) (fun _=>.exit 2) wC y) (mj v t21 out t22):=by
 rcases bj h with⟨c5,h⟩|⟨c5,h⟩
 ·obtain⟨x6,bx6,h⟩:=ay h
  obtain⟨r7,br7,h⟩:=ay h
  obtain rfl:=lf h
  exact n9 Rh (sg 0 c5<|sv (bp.ia (k:=.i64) bx6)<|sv (dH Ba (.str x6) [])<|bz (Bo br7)<|eF .normal (mj v t21 r7 (aR (t22+1))))<|by kernel_rfl
 ·obtain rfl:=lf h
  have z:=sg 0 c5<|eF (.exit 2) (wC out)
  exact f6 Rh (by intro hx;cases hx) z<|by kernel_rfl
theorem MP{x:waA}(h:qG v t21 out t22=some x):aU Pg GE 0 (.loop (cA R3 247)) (EX (.exit 2) (wC x)) (mj v t21 out t22):=
 aU.loop (S:=fun(zz:waA×Int)=>mj v t21 zz.1 zz.2) (ex:=(fun _=>.exit 2)) (s:=(out,t22)) h fun zz y hy=>KM v t21 zz.1 zz.2 hy
end
def gj(a:waA)(a2:waA):Option waA:=
 (qF a (a.length:Int) ([]:List ag) 0).bind fun o4=>
 (qG a2 (a2.length:Int) o4 0).bind fun o8=>
 some o8
theorem nh{a:waA}{a2:waA}{r:waA}(h:gj a a2=some r):CC Pg GE 121 [sl cS a,sl cS a2] (sl cS r) [(0,9)]:=by
 obtain⟨o4,bo4,h⟩:=ay h
 obtain⟨o8,bo8,h⟩:=ay h
 obtain rfl:=lf h
 have z:=cm (bp.ln a)<|cW (MO a a2 (a.length:Int) ([]:List ag) 0 bo4)<|cm (bp.ln a2)<|cW (MP a2 (a2.length:Int) o4 0 bo8)<|en (aI (rP (sl cS o8))<|(aj dQ o8))
 exact bN Rh call121 func121 (c:=R3) rfl (aI (aj dQ a) (aI (aj dQ a2) trivial)) z<|by kernel_rfl
noncomputable def qeF:Code:=f143.body.getD .skip
def qb6:List Nat:=[24]
section
variable(p:aa)
def Rt:aA:=be 25 [(1,.eptr (ac p)),(3,sl cS ([]:List ag))] [.dead] [((3,0),9)]
def zn(o:waA):aA:=be 25 [(1,.eptr (ac p)),(3,sl cS o)] [.dead] [((3,0),9)]
def DI:Option waA:=
 if(p.Op==3)=true then
  some ([p.Name]:List ag)
 else
  some ([]:List ag)
theorem OL{x:waA}(h:DI p=some x):aU Pg GE 0 (cA qeF 14) (EX .normal (zn p x)) (Rt p):=by
 have p2:=fun{sc F} (r:PS sc F)=>sv (bE p)<|sv (bF p)<|r
 rcases bj h with⟨c1,h⟩|⟨c1,h⟩
 ·obtain rfl:=lf h
  exact cd qb6 (p2<|sg 0 c1<|sv (cp p)<|sv (cO p)<|sv (bp.mk' (v:=PVal.str) E8 ([p.Name]:List ag) 1 (by kernel_rfl))<|eF .normal (zn p ([p.Name]:List ag)))<|by kernel_rfl
 ·obtain rfl:=lf h
  exact cd qb6 (p2<|sg 0 c1<|eF .normal (zn p ([]:List ag)))<|by kernel_rfl
end
section
variable(R121:BY)(t13:waB)(t14:Int)(out:waA)(t15:Int)
def oq:aA:=be 25 [(3,sl cS out),(13,sl ac t13),(14,.int .i64 t14),(15,.int .i64 t15)] [.dead] [((3,0),9)]
def zo(o:waA):aA:=be 25 [(3,sl cS o)] [.dead] [((3,0),9)]
def GP:Option ((waA×Int)⊕(waA)):=
 if(decide (t15<t14))=true then
  (cz t13 t15).bind fun x5=>
  (R121 x5).bind fun r6=>
  (gj out r6).bind fun r7=>
  some (.inl (r7,aR (t15+1)))
 else
  some (.inr out)
def DJ:Option waA:=loop (fun(zz:waA×Int)=>GP R121 t13 t14 zz.1 zz.2) (out,t15)
theorem MU(hR121:Ho R121){y:(waA×Int)⊕(waA)}(h:GP R121 t13 t14 out t15=some y):aU Pg GE 0 (cA qeF 247) (LQ (fun(zz:waA×Int)=>oq t13 t14 zz.1 zz.2) (fun _=>.exit 0) zo y) (oq t13 t14 out t15):=by
 rcases bj h with⟨c4,h⟩|⟨c4,h⟩
 ·obtain⟨x5,bx5,h⟩:=ay h
  obtain⟨r6,br6,h⟩:=ay h
  obtain⟨r7,br7,h⟩:=ay h
  obtain rfl:=lf h
  have z:=sg 0 c4<|sv (bL.ia (k:=.i64) bx5)<|sv (bh x5)<|sx hO<|sx (cj x5)<|sv (bT x5 [])<|bz (hR121 _ _ br6)<|bz (nh br7)<|uz 0 .normal (oq t13 t14 r7 (aR (t15+1))) rfl (dC (aI (up (aj dQ r7)) (aI (up (aj ah t13)) (aI trivial (aI trivial trivial))))) (aI trivial trivial)
  exact df (A:=qb6) mixed z<|by kernel_rfl
 ·obtain rfl:=lf h
  have z:=sg 0 c4<|eF (.exit 0) (zo out)
  exact f6 qb6 (by intro hx;cases hx) z<|by kernel_rfl
theorem OM(hR121:Ho R121){x:waA}(h:DJ R121 t13 t14 out t15=some x):aU Pg GE 0 (.loop (cA qeF 247)) (EX (.exit 0) (zo x)) (oq t13 t14 out t15):=
 aU.loop (S:=fun(zz:waA×Int)=>oq t13 t14 zz.1 zz.2) (ex:=(fun _=>.exit 0)) (s:=(out,t15)) h fun zz y hy=>MU R121 t13 t14 zz.1 zz.2 hR121 hy
end
def Bq(R121:BY)(p:aa):Option waA:=
 (DI p).bind fun o3=>
 (DJ R121 p.Kids (p.Kids.length:Int) o3 0).bind fun o8=>
 some o8
theorem Uj(R121:BY)(hR121:Ho R121){p:aa}{r:waA}(h:Bq R121 p=some r):CC Pg GE 143 [.agg (ac p)] (sl cS r) [(0,9)]:=by
 obtain⟨o3,bo3,h⟩:=ay h
 obtain⟨o8,bo8,h⟩:=ay h
 obtain rfl:=lf h
 have z:=se (bS p)<|kr 1<|cW (OL p bo3)<|sv (bA p)<|sv (bC p)<|cm (bL.ln p.Kids)<|cW (OM R121 p.Kids (p.Kids.length:Int) o3 0 hR121 bo8)<|en (aI (rP (sl cS o8))<|(aj dQ o8))
 exact bN qb6 call143 func143 (c:=qeF) rfl (aI (ah p) trivial) z<|by kernel_rfl
def Hz:(aa->Option waA)->(aa)->Option waA:=fun(rec:aa->Option waA) (x:aa)=>Bq (fun p=>rec p) x
def tU(p:aa):Option waA:=kJ Hz p
theorem DK{p:aa}{r:waA}(h:tU p=some r):CC Pg GE 143 [.agg (ac p)] (sl cS r) [(0,9)]:=
 cy (F:=Hz) (M:=fun(x:aa) (r:waA)=>CC Pg GE 143 [.agg (ac x)] (sl cS r) [(0,9)]) (fun rec hrec x r h=>Uj _ (fun p r h=>hrec p r h) h) h
noncomputable def qgr:Code:=f122.body.getD .skip
def qgb:List Nat:=[17]
section
variable(t6:waB)(t7:Int)(out:waA)(t8:Int)
def mF:aA:=be 18 [(3,sl cS out),(6,sl ac t6),(7,.int .i64 t7),(8,.int .i64 t8)] [] [((3,0),9)]
def xj(o:waA):aA:=be 18 [(3,sl cS o)] [] [((3,0),9)]
def Eu:Option ((waA×Int)⊕(waA)):=
 if(decide (t8<t7))=true then
  (cz t6 t8).bind fun x2=>
  (tU x2).bind fun r3=>
  (gj out r3).bind fun r4=>
  some (.inl (r4,aR (t8+1)))
 else
  some (.inr out)
def BQ:Option waA:=loop (fun(zz:waA×Int)=>Eu t6 t7 zz.1 zz.2) (out,t8)
theorem Ll{y:(waA×Int)⊕(waA)}(h:Eu t6 t7 out t8=some y):aU Pg GE 0 (cA qgr 119) (LQ (fun(zz:waA×Int)=>mF t6 t7 zz.1 zz.2) (fun _=>.exit 0) xj y) (mF t6 t7 out t8):=by
 rcases bj h with⟨c1,h⟩|⟨c1,h⟩
 ·obtain⟨x2,bx2,h⟩:=ay h
  obtain⟨r3,br3,h⟩:=ay h
  obtain⟨r4,br4,h⟩:=ay h
  obtain rfl:=lf h
  have z:=sg 0 c1<|sv (bL.ia (k:=.i64) bx2)<|sv (bh x2)<|sx hO<|sx (cj x2)<|sv (bT x2 [])<|bz (DK br3)<|bz (nh br4)<|uz 0 .normal (mF t6 t7 r4 (aR (t8+1))) rfl (dC (aI (up (aj dQ r4)) (aI (up (aj ah t6)) (aI trivial (aI trivial trivial))))) trivial
  exact df (A:=qgb) mixed z<|by kernel_rfl
 ·obtain rfl:=lf h
  have z:=sg 0 c1<|eF (.exit 0) (xj out)
  exact f6 qgb (by intro hx;cases hx) z<|by kernel_rfl
theorem NC{x:waA}(h:BQ t6 t7 out t8=some x):aU Pg GE 0 (.loop (cA qgr 119)) (EX (.exit 0) (xj x)) (mF t6 t7 out t8):=
 aU.loop (S:=fun(zz:waA×Int)=>mF t6 t7 zz.1 zz.2) (ex:=(fun _=>.exit 0)) (s:=(out,t8)) h fun zz y hy=>Ll t6 t7 zz.1 zz.2 hy
end
def FL(a:waB):Option waA:=
 (BQ a (a.length:Int) ([]:List ag) 0).bind fun o5=>
 some o5
theorem UD{a:waB}{r:waA}(h:FL a=some r):CC Pg GE 122 [sl ac a] (sl cS r) [(0,9)]:=by
 obtain⟨o5,bo5,h⟩:=ay h
 obtain rfl:=lf h
 have z:=cm (bL.ln a)<|cW (NC a (a.length:Int) ([]:List ag) 0 bo5)<|en (aI (rP (sl cS o5))<|(aj dQ o5))
 exact bN qgb call122 func122 (c:=qgr) rfl (aI (aj ah a) trivial) z<|by kernel_rfl
abbrev B6:=(ae->Option waA)
abbrev Ht(R:B6):Prop:=∀(t:ae) (r:waA),R t=some r->CC Pg GE 123 [.agg (af t)] (sl cS r) [(0,9)]
noncomputable def qgx:Code:=f144.body.getD .skip
def qek:List Nat:=[18,23]
section
variable(names:waA)(t8:waA)(t9:Int)(out:waA)(t10:Int)
def gZ:aA:=be 24 [(1,sl cS names),(5,sl cS out),(8,sl cS t8),(9,.int .i64 t9),(10,.int .i64 t10)] [] [((5,0),9)]
def sM(o:waA):aA:=be 24 [(5,sl cS o)] [] [((5,0),9)]
def As:Option ((waA×Int)⊕(waA)):=
 if(decide (t10<t9))=true then
  (cz t8 t10).bind fun x2=>
  (gI names x2).bind fun r3=>
  if(decide (r3<0))=true then
   (app out ([x2]:List ag)).bind fun l6=>
   some (.inl (l6,aR (t10+1)))
  else
   some (.inl (out,aR (t10+1)))
 else
  some (.inr out)
def xk:Option waA:=loop (fun(zz:waA×Int)=>As names t8 t9 zz.1 zz.2) (out,t10)
theorem HR{y:(waA×Int)⊕(waA)}(h:As names t8 t9 out t10=some y):aU Pg GE 0 (cA qgx 119) (LQ (fun(zz:waA×Int)=>gZ names t8 t9 zz.1 zz.2) (fun _=>.exit 0) sM y) (gZ names t8 t9 out t10):=by
 rcases bj h with⟨c1,h⟩|⟨c1,h⟩
 ·obtain⟨x2,bx2,h⟩:=ay h
  obtain⟨r3,br3,h⟩:=ay h
  have p5:=fun{sc F} (r:PS sc F)=>sg 0 c1<|sv (bp.ia (k:=.i64) bx2)<|sv (dH Ba (.str x2) [])<|bz (j6 br3)<|r
  rcases bj h with⟨c4,h⟩|⟨c4,h⟩
  ·obtain⟨l6,bl6,h⟩:=ay h
   obtain rfl:=lf h
   exact n9 qek (p5<|sg 0 c4<|sv (bp.mk' (v:=PVal.str) E8 ([x2]:List ag) 1 (by kernel_rfl))<|sv (bp.ap bl6)<|eF .normal (gZ names t8 t9 l6 (aR (t10+1))))<|by kernel_rfl
  ·obtain rfl:=lf h
   exact n9 qek (p5<|sg 0 c4<|eF .normal (gZ names t8 t9 out (aR (t10+1))))<|by kernel_rfl
 ·obtain rfl:=lf h
  have z:=sg 0 c1<|eF (.exit 0) (sM out)
  exact f6 qek (by intro hx;cases hx) z<|by kernel_rfl
theorem Jh{x:waA}(h:xk names t8 t9 out t10=some x):aU Pg GE 0 (.loop (cA qgx 119)) (EX (.exit 0) (sM x)) (gZ names t8 t9 out t10):=
 aU.loop (S:=fun(zz:waA×Int)=>gZ names t8 t9 zz.1 zz.2) (ex:=(fun _=>.exit 0)) (s:=(out,t10)) h fun zz y hy=>HR names t8 t9 zz.1 zz.2 hy
end
def mG(a:waA)(names:waA):Option waA:=
 (xk names a (a.length:Int) ([]:List ag) 0).bind fun o7=>
 some o7
theorem EB{a:waA}{names:waA}{r:waA}(h:mG a names=some r):CC Pg GE 144 [sl cS a,sl cS names] (sl cS r) [(0,9)]:=by
 obtain⟨o7,bo7,h⟩:=ay h
 obtain rfl:=lf h
 have z:=cm (bp.ln a)<|cW (Jh names a (a.length:Int) ([]:List ag) 0 bo7)<|en (aI (rP (sl cS o7))<|(aj dQ o7))
 exact bN qek call144 func144 (c:=qgx) rfl (aI (aj dQ a) (aI (aj dQ names) trivial)) z<|by kernel_rfl
noncomputable def qaF:Code:=f123.body.getD .skip
def Ya:List Nat:=[32,53]
section
variable(t:ae)(t14:waB)(t15:Int)(out:waA)(t16:Int)
def oN:aA:=be 54 [(1,.eptr (af t)),(3,sl cS out),(14,sl ac t14),(15,.int .i64 t15),(16,.int .i64 t16)] [.dead] [((14,0),36),((3,0),9)]
def zJ(o:waA):aA:=be 54 [(1,.eptr (af t)),(3,sl cS o)] [.dead] [((3,0),9)]
def GV:Option ((waA×Int)⊕(waA)):=
 if(decide (t16<t15))=true then
  (cz t14 t16).bind fun x3=>
  (tU x3).bind fun r4=>
  (mG r4 ([([118]:ag)]:List ag)).bind fun r5=>
  (gj out r5).bind fun r6=>
  some (.inl (r6,aR (t16+1)))
 else
  some (.inr out)
def Em:Option waA:=loop (fun(zz:waA×Int)=>GV t14 t15 zz.1 zz.2) (out,t16)
theorem Nw{y:(waA×Int)⊕(waA)}(h:GV t14 t15 out t16=some y):aU Pg GE 0 (cA qaF 119) (LQ (fun(zz:waA×Int)=>oN t t14 t15 zz.1 zz.2) (fun _=>.exit 0) (zJ t) y) (oN t t14 t15 out t16):=by
 rcases bj h with⟨c2,h⟩|⟨c2,h⟩
 ·obtain⟨x3,bx3,h⟩:=ay h
  obtain⟨r4,br4,h⟩:=ay h
  obtain⟨r5,br5,h⟩:=ay h
  obtain⟨r6,br6,h⟩:=ay h
  obtain rfl:=lf h
  have z:=sg 0 c2<|sv (bL.ia (k:=.i64) bx3)<|sv (bh x3)<|sx hO<|sx (cj x3)<|sv (bT x3 [])<|bz (DK br4)<|sv (bp.mk' (v:=PVal.str) E8 ([([118]:ag)]:List ag) 1 (by kernel_rfl))<|bz (EB br5)<|bz (nh br6)<|uz 0 .normal (oN t t14 t15 r6 (aR (t16+1))) rfl (dC (aI (ij (ak t)) (aI (up (aj dQ r6)) (aI (up (aj ah t14)) (aI trivial (aI trivial trivial)))))) (aI trivial trivial)
  exact df (A:=Ya) mixed z<|by kernel_rfl
 ·obtain rfl:=lf h
  have z:=sg 0 c2<|eF (.exit 0) (zJ t out)
  exact f6 Ya (by intro hx;cases hx) z<|by kernel_rfl
theorem Pp{x:waA}(h:Em t14 t15 out t16=some x):aU Pg GE 0 (.loop (cA qaF 119)) (EX (.exit 0) (zJ t x)) (oN t t14 t15 out t16):=
 aU.loop (S:=fun(zz:waA×Int)=>oN t t14 t15 zz.1 zz.2) (ex:=(fun _=>.exit 0)) (s:=(out,t16)) h fun zz y hy=>Nw t t14 t15 zz.1 zz.2 hy
end
section
variable(t:ae)(out:waA)(bound:waA)(t28:waC)(t29:Int)(t30:Int)(m:Int)(m2:ag)(m3:waC)(m4:waA)(m5:Int)(m6:ag)(m7:Int)(m8:waB)(m9:waB)
def RR:aA:=be 54 [(1,.eptr (af t)),(3,sl cS out),(7,.bptr 1 0),(8,sl cS bound),(28,sl af t28),(29,.int .i64 t29),(30,.int .i64 t30)] [.dead,.cells [.int .i64 m,.str m2,sl af m3,sl cS m4,.int .i64 m5,.str m6,.int .i64 m7,sl ac m8,sl ac m9] []] [((3,0),9)]
def zI(o:waA):aA:=be 54 [(1,.eptr (af t)),(3,sl cS out),(7,.bptr 1 0),(8,sl cS o),(28,sl af t28),(29,.int .i64 t29),(30,.int .i64 t30)] [.dead,.cells [.int .i64 m,.str m2,sl af m3,sl cS m4,.int .i64 m5,.str m6,.int .i64 m7,sl ac m8,sl ac m9] []] [((3,0),9)]
def tW:Option waA:=
 if(t.Op !=6)=true then
  some ([]:List ag)
 else
  some bound
theorem Po{x:waA}(h:tW t bound=some x):aU Pg GE 0 (cA qaF 31726) (EX .normal (zI t out t28 t29 t30 m m2 m3 m4 m5 m6 m7 m8 m9 x)) (RR t out bound t28 t29 t30 m m2 m3 m4 m5 m6 m7 m8 m9):=by
 have p12:=fun{sc F} (r:PS sc F)=>sv (aC t)<|sv (aD t)<|r
 rcases bj h with⟨c11,h⟩|⟨c11,h⟩
 ·obtain rfl:=lf h
  exact cd Ya (p12<|sg 0 c11<|eF .normal (zI t out t28 t29 t30 m m2 m3 m4 m5 m6 m7 m8 m9 ([]:List ag)))<|by kernel_rfl
 ·obtain rfl:=lf h
  exact cd Ya (p12<|sg 0 c11<|eF .normal (zI t out t28 t29 t30 m m2 m3 m4 m5 m6 m7 m8 m9 bound))<|by kernel_rfl
end
section
variable(R124:B6)(t:ae)(t28:waC)(t29:Int)(out:waA)(t30:Int)
def oO:aA:=be 54 [(1,.eptr (af t)),(3,sl cS out),(28,sl af t28),(29,.int .i64 t29),(30,.int .i64 t30)] [.dead] [((3,0),9)]
def zK(o:waA):aA:=be 54 [(3,sl cS o)] [.dead] [((3,0),9)]
def GW:Option ((waA×Int)⊕(waA)):=
 if(decide (t30<t29))=true then
  (cz t28 t30).bind fun x9=>
  (N2 t.Names none (some (if(t.Names.length:Int)<t30 then(t.Names.length:Int)else t30))).bind fun l10=>
  (tW t l10).bind fun o13=>
  (R124 x9).bind fun r14=>
  (mG r14 o13).bind fun r15=>
  (gj out r15).bind fun r16=>
  some (.inl (r16,aR (t30+1)))
 else
  some (.inr out)
def En:Option waA:=loop (fun(zz:waA×Int)=>GW R124 t t28 t29 zz.1 zz.2) (out,t30)
theorem Nx(hR124:Ht R124){y:(waA×Int)⊕(waA)}(h:GW R124 t t28 t29 out t30=some y):aU Pg GE 0 (cA qaF 247) (LQ (fun(zz:waA×Int)=>oO t t28 t29 zz.1 zz.2) (fun _=>.exit 2) zK y) (oO t t28 t29 out t30):=by
 rcases bj h with⟨c8,h⟩|⟨c8,h⟩
 ·obtain⟨x9,bx9,h⟩:=ay h
  obtain⟨l10,bl10,h⟩:=ay h
  obtain⟨o13,bo13,h⟩:=ay h
  obtain⟨r14,br14,h⟩:=ay h
  obtain⟨r15,br15,h⟩:=ay h
  obtain⟨r16,br16,h⟩:=ay h
  obtain rfl:=lf h
  have z:=sg 0 c8<|sv (ck.ia (k:=.i64) bx9)<|sv (aV x9)<|sx tc<|sx (ey x9)<|sv (aO t)<|sv (aP t)<|sv (aO t)<|sv (aP t)<|cm (bp.ln t.Names)<|sv (bp.sc bl10)<|kr 0<|cW (Po t out l10 t28 t29 t30 x9.Op x9.Name x9.Args x9.Names x9.Pred.Op x9.Pred.Name x9.Pred.N x9.Pred.Kids x9.Preds bo13)<|sv (cU x9 [])<|bz (hR124 _ _ br14)<|bz (EB br15)<|bz (nh br16)<|uz 0 .normal (oO t t28 t29 r16 (aR (t30+1))) rfl (dC (aI (ij (ak t)) (aI (up (aj dQ r16)) (aI (up (aj ak t28)) (aI trivial (aI trivial trivial)))))) (aI trivial trivial)
  exact df (A:=Ya) mixed z<|by kernel_rfl
 ·obtain rfl:=lf h
  have z:=sg 0 c8<|eF (.exit 2) (zK out)
  exact f6 Ya (by intro hx;cases hx) z<|by kernel_rfl
theorem Pq(hR124:Ht R124){x:waA}(h:En R124 t t28 t29 out t30=some x):aU Pg GE 0 (.loop (cA qaF 247)) (EX (.exit 2) (zK x)) (oO t t28 t29 out t30):=
 aU.loop (S:=fun(zz:waA×Int)=>oO t t28 t29 zz.1 zz.2) (ex:=(fun _=>.exit 2)) (s:=(out,t30)) h fun zz y hy=>Nx R124 t t28 t29 zz.1 zz.2 hR124 hy
end
def BM(R124:B6)(t:ae):Option waA:=
 (app ([t.Pred]:List aa) t.Preds).bind fun l1=>
 (Em l1 (l1.length:Int) ([]:List ag) 0).bind fun o7=>
 (En R124 t t.Args (t.Args.length:Int) o7 0).bind fun o17=>
 some o17
theorem Uz(R124:B6)(hR124:Ht R124){t:ae}{r:waA}(h:BM R124 t=some r):CC Pg GE 123 [.agg (af t)] (sl cS r) [(0,9)]:=by
 obtain⟨l1,bl1,h⟩:=ay h
 obtain⟨o7,bo7,h⟩:=ay h
 obtain⟨o17,bo17,h⟩:=ay h
 obtain rfl:=lf h
 have z:=se (bD t)<|sv (dE t)<|sv (dF t)<|sv (bL.mk' (v:=dW) cK ([t.Pred]:List aa) 1 (by kernel_rfl))<|sv (dq t)<|sv (dt t)<|sv (bL.ap bl1)<|cm (bL.ln l1)<|cW (Pp t l1 (l1.length:Int) ([]:List ag) 0 bo7)<|sv (aK t)<|sv (aL t)<|cm (ck.ln t.Args)<|cW (Pq R124 t t.Args (t.Args.length:Int) o7 0 hR124 bo17)<|en (aI (rP (sl cS o17))<|(aj dQ o17))
 exact bN Ya call123 func123 (c:=qaF) rfl (aI (ak t) trivial) z<|by kernel_rfl
def HL:(ae->Option waA)->(ae)->Option waA:=fun(rec:ae->Option waA) (x:ae)=>BM (fun t=>rec t) x
def Pn(t:ae):Option waA:=kJ HL t
theorem Wq{t:ae}{r:waA}(h:Pn t=some r):CC Pg GE 123 [.agg (af t)] (sl cS r) [(0,9)]:=
 cy (F:=HL) (M:=fun(x:ae) (r:waA)=>CC Pg GE 123 [.agg (af x)] (sl cS r) [(0,9)]) (fun rec hrec x r h=>Uz _ (fun t r h=>hrec t r h) h) h
noncomputable def qeD:Code:=f124.body.getD .skip
def qau:List Nat:=[14,28,34]
section
variable(name:ag)(c:au)(i:Int)(s:ag)(t10:waA)(t11:Int)(m:waB)(m2:waA)(m3:waB)
def RS:aA:=be 45 [(1,.str name),(2,.eptr (aG c)),(4,.bptr 1 0),(5,.bptr 2 0),(6,.int .i64 i),(7,.str s),(10,sl cS t10),(11,.int .i64 t11),(12,.int .i64 i)] [.dead,.cells [sl cS ([]:List ag),sl ac m] [(0,9),(1,36)],.cells [sl cS m2,sl ac m3] [(0,9),(1,36)]] []
def zM(o:Bool):aA:=be 45 [(1,.str name),(2,.eptr (aG c)),(4,.bptr 1 0),(5,.bptr 2 0),(6,.int .i64 i),(7,.str s),(10,sl cS t10),(11,.int .i64 t11),(12,.int .i64 i),(26,.bool o)] [.dead,.cells [sl cS ([]:List ag),sl ac m] [(0,9),(1,36)],.cells [sl cS m2,sl ac m3] [(0,9),(1,36)]] []
def Ep:Option Bool:=
 if(decide (i<(c.By.length:Int)))=true then
  some (!(s==name))
 else
  some false
theorem Ps{x:Bool}(h:Ep name c i s=some x):aU Pg GE 0 (cA qeD 7670) (EX .normal (zM name c i s t10 t11 m m2 m3 x)) (RS name c i s t10 t11 m m2 m3):=by
 have p4:=fun{sc F} (r:PS sc F)=>sv (dT c)<|sv (dY c)<|cm (bL.ln c.By)<|r
 rcases bj h with⟨c3,h⟩|⟨c3,h⟩
 ·obtain rfl:=lf h
  exact cd qau (p4<|sg 6 c3<|eF .normal (zM name c i s t10 t11 m m2 m3 (!(s==name))))<|by kernel_rfl
 ·obtain rfl:=lf h
  exact cd qau (p4<|sg 6 c3<|eF .normal (zM name c i s t10 t11 m m2 m3 false))<|by kernel_rfl
end
section
variable(name:ag)(c:au)(t10:waA)(t11:Int)(m:waB)(t12:Int)(m2:waA)(m3:waB)
def ls:aA:=be 45 [(1,.str name),(2,.eptr (aG c)),(4,.bptr 1 0),(5,.bptr 2 0),(10,sl cS t10),(11,.int .i64 t11),(12,.int .i64 t12)] [.dead,.cells [sl cS ([]:List ag),sl ac m] [(0,9),(1,36)],.cells [sl cS m2,sl ac m3] [(0,9),(1,36)]] []
def zN(o:waA×waB):aA:=be 45 [(4,.bptr 1 0),(5,.bptr 2 0)] [.dead,.cells [sl cS ([]:List ag),sl ac m] [(0,9),(1,36)],.cells [sl cS o.1,sl ac o.2] [(0,9),(1,36)]] []
def je:Option ((Int×waA×waB)⊕((waA×waB))):=
 if(decide (t12<t11))=true then
  (cz t10 t12).bind fun x2=>
  (Ep name c t12 x2).bind fun o5=>
  if o5=true then
   (app m2 ([x2]:List ag)).bind fun l8=>
   (cz c.By t12).bind fun x9=>
   (app m3 ([x9]:List aa)).bind fun l10=>
   some (.inl (aR (t12+1),l8,l10))
  else
   some (.inl (aR (t12+1),m2,m3))
 else
  some (.inr (m2,m3))
def Er:Option ((waA×waB)):=loop (fun(zz:Int×waA×waB)=>je name c t10 t11 zz.1 zz.2.1 zz.2.2) (t12,m2,m3)
theorem NA{y:(Int×waA×waB)⊕((waA×waB))}(h:je name c t10 t11 t12 m2 m3=some y):aU Pg GE 0 (cA qeD 119) (LQ (fun(zz:Int×waA×waB)=>ls name c t10 t11 m zz.1 zz.2.1 zz.2.2) (fun _=>.exit 0) (zN m) y) (ls name c t10 t11 m t12 m2 m3):=by
 rcases bj h with⟨c1,h⟩|⟨c1,h⟩
 ·obtain⟨x2,bx2,h⟩:=ay h
  obtain⟨o5,bo5,h⟩:=ay h
  have p7:=fun{sc F} (r:PS sc F)=>sg 0 c1<|sv (bp.ia (k:=.i64) bx2)<|sv (dH Ba (.str x2) [])<|kr 0<|cW (Ps name c t12 x2 t10 t11 m m2 m3 bo5)<|r
  rcases bj h with⟨c6,h⟩|⟨c6,h⟩
  ·obtain⟨l8,bl8,h⟩:=ay h
   obtain⟨x9,bx9,h⟩:=ay h
   obtain⟨l10,bl10,h⟩:=ay h
   obtain rfl:=lf h
   exact n9 qau (p7<|sg 0 c6<|sv (bp.mk' (v:=PVal.str) E8 ([x2]:List ag) 1 (by kernel_rfl))<|sv (bp.ap bl8)<|lY [0,1,0,4,0,28,60,124,255,511,1023]<|sv (dT c)<|sv (dY c)<|sv (bL.ia (k:=.i64) bx9)<|sv (bh x9)<|sv (bL.mk' (v:=dW) cK ([x9]:List aa) 1 (by kernel_rfl))<|sv (bL.ap bl10)<|VP (rfl:bK (sl ac l10)=some [sl ac l10])<|eF .normal (ls name c t10 t11 m (aR (t12+1)) l8 l10))<|by kernel_rfl
  ·obtain rfl:=lf h
   exact n9 qau (p7<|sg 0 c6<|eF .normal (ls name c t10 t11 m (aR (t12+1)) m2 m3))<|by kernel_rfl
 ·obtain rfl:=lf h
  have z:=sg 0 c1<|eF (.exit 0) (zN m (m2,m3))
  exact f6 qau (by intro hx;cases hx) z<|by kernel_rfl
theorem Pt{x:(waA×waB)}(h:Er name c t10 t11 t12 m2 m3=some x):aU Pg GE 0 (.loop (cA qeD 119)) (EX (.exit 0) (zN m x)) (ls name c t10 t11 m t12 m2 m3):=
 aU.loop (S:=fun(zz:Int×waA×waB)=>ls name c t10 t11 m zz.1 zz.2.1 zz.2.2) (ex:=(fun _=>.exit 0)) (s:=(t12,m2,m3)) h fun zz y hy=>NA name c t10 t11 m zz.1 zz.2.1 zz.2.2 hy
end
def Jf(c:au)(name:ag):Option au:=
 (Er name c c.Names (c.Names.length:Int) 0 ([]:List ag) ([]:List aa)).bind fun o11=>
 some (⟨o11.1,o11.2⟩:au)
theorem Wr{c:au}{name:ag}{r:au}(h:Jf c name=some r):CC Pg GE 124 [.agg (aG c),.str name] (.agg (aG r)) [(0,9),(1,36)]:=by
 obtain⟨o11,bo11,h⟩:=ay h
 obtain rfl:=lf h
 have z:=se (im c)<|sx qdL<|sb (kG) (kF)<|sx qdL<|sy (cZ (⟨([]:List ag),([]:List aa)⟩:au))<|sv (rt c)<|sv (rY c)<|cm (bp.ln c.Names)<|cW (Pt name c c.Names (c.Names.length:Int) ([]:List aa) 0 ([]:List ag) ([]:List aa) bo11)<|sz (dV (⟨o11.1,o11.2⟩:au) [])<|sy (cZ (⟨o11.1,o11.2⟩:au))<|en (aI (wj (⟨o11.1,o11.2⟩:au))<|aI (d6 (⟨o11.1,o11.2⟩:au))<|rT)
 exact bN qau call124 func124 (c:=qeD) rfl (aI (d6 c) (aI trivial trivial)) z<|by kernel_rfl
noncomputable def qeE:Code:=f125.body.getD .skip
def qb4:List Nat:=[]
section
variable(name:ag)(t8:waB)(t9:Int)(t10:Int)
def mD:aA:=be 20 [(1,.str name),(8,sl ac t8),(9,.int .i64 t9),(10,.int .i64 t10)] [.dead] []
def mE(o:Unit⊕(Unit)):Exit:=match o with
 |(.inl _)=>.ret
 |(.inr _)=>.exit 0
def jT(o:Unit⊕(Unit)):aA:=match o with
 |(.inl o)=>be 20 [(4,.bool true)] [.dead] []
 |(.inr o)=>be 20 [] [.dead] []
def xi:Option (Int⊕(Unit⊕(Unit))):=
 if(decide (t10<t9))=true then
  (cz t8 t10).bind fun x2=>
  (tU x2).bind fun r3=>
  (gI r3 name).bind fun r4=>
  if(decide (r4>=0))=true then
   some (.inr (.inl ()))
  else
   some (.inl (aR (t10+1)))
 else
  some (.inr (.inr ()))
def BO:Option (Unit⊕(Unit)):=loop (fun(zz:Int)=>xi name t8 t9 zz) t10
theorem Lk{y:Int⊕(Unit⊕(Unit))}(h:xi name t8 t9 t10=some y):aU Pg GE 0 (cA qeE 55) (LQ (fun(zz:Int)=>mD name t8 t9 zz) mE jT y) (mD name t8 t9 t10):=by
 rcases bj h with⟨c1,h⟩|⟨c1,h⟩
 ·obtain⟨x2,bx2,h⟩:=ay h
  obtain⟨r3,br3,h⟩:=ay h
  obtain⟨r4,br4,h⟩:=ay h
  have p6:=fun{sc F} (r:PS sc F)=>sg 0 c1<|sv (bL.ia (k:=.i64) bx2)<|sv (bh x2)<|sx hO<|sx (cj x2)<|sv (bT x2 [])<|bz (DK br3)<|bz (j6 br4)<|r
  rcases bj h with⟨c5,h⟩|⟨c5,h⟩
  ·obtain rfl:=lf h
   have z:=p6<|sg 0 c5<|uz 0 (mE (.inl ())) (jT (.inl ())) rfl (dC (aI trivial trivial)) (aI trivial trivial)
   exact Iq (A:=qb4) mixed (by intro hx;cases hx) z<|by kernel_rfl
  ·obtain rfl:=lf h
   have z:=p6<|sg 0 c5<|uz 0 .normal (mD name t8 t9 (aR (t10+1))) rfl (dC (aI trivial (aI (up (aj ah t8)) (aI trivial (aI trivial trivial))))) (aI trivial trivial)
   exact df (A:=qb4) mixed z<|by kernel_rfl
 ·obtain rfl:=lf h
  have z:=sg 0 c1<|eF (mE (.inr ())) (jT (.inr ()))
  exact f6 qb4 (by intro hx;cases hx) z<|by kernel_rfl
theorem CU{x:Unit⊕(Unit)}(h:BO name t8 t9 t10=some x):aU Pg GE 0 (.loop (cA qeE 55)) (EX (mE x) (jT x)) (mD name t8 t9 t10):=
 aU.loop (S:=fun(zz:Int)=>mD name t8 t9 zz) (ex:=mE) (s:=t10) h fun zz y hy=>Lk name t8 t9 zz hy
end
def FK(c:au)(name:ag):Option Bool:=
 (BO name c.By (c.By.length:Int) 0).bind fun o7=>match o7 with
 |(.inl o7)=>
  some true
 |(.inr o7)=>
  some false
theorem UB{c:au}{name:ag}{r:Bool}(h:FK c name=some r):CC Pg GE 125 [.agg (aG c),.str name] (.bool r) []:=by
 obtain⟨o7,bo7,h⟩:=ay h
 rcases o7 with o7|o7
 ·obtain rfl:=lf h
  have z:=se (im c)<|sv (dT c)<|sv (dY c)<|cm (bL.ln c.By)<|cW (e:=.ret) (s1:=jT (.inl o7)) (CU name c.By (c.By.length:Int) 0 bo7)<|en (aI (rP (.bool true))<|trivial)
  exact bN qb4 call125 func125 (c:=qeE) rfl (aI (d6 c) (aI trivial trivial)) z<|by kernel_rfl
 ·obtain rfl:=lf h
  have z:=se (im c)<|sv (dT c)<|sv (dY c)<|cm (bL.ln c.By)<|cW (e:=.exit 0) (s1:=jT (.inr o7)) (CU name c.By (c.By.length:Int) 0 bo7)<|en (aI (rP (.bool false))<|trivial)
  exact bN qb4 call125 func125 (c:=qeE) rfl (aI (d6 c) (aI trivial trivial)) z<|by kernel_rfl
section
variable(v:waA)(lo:Int)(n:Nat)(t9:Int)(w0:List ag)(out:waA)(t10:Int)
def jF:aA:=be 33 [(0,sl cS v),(1,.bsl 0 (lL Pg 9 lo) n),(5,sl cS out),(9,.int .i64 t9),(10,.int .i64 t10)] [.cells (pF cS w0) []] [((5,0),9)]
def sB(o:waA):aA:=be 33 [(1,.bsl 0 (lL Pg 9 lo) n),(5,sl cS o)] [.cells (pF cS w0) []] [((5,0),9)]
def Am:Option ((waA×Int)⊕(waA)):=
 if(decide (t10<t9))=true then
  (cz v t10).bind fun x2=>
  (yw out x2).bind fun r3=>
  some (.inl (r3,aR (t10+1)))
 else
  some (.inr out)
def wA:Option waA:=loop (fun(zz:waA×Int)=>Am v t9 zz.1 zz.2) (out,t10)
theorem Hv{y:(waA×Int)⊕(waA)}(h:Am v t9 out t10=some y):aU Pg GE 1 (cA R3 119) (LQ (fun(zz:waA×Int)=>jF v lo n t9 w0 zz.1 zz.2) (fun _=>.exit 0) (sB lo n w0) y) (jF v lo n t9 w0 out t10):=by
 rcases bj h with⟨c1,h⟩|⟨c1,h⟩
 ·obtain⟨x2,bx2,h⟩:=ay h
  obtain⟨r3,br3,h⟩:=ay h
  obtain rfl:=lf h
  exact n9 Rh (sg 0 c1<|sv (bp.ia (k:=.i64) bx2)<|sv (dH Ba (.str x2) [])<|bz (Bo br3)<|eF .normal (jF v lo n t9 w0 r3 (aR (t10+1))))<|by kernel_rfl
 ·obtain rfl:=lf h
  have z:=sg 0 c1<|eF (.exit 0) (sB lo n w0 out)
  exact f6 Rh (by intro hx;cases hx) z<|by kernel_rfl
theorem IS{x:waA}(h:wA v t9 out t10=some x):aU Pg GE 1 (.loop (cA R3 119)) (EX (.exit 0) (sB lo n w0 x)) (jF v lo n t9 w0 out t10):=
 aU.loop (S:=fun(zz:waA×Int)=>jF v lo n t9 w0 zz.1 zz.2) (ex:=(fun _=>.exit 0)) (s:=(out,t10)) h fun zz y hy=>Hv v lo n t9 w0 zz.1 zz.2 hy
end
section
variable(lo:Int)(n:Nat)(t21:Int)(w0:List ag)(out:waA)(t22:Int)
def jG:aA:=be 33 [(1,.bsl 0 (lL Pg 9 lo) n),(5,sl cS out),(21,.int .i64 t21),(22,.int .i64 t22)] [.cells (pF cS w0) []] [((5,0),9)]
def sC(o:waA):aA:=be 33 [(5,sl cS o)] [.cells (pF cS w0) []] [((5,0),9)]
def gY:Option ((waA×Int)⊕(waA)):=
 if(decide (t22<t21))=true then
  (qgN lo n w0 t22).bind fun x6=>
  (yw out x6).bind fun r7=>
  some (.inl (r7,aR (t22+1)))
 else
  some (.inr out)
def qE:Option waA:=loop (fun(zz:waA×Int)=>gY lo n t21 w0 zz.1 zz.2) (out,t22)
theorem Hw{y:(waA×Int)⊕(waA)}(h:gY lo n t21 w0 out t22=some y):aU Pg GE 1 (cA R3 247) (LQ (fun(zz:waA×Int)=>jG lo n t21 w0 zz.1 zz.2) (fun _=>.exit 2) (sC w0) y) (jG lo n t21 w0 out t22):=by
 rcases bj h with⟨c5,h⟩|⟨c5,h⟩
 ·obtain⟨x6,bx6,h⟩:=ay h
  obtain⟨r7,br7,h⟩:=ay h
  obtain rfl:=lf h
  exact n9 Rh (sg 0 c5<|sv (bp.iaM 0 (k:=.i64) bx6)<|sv (bp.ldM (fun r=>dH Ba (.str x6) r) bx6)<|bz (Bo br7)<|eF .normal (jG lo n t21 w0 r7 (aR (t22+1))))<|by kernel_rfl
 ·obtain rfl:=lf h
  have z:=sg 0 c5<|eF (.exit 2) (sC w0 out)
  exact f6 Rh (by intro hx;cases hx) z<|by kernel_rfl
theorem IT{x:waA}(h:qE lo n t21 w0 out t22=some x):aU Pg GE 1 (.loop (cA R3 247)) (EX (.exit 2) (sC w0 x)) (jG lo n t21 w0 out t22):=
 aU.loop (S:=fun(zz:waA×Int)=>jG lo n t21 w0 zz.1 zz.2) (ex:=(fun _=>.exit 2)) (s:=(out,t22)) h fun zz y hy=>Hw lo n t21 w0 zz.1 zz.2 hy
end
def yt(a:waA)(lo:Int)(n:Nat)(k0:List ag):Option waA:=
 (wA a (a.length:Int) ([]:List ag) 0).bind fun o4=>
 (qE lo n (n:Int) k0 o4 0).bind fun o8=>
 some o8
theorem OF{a:waA}{lo:Int}{n:Nat}{k0:List ag}{r:waA}(h:yt a lo n k0=some r):C Pg GE 121 [sl cS a,.bsl 0 (lL Pg 9 lo) n] [] [.cells (pF cS k0) []] (sl cS r) [(0,9)] [.cells (pF cS k0) []]:=by
 obtain⟨o4,bo4,h⟩:=ay h
 obtain⟨o8,bo8,h⟩:=ay h
 obtain rfl:=lf h
 have z:=cm (bp.ln a)<|cW (IS a lo n (a.length:Int) k0 ([]:List ag) 0 bo4)<|cm (bp.lnR 0 (lL Pg 9 lo) n)<|cW (IT lo n (n:Int) k0 o4 0 bo8)<|en (aI (rP (sl cS o8))<|aI (up (n:=1) (aj dQ o8))<|aI (rL [.cells (pF cS k0) []])<|(aI (qeg 1 dQ k0) trivial))
 exact C.evGp (A:=Rh) mixed (m:=1) (c:=R3) rfl call121 func121 rfl z<|by kernel_rfl
end Go.Proofs.YtbaamopmfmpfaaaGreatDoor
