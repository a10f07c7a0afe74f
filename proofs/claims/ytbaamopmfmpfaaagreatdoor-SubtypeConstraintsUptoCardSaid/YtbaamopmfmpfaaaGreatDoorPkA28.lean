/- PROVED: parts of the proof (G14 Na Nb PlB Pp1 Pp2). Conditions: none. -/
import Derived.Test.YtbaamopmfmpfaaaGreatDoorPkA27
import Derived.Test.YtbaamopmfmpfaaaGreatDoorPkA13
import Derived.Test.YtbaamopmfmpfaaaGreatDoorPkA10
noncomputable section
namespace Go.Proofs.YtbaamopmfmpfaaaGreatDoor
open Go
set_option linter.unusedVariables false
set_option maxRecDepth 100000
def qh3:Code:=Tryz.f13.body.getD .skip
def qhb:List Nat:=[]
section
variable(tag:Int)(used:waA)(m:aH)(v:ae)(v2:ae)(m2:waB)(m3:waD)
def UE:aA:=be 46 [(3,.int .i64 tag),(4,sl cS used),(5,.eptr (aB m)),(6,.eptr (af v)),(7,.eptr (af v2)),(10,.bptr 3 0)] [.dead,.dead,.dead,.cells [.int .i64 0,.str ([]:ag),.str ([]:ag),.int .i64 0,.str ([]:ag),.int .i64 0,sl ac m2,.int .i64 0,sl aw m3] [(6,36),(8,50)]] []
def BV(o:Bool):aA:=be 46 [(3,.int .i64 tag),(4,sl cS used),(5,.eptr (aB m)),(6,.eptr (af v)),(7,.eptr (af v2)),(10,.bptr 3 0),(27,.bool o)] [.dead,.dead,.dead,.cells [.int .i64 0,.str ([]:ag),.str ([]:ag),.int .i64 0,.str ([]:ag),.int .i64 0,sl ac m2,.int .i64 0,sl aw m3] [(6,36),(8,50)]] []
def HU:Option Bool:=
 if(v.Op==6)=true then
  some (decide ((v.Args.length:Int)>0))
 else
  some false
theorem RX{x:Bool}(h:HU v=some x):
  aU Pg GE 0 (cA qh3 446) (EX .normal (BV tag used m v v2 m2 m3 x)) (UE tag used m v v2 m2 m3):=by
 have p9:=fun{sc F} (r:PS sc F)=>sv (aC v)<|sv (aD v)<|r
 rcases bj h with⟨c8,h⟩|⟨c8,h⟩
 ·obtain rfl:=lf h
  exact cd qhb (p9<|sg 4 c8<|sv (aK v)<|sv (aL v)<|cm (ck.ln v.Args)<|eF .normal (BV tag used m v v2 m2 m3 (decide ((v.Args.length:Int)>0)))) (by kernel_rfl)
 ·obtain rfl:=lf h
  exact cd qhb (p9<|sg 4 c8<|eF .normal (BV tag used m v v2 m2 m3 false)) (by kernel_rfl)
end
def wm(R94:nw)(m:aH)(a:ae)(a2:ae)(tag:Int)(used:waA):Option (ai×Int):=
 (OW a a2).bind fun r1=>
 if(!r1)=true then
  some ((⟨0,([]:ag),([]:ag),(⟨0,([]:ag),0,([]:List aa)⟩:aa),0,([]:List ai)⟩:ai),12)
 else
  (Jk a).bind fun r4=>
  if r4=true then
   (Jl m a a2 tag used).bind fun r7=>
   some (r7,0)
  else
   (HU a).bind fun o10=>
   if o10=true then
    (BW R94 m a a2 0 tag used).bind fun r13=>
    some (r13.1,r13.2)
   else
    some ((⟨1,([]:ag),([]:ag),(⟨0,([]:ag),0,([]:List aa)⟩:aa),0,([]:List ai)⟩:ai),0)
theorem Wv(R94:nw)(hR94:KH R94){m:aH}{a:ae}{a2:ae}{tag:Int}{used:waA}{r:ai×Int}(h:wm R94 m a a2 tag used=some r):CC Pg GE 13 [.agg (aB m),.agg (af a),.agg (af a2),.int .i64 tag,sl cS used] (.tuple [.agg (aw r.1),.int .i64 r.2]) []:=by
 obtain⟨r1,br1,h⟩:=ay h
 have p3:=fun{sc F} (r:PS sc F)=>se (jm m)<|se (bD a)<|se (bD a2)<|sx td<|sv (aV a)<|sv (aV a2)<|bz (Wk br1)<|r
 rcases bj h with⟨c2,h⟩|⟨c2,h⟩
 ·obtain rfl:=lf h
  have z:=p3<|sg 0 c2<|sb (Cd) (Cb)<|sy (cb (⟨0,([]:ag),([]:ag),(⟨0,([]:ag),0,([]:List aa)⟩:aa),0,([]:List ai)⟩:ai))<|en (aI (va9 PVal.tuple (jv (cM (⟨0,([]:ag),([]:ag),(⟨0,([]:ag),0,([]:List aa)⟩:aa),0,([]:List ai)⟩:ai)) (jv (rP (.int .i64 12)) (rfl:([]:List PVal)=[]))))<|(aI (ba (⟨0,([]:ag),([]:ag),(⟨0,([]:ag),0,([]:List aa)⟩:aa),0,([]:List ai)⟩:ai)) (aI trivial trivial)))
  exact bN qhb Tryz.call13 Tryz.func13 (c:=qh3) rfl (aI (de m) (aI (ak a) (aI (ak a2) (aI trivial (aI (aj dQ used) trivial))))) z (by kernel_rfl)
 ·obtain⟨r4,br4,h⟩:=ay h
  have p6:=fun{sc F} (r:PS sc F)=>p3<|sg 0 c2<|sv (aV a)<|bz (Mh br4)<|r
  rcases bj h with⟨c5,h⟩|⟨c5,h⟩
  ·obtain⟨r7,br7,h⟩:=ay h
   obtain rfl:=lf h
   have z:=p6<|sg 0 c5<|sv (jl m)<|sv (aV a)<|sv (aV a2)<|bz (Ww br7)<|sx (cF r7)<|en (aI (va9 PVal.tuple (jv (cM r7) (jv (rP (.int .i64 0)) (rfl:([]:List PVal)=[]))))<|(aI (ba r7) (aI trivial trivial)))
   exact bN qhb Tryz.call13 Tryz.func13 (c:=qh3) rfl (aI (de m) (aI (ak a) (aI (ak a2) (aI trivial (aI (aj dQ used) trivial))))) z (by kernel_rfl)
  ·obtain⟨o10,bo10,h⟩:=ay h
   have p12:=fun{sc F} (r:PS sc F)=>p6<|sg 0 c5<|kr 0<|cW (RX tag used m a a2 ([]:List aa) ([]:List ai) bo10)<|r
   rcases bj h with⟨c11,h⟩|⟨c11,h⟩
   ·obtain⟨r13,br13,h⟩:=ay h
    obtain rfl:=lf h
    have z:=p12<|sg 0 c11<|sv (jl m)<|sv (aV a)<|sv (aV a2)<|bz (NI R94 hR94 br13)<|sx (cF r13.1)<|en (aI (va9 PVal.tuple (jv (cM r13.1) (jv (rP (.int .i64 r13.2)) (rfl:([]:List PVal)=[]))))<|(aI (ba r13.1) (aI trivial trivial)))
    exact bN qhb Tryz.call13 Tryz.func13 (c:=qh3) rfl (aI (de m) (aI (ak a) (aI (ak a2) (aI trivial (aI (aj dQ used) trivial))))) z (by kernel_rfl)
   ·obtain rfl:=lf h
    have z:=p12<|sg 0 c11<|sb (xz 1) (xx 1)<|sy (cb (⟨1,([]:ag),([]:ag),(⟨0,([]:ag),0,([]:List aa)⟩:aa),0,([]:List ai)⟩:ai))<|en (aI (va9 PVal.tuple (jv (cM (⟨1,([]:ag),([]:ag),(⟨0,([]:ag),0,([]:List aa)⟩:aa),0,([]:List ai)⟩:ai)) (jv (rP (.int .i64 0)) (rfl:([]:List PVal)=[]))))<|(aI (ba (⟨1,([]:ag),([]:ag),(⟨0,([]:ag),0,([]:List aa)⟩:aa),0,([]:List ai)⟩:ai)) (aI trivial trivial)))
    exact bN qhb Tryz.call13 Tryz.func13 (c:=qh3) rfl (aI (de m) (aI (ak a) (aI (ak a2) (aI trivial (aI (aj dQ used) trivial))))) z (by kernel_rfl)
def FO:((aH×ae×ae×Int×waA)->Option (ai×Int))->(aH×ae×ae×Int×waA)->Option (ai×Int):=fun(rec:(aH×ae×ae×Int×waA)->Option (ai×Int)) (x:aH×ae×ae×Int×waA)=>wm (fun m a a2 tag used=>rec (m,a,a2,tag,used)) x.1 x.2.1 x.2.2.1 x.2.2.2.1 x.2.2.2.2
def N9(m:aH)(a:ae)(a2:ae)(tag:Int)(used:waA):Option (ai×Int):=kJ FO (m,a,a2,tag,used)
theorem Yf{m:aH}{a:ae}{a2:ae}{tag:Int}{used:waA}{r:ai×Int}(h:N9 m a a2 tag used=some r):CC Pg GE 13 [.agg (aB m),.agg (af a),.agg (af a2),.int .i64 tag,sl cS used] (.tuple [.agg (aw r.1),.int .i64 r.2]) []:=
 cy (F:=FO) (M:=fun(x:aH×ae×ae×Int×waA) (r:ai×Int)=>CC Pg GE 13 [.agg (aB x.1),.agg (af x.2.1),.agg (af x.2.2.1),.int .i64 x.2.2.2.1,sl cS x.2.2.2.2] (.tuple [.agg (aw r.1),.int .i64 r.2]) []) (fun rec hrec x r h=>Wv _ (fun m a a2 tag used r h=>hrec (m,a,a2,tag,used) r h) h) h
abbrev qY:=(ai->ai->Option Bool)
abbrev ww(R:qY):Prop:=∀(a:ai) (a2:ai) (r:Bool),R a a2=some r->CC Pg GE 14 [.agg (aw a),.agg (aw a2)] (.bool r) []
def qhj:Code:=Tryz.f14.body.getD .skip
def qb0:List Nat:=[]
section
variable(v:ai)(v2:ai)
def Ji:aA:=be 68 [(2,.eptr (aw v)),(3,.eptr (aw v2))] [.dead,.dead] []
def eX(o:Bool):aA:=be 68 [(2,.eptr (aw v)),(3,.eptr (aw v2)),(48,.bool o)] [.dead,.dead] []
def uR:Option Bool:=
 if(v.Op !=v2.Op)=true then
  some true
 else
  if(!(v.Name==v2.Name))=true then
   some true
  else
   if(!(v.Sort_==v2.Sort_))=true then
    some true
   else
    if(v.Tag !=v2.Tag)=true then
     some true
    else
     (qK v.Pred v2.Pred).bind fun r9=>
     if(!r9)=true then
      some true
     else
      some ((v.Kids.length:Int)!=(v2.Kids.length:Int))
theorem HS{x:Bool}(h:uR v v2=some x):
  aU Pg GE 0 (cA qhj 12) (EX .normal (eX v v2 x)) (Ji v v2):=by
 have p2:=fun{sc F} (r:PS sc F)=>sv (oY v)<|sv (pf v)<|sv (oY v2)<|sv (pf v2)<|r
 rcases bj h with⟨c1,h⟩|⟨c1,h⟩
 ·obtain rfl:=lf h
  exact cd qb0 (p2<|sg 6 c1<|eF .normal (eX v v2 true)) (by kernel_rfl)
 ·have p4:=fun{sc F} (r:PS sc F)=>p2<|sg 6 c1<|sv (tF v)<|sv (v7 v)<|sv (tF v2)<|sv (v7 v2)<|r
  rcases bj h with⟨c3,h⟩|⟨c3,h⟩
  ·obtain rfl:=lf h
   exact cd qb0 (p4<|sg 13 c3<|eF .normal (eX v v2 true)) (by kernel_rfl)
  ·have p6:=fun{sc F} (r:PS sc F)=>p4<|sg 13 c3<|sv (zT v)<|sv (zZ v)<|sv (zT v2)<|sv (zZ v2)<|r
   rcases bj h with⟨c5,h⟩|⟨c5,h⟩
   ·obtain rfl:=lf h
    exact cd qb0 (p6<|sg 20 c5<|eF .normal (eX v v2 true)) (by kernel_rfl)
   ·have p8:=fun{sc F} (r:PS sc F)=>p6<|sg 20 c5<|sv (zU v)<|sv (Cu v)<|sv (zU v2)<|sv (Cu v2)<|r
    rcases bj h with⟨c7,h⟩|⟨c7,h⟩
    ·obtain rfl:=lf h
     exact cd qb0 (p8<|sg 27 c7<|eF .normal (eX v v2 true)) (by kernel_rfl)
    ·obtain⟨r9,br9,h⟩:=ay h
     have p11:=fun{sc F} (r:PS sc F)=>p8<|sg 27 c7<|sv (oZ v)<|sv (pg v)<|sv (oZ v2)<|sv (pg v2)<|bz (tV br9)<|r
     rcases bj h with⟨c10,h⟩|⟨c10,h⟩
     ·obtain rfl:=lf h
      exact cd qb0 (p11<|sg 35 c10<|eF .normal (eX v v2 true)) (by kernel_rfl)
     ·obtain rfl:=lf h
      exact cd qb0 (p11<|sg 35 c10<|sv (jh v)<|sv (jj v)<|cm (mX.ln v.Kids)<|sv (jh v2)<|sv (jj v2)<|cm (mX.ln v2.Kids)<|eF .normal (eX v v2 ((v.Kids.length:Int)!=(v2.Kids.length:Int)))) (by kernel_rfl)
end
section
variable(R129:qY)(v:ai)(v2:ai)(i:Int)
def iS:aA:=be 68 [(2,.eptr (aw v)),(3,.eptr (aw v2)),(5,.int .i64 i)] [.dead,.dead] []
def iU(o:Unit⊕(Unit)):Exit:=match o with
 |(.inl _)=>.ret
 |(.inr _)=>.exit 0
def gp(o:Unit⊕(Unit)):aA:=match o with
 |(.inl o)=>be 68 [(4,.bool false)] [.dead,.dead] []
 |(.inr o)=>be 68 [] [.dead,.dead] []
def iT:Option (Int⊕(Unit⊕(Unit))):=
 if(decide (i<(v.Kids.length:Int)))=true then
  (cz v.Kids i).bind fun x17=>
  (cz v2.Kids i).bind fun x18=>
  (R129 x17 x18).bind fun r19=>
  if(!r19)=true then
   some (.inr (.inl ()))
  else
   some (.inl (aR (i+1)))
 else
  some (.inr (.inr ()))
def uS:Option (Unit⊕(Unit)):=loop (fun(zz:Int)=>iT R129 v v2 zz) i
theorem Gz(hR129:ww R129){y:Int⊕(Unit⊕(Unit))}(h:iT R129 v v2 i=some y):
  aU Pg GE 0 (cA qhj 119) (LQ (fun(zz:Int)=>iS v v2 zz) iU gp y) (iS v v2 i):=by
 have p16:=fun{sc F} (r:PS sc F)=>sv (jh v)<|sv (jj v)<|cm (mX.ln v.Kids)<|r
 rcases bj h with⟨c15,h⟩|⟨c15,h⟩
 ·obtain⟨x17,bx17,h⟩:=ay h
  obtain⟨x18,bx18,h⟩:=ay h
  obtain⟨r19,br19,h⟩:=ay h
  have p21:=fun{sc F} (r:PS sc F)=>p16<|sg 0 c15<|lY [0,1,0,7,15,0,32,0,224,480,1023,2047]<|sv (jh v)<|sv (jj v)<|sv (mX.ia (k:=.i64) bx17)<|sv (iZ x17)<|sv (jh v2)<|sv (jj v2)<|sv (mX.ia (k:=.i64) bx18)<|sv (iZ x18)<|bz (hR129 _ _ _ br19)<|r
  rcases bj h with⟨c20,h⟩|⟨c20,h⟩
  ·obtain rfl:=lf h
   have z:=p21<|sg 0 c20<|eF (iU (.inl ())) (gp (.inl ()))
   exact f6 qb0 (by intro hx;cases hx) z (by kernel_rfl)
  ·obtain rfl:=lf h
   exact n9 qb0 (p21<|sg 0 c20<|eF .normal (iS v v2 (aR (i+1)))) (by kernel_rfl)
 ·obtain rfl:=lf h
  have z:=p16<|sg 0 c15<|eF (iU (.inr ())) (gp (.inr ()))
  exact f6 qb0 (by intro hx;cases hx) z (by kernel_rfl)
theorem xm(hR129:ww R129){x:Unit⊕(Unit)}(h:uS R129 v v2 i=some x):
  aU Pg GE 0 (.loop (cA qhj 119)) (EX (iU x) (gp x)) (iS v v2 i):=
 aU.loop (S:=fun(zz:Int)=>iS v v2 zz) (ex:=iU) (s:=i) h fun zz y hy=>Gz R129 v v2 zz hR129 hy
end
def qT(R129:qY)(a:ai)(a2:ai):Option Bool:=
 (uR a a2).bind fun o12=>
 if o12=true then
  some false
 else
  (uS R129 a a2 0).bind fun o22=>match o22 with
  |(.inl o22)=>
   some false
  |(.inr o22)=>
   some true
theorem Lm(R129:qY)(hR129:ww R129){a:ai}{a2:ai}{r:Bool}(h:qT R129 a a2=some r):CC Pg GE 14 [.agg (aw a),.agg (aw a2)] (.bool r) []:=by
 obtain⟨o12,bo12,h⟩:=ay h
 have p14:=fun{sc F} (r:PS sc F)=>se (rz a)<|se (rz a2)<|kr 1<|cW (HS a a2 bo12)<|r
 rcases bj h with⟨c13,h⟩|⟨c13,h⟩
 ·obtain rfl:=lf h
  have z:=p14<|sg 0 c13<|en (aI (rP (.bool false))<|trivial)
  exact bN qb0 Tryz.call14 Tryz.func14 (c:=qhj) rfl (aI (ba a) (aI (ba a2) trivial)) z (by kernel_rfl)
 ·obtain⟨o22,bo22,h⟩:=ay h
  rcases o22 with o22|o22
  ·obtain rfl:=lf h
   have z:=p14<|sg 0 c13<|cW (e:=.ret) (s1:=gp (.inl o22)) (xm R129 a a2 0 hR129 bo22)<|en (aI (rP (.bool false))<|trivial)
   exact bN qb0 Tryz.call14 Tryz.func14 (c:=qhj) rfl (aI (ba a) (aI (ba a2) trivial)) z (by kernel_rfl)
  ·obtain rfl:=lf h
   have z:=p14<|sg 0 c13<|cW (e:=.exit 0) (s1:=gp (.inr o22)) (xm R129 a a2 0 hR129 bo22)<|en (aI (rP (.bool true))<|trivial)
   exact bN qb0 Tryz.call14 Tryz.func14 (c:=qhj) rfl (aI (ba a) (aI (ba a2) trivial)) z (by kernel_rfl)
def xl:((ai×ai)->Option Bool)->(ai×ai)->Option Bool:=fun(rec:(ai×ai)->Option Bool) (x:ai×ai)=>qT (fun a a2=>rec (a,a2)) x.1 x.2
def BS(a:ai)(a2:ai):Option Bool:=kJ xl (a,a2)
theorem NF{a:ai}{a2:ai}{r:Bool}(h:BS a a2=some r):CC Pg GE 14 [.agg (aw a),.agg (aw a2)] (.bool r) []:=
 cy (F:=xl) (M:=fun(x:ai×ai) (r:Bool)=>CC Pg GE 14 [.agg (aw x.1),.agg (aw x.2)] (.bool r) []) (fun rec hrec x r h=>Lm _ (fun a a2 r h=>hrec (a,a2) r h) h) h
def b3:Code:=Tryz.f3.body.getD .skip
def A3:List Nat:=[]
section
variable(used:waA)(m:aH)(v:aQ)
def vS:aA:=be 72 [(2,sl cS used),(3,.eptr (aB m)),(4,.eptr (aE v))] [.dead,.dead] []
def du(o:Bool):aA:=be 72 [(2,sl cS used),(3,.eptr (aB m)),(4,.eptr (aE v)),(35,.bool o)] [.dead,.dead] []
def fu:Option Bool:=
 (FI m).bind fun r1=>
 if(!r1)=true then
  some true
 else
  (Av v.A).bind fun r4=>
  if(!r4)=true then
   some true
  else
   (Av v.B).bind fun r7=>
   if(!r7)=true then
    some true
   else
    (Oa used).bind fun r10=>
    if(!r10)=true then
     some true
    else
     (FT v).bind fun r13=>
     some (!r13)
theorem uW{x:Bool}(h:fu used m v=some x):
  aU Pg GE 0 (cA b3 12) (EX .normal (du used m v x)) (vS used m v):=by
 obtain⟨r1,br1,h⟩:=ay h
 have p3:=fun{sc F} (r:PS sc F)=>sv (jl m)<|bz (Ux br1)<|r
 rcases bj h with⟨c2,h⟩|⟨c2,h⟩
 ·obtain rfl:=lf h
  exact cd A3 (p3<|sg 4 c2<|eF .normal (du used m v true)) (by kernel_rfl)
 ·obtain⟨r4,br4,h⟩:=ay h
  have p6:=fun{sc F} (r:PS sc F)=>p3<|sg 4 c2<|sv (ek v)<|sv (er v)<|bz (Ju br4)<|r
  rcases bj h with⟨c5,h⟩|⟨c5,h⟩
  ·obtain rfl:=lf h
   exact cd A3 (p6<|sg 10 c5<|eF .normal (du used m v true)) (by kernel_rfl)
  ·obtain⟨r7,br7,h⟩:=ay h
   have p9:=fun{sc F} (r:PS sc F)=>p6<|sg 10 c5<|sv (eo v)<|sv (eu v)<|bz (Ju br7)<|r
   rcases bj h with⟨c8,h⟩|⟨c8,h⟩
   ·obtain rfl:=lf h
    exact cd A3 (p9<|sg 16 c8<|eF .normal (du used m v true)) (by kernel_rfl)
   ·obtain⟨r10,br10,h⟩:=ay h
    have p12:=fun{sc F} (r:PS sc F)=>p9<|sg 16 c8<|bz (Yg br10)<|r
    rcases bj h with⟨c11,h⟩|⟨c11,h⟩
    ·obtain rfl:=lf h
     exact cd A3 (p12<|sg 21 c11<|eF .normal (du used m v true)) (by kernel_rfl)
    ·obtain⟨r13,br13,h⟩:=ay h
     obtain rfl:=lf h
     exact cd A3 (p12<|sg 21 c11<|sv (z7 v)<|bz (UG br13)<|eF .normal (du used m v (!r13))) (by kernel_rfl)
end
def kf(m:aH)(a:aQ)(used:waA):Option Bool:=
 (fu used m a).bind fun o14=>
 if o14=true then
  FQ.bind fun r17=>
  some r17
 else
  (nc m a.A a.B a.Tag used).bind fun r18=>
  (N9 m a.A a.B a.Tag used).bind fun r19=>
  (BS r18.1 r19.1).bind fun r20=>
  if r20=true then
   if(r18.2==r19.2)=true then
    FQ.bind fun r25=>
    some r25
   else
    some false
  else
   some false
theorem yg{m:aH}{a:aQ}{used:waA}{r:Bool}(h:kf m a used=some r):CC Pg GE 3 [.agg (aB m),.agg (aE a),sl cS used] (.bool r) []:=by
 obtain⟨o14,bo14,h⟩:=ay h
 have p16:=fun{sc F} (r:PS sc F)=>se (jm m)<|se (pn a)<|kr 1<|cW (uW used m a bo14)<|r
 rcases bj h with⟨c15,h⟩|⟨c15,h⟩
 ·obtain⟨r17,br17,h⟩:=ay h
  obtain rfl:=lf h
  have z:=p16<|sg 0 c15<|bz (Jt br17)<|en (aI (rP (.bool r17))<|trivial)
  exact bN A3 Tryz.call3 Tryz.func3 (c:=b3) rfl (aI (de m) (aI (dR a) (aI (aj dQ used) trivial))) z (by kernel_rfl)
 ·obtain⟨r18,br18,h⟩:=ay h
  obtain⟨r19,br19,h⟩:=ay h
  obtain⟨r20,br20,h⟩:=ay h
  have p22:=fun{sc F} (r:PS sc F)=>p16<|sg 0 c15<|sv (jl m)<|sv (ek a)<|sv (er a)<|sv (eo a)<|sv (eu a)<|sv (j8 a)<|sv (ka a)<|bz (rU br18)<|sx td<|sx (cF r18.1)<|sv (jl m)<|sv (ek a)<|sv (er a)<|sv (eo a)<|sv (eu a)<|sv (j8 a)<|sv (ka a)<|bz (Yf br19)<|sx td<|sx (cF r19.1)<|sv (eM r18.1 [])<|sv (eM r19.1 [])<|bz (NF br20)<|r
  rcases bj h with⟨c21,h⟩|⟨c21,h⟩
  ·have p24:=fun{sc F} (r:PS sc F)=>p22<|sg 4 c21<|r
   rcases bj h with⟨c23,h⟩|⟨c23,h⟩
   ·obtain⟨r25,br25,h⟩:=ay h
    obtain rfl:=lf h
    have z:=p24<|sg 9 c23<|bz (Jt br25)<|en (aI (rP (.bool r25))<|trivial)
    exact bN A3 Tryz.call3 Tryz.func3 (c:=b3) rfl (aI (de m) (aI (dR a) (aI (aj dQ used) trivial))) z (by kernel_rfl)
   ·obtain rfl:=lf h
    have z:=p24<|sg 9 c23<|en (aI (rP (.bool false))<|trivial)
    exact bN A3 Tryz.call3 Tryz.func3 (c:=b3) rfl (aI (de m) (aI (dR a) (aI (aj dQ used) trivial))) z (by kernel_rfl)
  ·obtain rfl:=lf h
   have z:=p22<|sg 4 c21<|en (aI (rP (.bool false))<|trivial)
   exact bN A3 Tryz.call3 Tryz.func3 (c:=b3) rfl (aI (de m) (aI (dR a) (aI (aj dQ used) trivial))) z (by kernel_rfl)
theorem XS{α β X:Type}(g:α->β)(e:List β->X):∀(l:List α) (i:Nat) (s:List β),mV (fun _ x (s:List β)=>(Sum.inl (s++[g x]):List β⊕X)) e l i s=e (s++l.map g)
 |[],i,s=>by simp[mV]
 |x::l,i,s=>by
  unfold mV
  simp only
  rw[XS g e l (i+1) (s++[g x])]
  simp
theorem Xh{α β τ X:Type}(l:List α)(hl:l.length<9223372036854775808)(mk:Int->List β->τ)(body:τ->Option (τ⊕X))(g:α->β)(e:List β->X)
  (hin:∀(i:Nat) (h:i<l.length) s,s.length=i->body (mk i s)=some (.inl (mk (aR ((i:Int)+1)) (s++[g l[i]])))) (hend:∀s,body (mk l.length s)=some (.inr (e s))):loop body (mk 0 [])=some (e (l.map g)):=by
 have:=kP l hl mk body (fun i s=>s.length=i) (fun _ x s=>.inl (s++[g x])) e (fun i h s hs=>⟨hin i h s hs,fun s' hs'=>by cases hs';simp[hs]⟩) (fun s _=>hend s) 0 [] (vaN _) rfl
 rw[XS]at this
 exact this
theorem qc9{α X:Type}(l:List α)(hl:l.length<9223372036854775808)(body:Int->Option (Int⊕X))(e:X)
  (hin:∀(i:Nat) (h:i<l.length),body i=some (.inl (aR ((i:Int)+1)))) (hend:body l.length=some (.inr e)):loop body (0:Int)=some e:=by
 have:=J4 l hl body (fun _=>false) e e (fun i h=>by rw[hin i h];rfl) hend 0 (vaN _)
 simpa using this
set_option linter.unusedSimpArgs false
abbrev qjM(a:List ag):Prop:=a.length<9223372036854775808
def ZM(l:List ag)(s:ag):Int:=match l.findIdx? (fun x=>x==s)with|some j=>(j:Int)|none=>-1
theorem qe(l:List ag)(s:ag)(hl:l.length<9223372036854775808):gI l s=some (ZM l s):=by
 unfold gI yq
 have:=LK l hl (fun zz=>eT l s l.length zz) (fun x=>x==s) (fun j=>Sum.inl (j:Int)) (Sum.inr ()) (fun i h=>by
  simp only[eT]
  rw[vad (by simp;omega),bo _ i h]
  simp only[vaa]
  split<;>simp_all) (by simp only[eT];rw[vae (by simp)])
 rw[this]
 unfold ZM
 cases l.findIdx? (fun x=>x==s)<;>rfl
theorem vY(l:List ag)(s:ag):decide (ZM l s>=0)=l.any fun k=>k==s:=by
 unfold ZM
 cases h:l.findIdx? (fun x=>x==s)with
 |none=>
  rw[vch]at h
  symm
  simp only[vbu]
  rw[show decide ((-1:Int)>=0)=false from rfl]
  simp only[vbu,Bool.not_eq_true]
  exact h
 | some j =>
  have h2:l.any (fun x=>x==s)=true:=by
   have:=List.findIdx?_isSome (xs:=l) (p:=fun x=>x==s)
   rw[h]at this
   exact this.symm
  rw[h2]
  simp
theorem Tr{α:Type}(k:ag)(v:α)(j:ag):∀(m:List (ag×α)),Do (J7 m k v) j=if(j==k)=true then some v else Do m j
 |[]=>by
  simp only[J7,Do,List.find?_cons,List.find?_nil]
  cases(j==k)<;>rfl
 | e :: r => by
  have ih:=Tr k v j r
  unfold J7
  by_cases h:(k==e.1)=true
  ·have h':k=e.1:=by simpa using h
   rw[vad h]
   unfold Do
   simp only[List.find?_cons]
   rw[<-h']
   cases hj:(j==k)<;>simp
  ·rw [vae h]
   unfold Do at ih ⊢
   simp only[List.find?_cons]
   cases hj:(j==e.1)
   ·simpa using ih
   ·have:¬(j==k)=true:=fun hk=>h (by
      have h1:j=e.1:=by simpa using hj
      have h2:j=k:=by simpa using hk
      simp[<-h1,<-h2])
    simp[this]
abbrev QA(m:List (ag×Bool))(k:ag):Bool:=(Do m k).getD false
theorem qdb(m:List (ag×Bool))(k j:ag):QA (J7 m k true) j=(j==k||QA m j):=by
 unfold QA
 rw[Tr]
 cases(j==k)<;>rfl
def YD(l:ag):Nat:=l.foldl (fun a c=>10 * a+(c.toNat - 48)) 0
theorem PW(u:Nat):YD (Lib.decDigits u)=u:=by
 induction u using Nat.strongRecOn with
 | _ u ih =>
  rw[Lib.decDigits]
  by_cases h:u<10
  ·rw[dif_pos h]
   unfold YD
   simp
   omega
  ·rw[dif_neg h]
   have:=ih (u / 10) (by omega)
   unfold YD at this ⊢
   rw[vcm,this]
   simp
   omega
theorem qeO{u v:Nat}(h:Lib.decDigits u=Lib.decDigits v):u=v:=by rw[<-PW u,<-PW v,h]
theorem UV(u:Nat):(Lib.decDigits u).length<=u+1:=by
 induction u using Nat.strongRecOn with
 | _ u ih =>
  rw[Lib.decDigits]
  by_cases h:u<10
  ·rw[dif_pos h];simp
  ·rw[dif_neg h]
   have:=ih (u / 10) (by omega)
   simp
   omega
theorem TS:∀(k n:Nat) (acc:ag),n<=k->n<=1000000000->acc.length<=1000000000 - n->qd acc n=some (if n=0 then acc else Lib.decDigits n++acc)
 |k,0,acc,_,_,_=>by
  unfold qd
  exact jV rfl
 |0,n+1,_,h,_,_=>absurd h (by omega)
 | k + 1,n + 1,acc,hk,hn,ha => by
  have hb:od acc ((n+1:Nat):Int)=some (.inl (UInt8.ofNat (48+(n+1) % 10)::acc,(((n+1) / 10:Nat):Int))):=by
   simp only[od]
   have h1:(((n+1:Nat):Int)!=0)=true:=by simp;omega
   have h2:re ((n+1:Nat):Int) 10=some (((n+1) % 10:Nat):Int):=by
    simp only[re]
    have e:((n+1:Nat):Int) % 10=(((n+1) % 10:Nat):Int):=by omega
    rw[vae (by omega),Int.tmod_eq_emod_of_nonneg (by omega),e]
   have h3:yn (((n+1) % 10:Nat):Int)=some (((n+1) % 10:Nat):Int):=by
    simp only[yn]
    rw[vae (by simp;omega)]
   have h4:IntKind.u8.wrap (aR (48+(((n+1) % 10:Nat):Int)))=((48+(n+1) % 10:Nat):Int):=by
    rw[dB (by omega) (by omega)]
    have h5:(48:Int)+(((n+1) % 10:Nat):Int)=((48+(n+1) % 10:Nat):Int):=by omega
    rw[h5]
    generalize hq:48+(n+1) % 10=q
    have:q<58:=by omega
    show((q:Int) % 256)=q
    omega
   have h6:xB [((48+(n+1) % 10:Nat):Int)]=some [UInt8.ofNat (48+(n+1) % 10)]:=by
    simp only[xB]
    rw[vad (by omega)]
    rfl
   have h7:qu .i64 ((n+1:Nat):Int) 10=some (((n+1) / 10:Nat):Int):=by
    simp only[qu]
    rw[vae (by omega),vca (by omega)]
    have e:((n+1:Nat):Int) / 10=(((n+1) / 10:Nat):Int):=by omega
    rw[e]
    exact va9 some (dB (by omega) (by omega))
   rw[h1]
   simp only[if_true,h2,vaa,h3,h4,h6]
   rw[PN (by simp;omega),h7]
   rfl
  unfold qd
  refine(ql (body:=fun zz:ag×Int=>od zz.1 zz.2) (s:=(acc,((n+1:Nat):Int))) (s':=(UInt8.ofNat (48+(n+1) % 10)::acc,(((n+1) / 10:Nat):Int))) hb).trans ?_
  have ih:=TS k ((n+1) / 10) (UInt8.ofNat (48+(n+1) % 10)::acc) (by omega) (by omega) (by simp;omega)
  unfold qd at ih
  rw[ih,vae (by omega:¬n+1=0)]
  conv=>rhs;rw[Lib.decDigits]
  by_cases h:n+1<10
  ·rw[dif_pos h,vad (by omega),vbZ h]
   rfl
  ·rw[dif_neg h,vae (by omega)]
   simp
theorem Ma(n:Nat)(h0:1<=n)(h:n<=1000000000):IQ n=some (Lib.decDigits n):=by
 unfold IQ
 have h1:((n:Int)==0)=false:=by simp;omega
 rw[h1,TS n n [] (vah _) h (by simp)]
 have h2:decide ((n:Int)<0)=false:=by simp
 simp only[va6,if_false,vaa,h2]
 rw[vae (by omega)]
 simp
theorem W3(n:Nat)(h:n<=1000000000):ZU n=some (Lib.decDigits n):=by
 unfold ZU Lib.itoa
 rw[vad (by simp;omega),vae (by omega)]
 rfl
theorem qdA:∀(used L:List ag),L.Nodup->used.length<L.length->∃x∈L,x∉used
 |[],L,_,h=>by
  cases L with
  |nil=>simp at h
  |cons x L=>exact⟨x,by simp,by simp⟩
 | u :: us,L,hn,h => by
  obtain⟨x,hx,hu⟩:=qdA us (L.erase u) (hn.erase u) (by
   have:=List.length_erase (a:=u) (l:=L)
   rw[this]
   simp at h
   split<;>omega)
  rw[hn.mem_erase_iff]at hx
  exact⟨x,hx.2,by simp[hx.1,hu]⟩
theorem WW(used:List ag)(base:ag):∃n,1<=n/\n<=used.length+1/\base++Lib.decDigits n∉used:=by
 obtain⟨x,hx,hu⟩:=qdA used ((List.range (used.length+1)).map fun i=>base++Lib.decDigits (i+1)) (by
  unfold List.Nodup
  rw[List.pairwise_map]
  refine vcS ?_ (List.nodup_range (n:=used.length+1))
  intro a b hab e
  have:=qeO (List.append_cancel_left e)
  omega) (by simp)
 simp only[vaq,vbt]at hx
 obtain⟨i,hi,rfl⟩:=hx
 exact⟨i+1,by omega,by omega,hu⟩
def mO(used:List ag)(base:ag):Nat->Nat->ag
 |0,_=>[]
 |k+1,n=>if used.contains (base++Lib.decDigits n)=true then mO used base k (n+1)else base++Lib.decDigits n
def eQ(used:List ag)(base:ag):ag:=if used.contains base=true then mO used base 100000001 1 else base
theorem J9(used:List ag)(hl:qjM used):∃m,ry used used.length 0 []=some m/\∀k,QA m k=used.contains k:=by
 unfold ry
 have:=kP used hl (fun i (m:List (ag×Bool))=>(i,m)) (fun zz=>jX used used.length zz.1 zz.2) (fun _ _=>True) (fun _ x m=>.inl (J7 m x true)) (fun m=>m) (fun i hi t _=>⟨by
   simp only[jX]
   rw[vad (by simp;omega),bo _ i hi]
   rfl,fun _ _=>trivial⟩) (fun _ _=>by simp only[jX];rw[vae (by simp)]) 0 [] (vaN _) trivial
 simp only[Int.ofNat_zero,vaV]at this
 rw[this]
 refine⟨_,rfl,?_⟩
 have key:∀(l:List ag) (i:Nat) (m:List (ag×Bool)) k,QA (mV (fun _ x (m:List (ag×Bool))=>(Sum.inl (J7 m x true):List (ag×Bool)⊕List (ag×Bool))) (fun m=>m) l i m) k=(l.contains k||QA m k):=by
  intro l
  induction l with
  |nil=>intro i m k;simp[mV]
  |cons x l ih=>
   intro i m k
   unfold mV
   simp only[ih,qdb,List.contains_cons]
   cases(k==x)<;>cases l.contains k<;>simp
 intro k
 rw[key]
 simp[QA,Do]
theorem Mp(used:List ag)(base:ag)(m:List (ag×Bool))(hm:∀k,QA m k=used.contains k)(hl:used.length<=100000000)(hb:base.length<=4000000000000000000)(N:Nat)(hN:base++Lib.decDigits N∉used)(hN2:N<=100000001):
  ∀(k n:Nat),1<=n->n<=N->N<n+k->mS base m n=some (mO used base k n)/\kc used base (base++Lib.decDigits n) ((n+1:Nat):Int)=some (mO used base k n)/\mO used base k n∉used
 |0,n,_,h1,h2=>absurd h2 (by omega)
 | k + 1,n,h0,h1,h2 => by
  have hd:=UV n
  have hd2:=UV (n+1)
  have e1:aR ((n:Int)+1)=((n+1:Nat):Int):=by rw[dB (by omega) (by omega)];omega
  have e2:aR (((n+1:Nat):Int)+1)=((n+2:Nat):Int):=by rw[dB (by omega) (by omega)];omega
  unfold mO
  by_cases hc:used.contains (base++Lib.decDigits n)=true
  ·rw[vad hc]
   have hne:n≠N:=by
    rintro rfl
    exact hN (by simpa using hc)
   obtain⟨i1,i2,i3⟩:=Mp used base m hm hl hb N hN hN2 k (n+1) (by omega) (by omega) (by omega)
   have hm':=hm (base++Lib.decDigits n)
   unfold QA at hm'
   have b1:g8 base m (n:Int)=some (.inl (((n+1:Nat):Int))):=by
    simp only[g8]
    rw[W3 n (by omega)]
    simp only[vaa]
    rw[PN (by omega)]
    simp only[vaa,hm',hc,e1]
    rfl
   have b2:dm used base (base++Lib.decDigits n) ((n+1:Nat):Int)=some (.inl (base++Lib.decDigits (n+1),((n+2:Nat):Int))):=by
    simp only[dm]
    rw[qe _ _ (by omega)]
    simp only[vaa,vY]
    have:(used.any fun k=>k==base++Lib.decDigits n)=true:=by simpa[vbx]using hc
    rw[this,vad rfl,Ma (n+1) (by omega) (by omega)]
    simp only[vaa]
    rw[PN (by omega)]
    simp only[vaa,e2]
   refine⟨?_,?_,i3⟩
   ·unfold mS at i1 ⊢
    exact(ql b1).trans i1
   ·unfold kc at i2 ⊢
    exact(ql (body:=fun zz:ag×Int=>dm used base zz.1 zz.2) (s:=(base++Lib.decDigits n,((n+1:Nat):Int))) (s':=(base++Lib.decDigits (n+1),((n+2:Nat):Int))) b2).trans i2
  ·rw[vae hc]
   have hc':used.contains (base++Lib.decDigits n)=false:=by simpa using hc
   have hm':=hm (base++Lib.decDigits n)
   unfold QA at hm'
   have b1:g8 base m (n:Int)=some (.inr (base++Lib.decDigits n)):=by
    simp only[g8]
    rw[W3 n (by omega)]
    simp only[vaa]
    rw[PN (by omega)]
    simp only[vaa,hm',hc']
    rfl
   have b2:dm used base (base++Lib.decDigits n) ((n+1:Nat):Int)=some (.inr (base++Lib.decDigits n)):=by
    simp only[dm]
    rw[qe _ _ (by omega)]
    simp only[vaa,vY]
    have:(used.any fun k=>k==base++Lib.decDigits n)=false:=by
     rw[vco]
     intro h
     apply hc
     simpa[vbx]using h
    rw[this]
    rfl
   refine⟨?_,?_,by simpa using hc⟩
   ·unfold mS
    exact jV b1
   ·unfold kc
    exact jV (body:=fun zz:ag×Int=>dm used base zz.1 zz.2) (s:=(base++Lib.decDigits n,((n+1:Nat):Int))) b2
theorem Al(used:List ag)(base:ag)(hl:used.length<=100000000)(hb:base.length<=4000000000000000000):mR used base=some (eQ used base)/\sA used base=some (eQ used base)/\eQ used base∉used:=by
 obtain⟨m,hm1,hm⟩:=J9 used (show _<_ by omega)
 have hm':=hm base
 unfold QA at hm'
 obtain⟨N,h1,h2,h3⟩:=WW used base
 obtain⟨i1,i2,i3⟩:=Mp used base m hm hl hb N h3 (by omega) 100000001 1 (vah _) h1 (by omega)
 unfold mR sA eQ
 rw[hm1]
 simp only[vaa,hm']
 have hd:=UV 1
 by_cases hc:used.contains base=true
 ·simp only[hc,vb3,va6,if_false,if_true]
  simp only[Int.ofNat_one]at i1
  rw[i1]
  have b2:dm used base base 1=some (.inl (base++Lib.decDigits 1,((2:Nat):Int))):=by
   simp only[dm]
   rw[qe _ _ (by omega)]
   simp only[vaa,vY]
   have:(used.any fun k=>k==base)=true:=by simpa[vbx]using hc
   have ht:=Ma 1 (by omega) (by omega)
   simp only[Int.ofNat_one]at ht
   rw[this,vad rfl,ht]
   simp only[vaa]
   rw[PN (by omega)]
   rfl
  unfold kc at i2 ⊢
  have:=(ql (body:=fun zz:ag×Int=>dm used base zz.1 zz.2) (s:=(base,1)) (s':=(base++Lib.decDigits 1,((2:Nat):Int))) b2).trans i2
  rw[this]
  exact⟨rfl,rfl,i3⟩
 ·have hc':used.contains base=false:=by simpa using hc
  simp only[hc',vbT,if_true,va6,if_false]
  have b2:dm used base base 1=some (.inr base):=by
   simp only[dm]
   rw[qe _ _ (by omega)]
   simp only[vaa,vY]
   have:(used.any fun k=>k==base)=false:=by
    rw[vco]
    intro h
    apply hc
    simpa[vbx]using h
   rw[this]
   rfl
  unfold kc
  have:=jV (body:=fun zz:ag×Int=>dm used base zz.1 zz.2) (s:=(base,1)) b2
  rw[this]
  exact⟨trivial,rfl,by simpa using hc⟩
theorem JQ{u v:List ag}(h:∀x,x∈u↔x∈v)(base:ag):∀(k n:Nat),mO u base k n=mO v base k n
 |0,n=>by rw[mO,mO]
 | k + 1,n => by
  have e:u.contains (base++Lib.decDigits n)=v.contains (base++Lib.decDigits n):=by
   rw[vb6,vbz,vbz]
   exact h _
  rw[mO,mO,e,JQ h base k (n+1)]
theorem JS{u v:List ag}(h:∀x,x∈u↔x∈v)(base:ag):eQ u base=eQ v base:=by
 have e:u.contains base=v.contains base:=by
  rw[vb6,vbz,vbz]
  exact h _
 unfold eQ
 rw[e,JQ h]
abbrev qaJ(x y:ag):Prop:=Op.bytesLess x y=true
theorem Ay:∀(x:ag),Op.bytesLess x x=false
 |[]=>rfl
 |a::x=>by
  unfold Op.bytesLess
  rw[Ay x]
  simp[UInt8.lt_irrefl]
theorem Az:∀{x y z:ag},qaJ x y->qaJ y z->qaJ x z
 |_,_,[],h1,h2=>by simp[qaJ,Op.bytesLess]at h2
 |_,[],_::_,h1,h2=>by simp[qaJ,Op.bytesLess]at h1
 |[],_::_,_::_,_,_=>rfl
 | a :: x,b :: y,c :: z,h1,h2 => by
  unfold qaJ Op.bytesLess at h1 h2 ⊢
  simp only[vbb,vao,vaj,va4]at h1 h2 ⊢
  rcases h1 with h1|⟨rfl,h1⟩
  ·rcases h2 with h2|⟨rfl,h2⟩
   ·exact .inl (UInt8.lt_trans h1 h2)
   ·exact .inl h1
  ·rcases h2 with h2|⟨rfl,h2⟩
   ·exact .inl h2
   ·exact .inr ⟨rfl,Az h1 h2⟩
theorem EH:∀{x y:ag},Op.bytesLess x y=false->Op.bytesLess y x=false->x=y
 |[],[],_,_=>rfl
 |[],_::_,h,_=>by simp[Op.bytesLess]at h
 |_::_,[],_,h=>by simp[Op.bytesLess]at h
 | a :: x,b :: y,h1,h2 => by
  unfold Op.bytesLess at h1 h2
  simp only[Bool.or_eq_false_iff,vbp,Bool.and_eq_false_imp,va4]at h1 h2
  have hab:a=b:=by
   have k1:=UInt8.not_lt.1 h1.1
   have k2:=UInt8.not_lt.1 h2.1
   exact UInt8.le_antisymm k2 k1
  subst hab
  rw[EH (h1.2 rfl) (h2.2 rfl)]
theorem qfE:∀(x y:ag),Op.bytesLess x y=decide (x<y)
 |[],[]=>by simp[Op.bytesLess]
 |_::_,[]=>by simp[Op.bytesLess]
 |[],_::_=>by simp[Op.bytesLess]
 |a::x,b::y=>by
  unfold Op.bytesLess
  rw[qfE x y,vb6]
  simp[List.cons_lt_cons_iff]
theorem ZV(x y:ag):decide (x<=y)= !Op.bytesLess y x:=by
 rw[qfE]
 rw[<-decide_not]
 rfl
abbrev ME(l:List ag):Prop:=l.Pairwise qaJ
theorem Cs:∀{a b:List ag},ME a->ME b->(∀x,x∈a↔x∈b)->a=b
 |[],[],_,_,_=>rfl
 |[],y::b,_,_,h=>by have:=(h y).2 (by simp);simp at this
 |x::a,[],_,_,h=>by have:=(h x).1 (by simp);simp at this
 | x :: a,y :: b,ha,hb,h => by
  unfold ME at ha hb
  rw[vbA]at ha hb
  have hxy:x=y:=by
   have h1:=(h x).1 (by simp)
   have h2:=(h y).2 (by simp)
   rw[vaw]at h1 h2
   rcases h1 with h1|h1
   ·exact h1
   ·rcases h2 with h2|h2
    ·exact h2.symm
    ·have:=Az (hb.1 x h1) (ha.1 y h2)
     unfold qaJ at this
     rw[Ay]at this
     cases this
  subst hxy
  congr 1
  refine Cs ha.2 hb.2 fun z=>?_
  constructor
  ·intro hz
   have:=(h z).1 (by simp[hz])
   rw[vaw]at this
   rcases this with rfl|this
   ·have:=ha.1 _ hz;unfold qaJ at this;rw[Ay]at this;cases this
   ·exact this
  ·intro hz
   have:=(h z).2 (by simp[hz])
   rw[vaw]at this
   rcases this with rfl|this
   ·have:=hb.1 _ hz;unfold qaJ at this;rw[Ay]at this;cases this
   ·exact this
theorem VO(l:List ag):(mZ l).Pairwise fun x y=>Op.bytesLess y x=false:=by
 have:=List.pairwise_mergeSort (le:=fun x y:ag=>decide (x<=y)) (fun a b c h1 h2=>by
  rw[ZV]at h1 h2 ⊢
  simp only[va5]at h1 h2 ⊢
  cases h:Op.bytesLess c a with
  |false=>rfl
  | true =>
   exfalso
   by_cases hb:Op.bytesLess a b=true
   ·have:=Az h hb
    unfold qaJ at this
    rw[h2]at this
    cases this
   ·have:a=b:=EH (by simpa using hb) h1
    subst this
    rw[h2]at h
    cases h) (fun a b=>by
  rw[ZV,ZV]
  cases h:Op.bytesLess b a with
  |false=>rfl
  | true =>
   cases h':Op.bytesLess a b with
   |false=>rfl
   |true=>
    have:=Az h h'
    unfold qaJ at this
    rw[Ay]at this
    cases this) l
 refine vcS ?_ this
 intro a b h
 rw[ZV]at h
 simpa using h
theorem qbR(l:List ag)(x:ag):x∈mZ l↔x∈l:=List.mem_mergeSort
theorem G3(d:List ag)(hs:d.Pairwise fun x y=>Op.bytesLess y x=false):∀m,m<=d.length->ME (Lib.compactUpTo d.toArray m)/\∀x,x∈Lib.compactUpTo d.toArray m↔∃(j:Nat) (h:j<d.length),j<m/\d[j]=x
 |0,_=>by
  refine⟨by simp[Lib.compactUpTo,ME],fun x=>?_⟩
  simp[Lib.compactUpTo]
 | m + 1,hm => by
  obtain⟨h1,h2⟩:=G3 d hs m (by omega)
  have hg:∀j (h:j<d.length),d.toArray[j]! =d[j]:=fun j h=>by simp[h]
  rw[Lib.compactUpTo_succ]
  by_cases hk:Lib.keeps d.toArray m=true
  ·rw [vad hk,hg m (by omega)]
   refine⟨?_,fun x=>?_⟩
   ·unfold ME
    rw[List.pairwise_append]
    refine⟨h1,by simp,fun x hx y hy=>?_⟩
    simp at hy
    subst hy
    obtain⟨j,hj,hjm,rfl⟩:=(h2 x).1 hx
    have hne:d[m - 1]≠d[m]:=by
     unfold Lib.keeps at hk
     simp only[vao]at hk
     rcases hk with hk|hk
     ·omega
     ·rw[hg m (by omega),hg (m - 1) (by omega)]at hk
      exact fun e=>hk e.symm
    have hlt:Op.bytesLess d[m - 1] d[m]=true:=by
     have k1:=(vci.1 hs) (m - 1) m (by omega) (by omega) (by omega)
     cases h:Op.bytesLess d[m - 1] d[m]with
     |true=>rfl
     |false=>exact absurd (EH h k1) hne
    by_cases hj2:j=m - 1
    ·subst hj2;exact hlt
    ·have k2:=(vci.1 hs) j (m - 1) (by omega) (by omega) (by omega)
     cases h:Op.bytesLess d[j] d[m - 1]with
     |true=>exact Az h hlt
     |false=>
      have:=EH h k2
      rw[this];exact hlt
   ·rw[vaE,h2]
    constructor
    ·rintro(⟨j,hj,hjm,rfl⟩|hx)
     ·exact⟨j,hj,by omega,rfl⟩
     ·simp at hx;exact⟨m,by omega,by omega,hx.symm⟩
    ·rintro⟨j,hj,hjm,rfl⟩
     by_cases e:j=m
     ·subst e;exact .inr (by simp)
     ·exact .inl ⟨j,hj,by omega,rfl⟩
  ·rw [vae hk,va1]
   refine⟨h1,fun x=>?_⟩
   rw[h2]
   constructor
   ·rintro⟨j,hj,hjm,rfl⟩;exact⟨j,hj,by omega,rfl⟩
   ·rintro⟨j,hj,hjm,rfl⟩
    by_cases e:j=m
    ·subst e
     have:j≠0/\d.toArray[j]! =d.toArray[j - 1]! :=by
      unfold Lib.keeps at hk
      simp only[vao,not_or,ne_eq,Decidable.not_not]at hk
      exact hk
     rw[hg j hj,hg (j - 1) (by omega)]at this
     exact⟨j - 1,by omega,by omega,this.2.symm⟩
    ·exact⟨j,hj,by omega,rfl⟩
def kq(a b:List ag):List ag:=Lib.compact (mZ (a++b))
theorem IH(a b:List ag):ME (kq a b)/\∀x,x∈kq a b↔x∈a\/x∈b:=by
 obtain⟨h1,h2⟩:=G3 (mZ (a++b)) (VO _) _ (vah _)
 refine⟨h1,fun x=>?_⟩
 rw[show kq a b=Lib.compactUpTo (mZ (a++b)).toArray (mZ (a++b)).length from rfl,h2,<-vaE,<-qbR,List.mem_iff_getElem]
 constructor
 ·rintro⟨j,h,_,e⟩;exact⟨j,h,e⟩
 ·rintro⟨j,h,e⟩;exact⟨j,h,h,e⟩
theorem E4(a b:List ag)(h:a.length+b.length<=1073741824):qm a b=some (kq a b):=by
 unfold qm
 rw[cN (by simp;omega)]
 simp only[vaa]
 rw[cN (by simp;omega)]
 rfl
def Qg(s:ag):List ag->List ag
 |[]=>[s]
 |x::r=>if Op.bytesLess x s=true then x::Qg s r else if(x==s)=true then s::r else s::x::r
def kk(s:ag):List ag->Nat
 |[]=>0
 |x::r=>if Op.bytesLess x s=true then kk s r+1 else 0
theorem qfU(s:ag):∀l,kk s l<=l.length
 |[]=>vah _
 |x::r=>by have:=qfU s r;unfold kk;split<;>simp<;>omega
theorem qcX(s:ag):∀l,Qg s l=l.take (kk s l)++s::l.drop (kk s l+if(l[kk s l]? ==some s)=true then 1 else 0)
 |[]=>by simp[Qg,kk]
 | x :: r => by
  have ih:=qcX s r
  unfold Qg kk
  by_cases h:Op.bytesLess x s=true
  ·rw[vad h,vad h,ih]
   simp only[List.take_succ_cons,List.getElem?_cons_succ,vaG]
   rw[show kk s r+1+(if(r[kk s r]? ==some s)=true then 1 else 0)=(kk s r+if(r[kk s r]? ==some s)=true then 1 else 0)+1 by omega,vb7]
  ·rw[vae h,vae h]
   by_cases hx:(x==s)=true
   ·have:x=s:=by simpa using hx
    simp[this]
   ·have:¬x=s:=by simpa using hx
    simp[this]
theorem Oi(s:ag):∀l,(Qg s l).length<=l.length+1
 |[]=>by simp[Qg]
 | x :: r => by
  have:=Oi s r
  unfold Qg
  split
  ·simp;omega
  ·split<;>simp
theorem Vg(s:ag):∀l x,x∈Qg s l↔x=s\/x∈l
 |[],x=>by simp[Qg]
 | y :: r,x => by
  have:=Vg s r x
  unfold Qg
  by_cases h:Op.bytesLess y s=true
  ·rw[vad h,vaw,this,vaw]
   constructor
   ·rintro(h|h|h)<;>simp[h]
   ·rintro(h|h|h)<;>simp[h]
  ·rw[vae h]
   by_cases hy:(y==s)=true
   ·have e:y=s:=by simpa using hy
    rw[vad hy,e]
    simp
   ·rw[vae hy]
    simp
theorem ZT(s:ag):∀{l},ME l->ME (Qg s l)
 |[],_=>by simp[Qg,ME]
 | x :: r,h => by
  unfold ME at h ⊢
  rw[vbA]at h
  unfold Qg
  by_cases hx:Op.bytesLess x s=true
  ·rw[vad hx,vbA]
   refine⟨fun y hy=>?_,ZT s h.2⟩
   rw[Vg]at hy
   rcases hy with rfl|hy
   ·exact hx
   ·exact h.1 y hy
  ·rw [vae hx]
   by_cases he:(x==s)=true
   ·have e:x=s:=by simpa using he
    subst e
    rw[vad he,vbA]
    exact h
   ·have hsx:qaJ s x:=by
     cases hc:Op.bytesLess s x with
     |true=>exact hc
     |false=>
      have:=EH (by simpa using hx) hc
      simp[this]at he
    rw[vae he,vbA,vbA]
    refine⟨fun y hy=>?_,h⟩
    rw[vaw]at hy
    rcases hy with rfl|hy
    ·exact hsx
    ·exact Az hsx (h.1 y hy)
theorem qaf(s:ag):∀(l:List ag) (i:Nat) (out:List ag),mV (fun i x (out:List ag)=>if Op.bytesLess x s=true then(Sum.inl (out++[x]):List ag⊕(List ag×Nat))else .inr (out,i)) (fun out=>(out,i+l.length)) l i out=(out++l.take (kk s l),i+kk s l)
 |[],i,out=>by simp[mV,kk]
 | x :: l,i,out => by
  have ih:=qaf s l (i+1) (out++[x])
  unfold mV kk
  by_cases h:Op.bytesLess x s=true
  ·simp only[h,if_true]
   rw[show i+(x::l).length=i+1+l.length by simp;omega,ih]
   simp
   omega
  ·simp[h]
theorem TO{α σ X Y:Type}(g:X->Y)(f:Nat->α->σ->σ⊕X)(e:σ->X):∀(l:List α) (i:Nat) (s:σ),mV (fun i x s=>Sum.map id g (f i x s)) (fun s=>g (e s)) l i s=g (mV f e l i s)
 |[],i,s=>rfl
 |x::l,i,s=>by
  unfold mV
  cases f i x s with
  |inl s'=>exact TO g f e l (i+1) s'
  |inr y=>rfl
def qdf{σ:Type}(y:σ×Nat):σ×Int:=(y.1,(y.2:Int))
theorem OK(a:List ag)(s:ag)(ha:a.length<=1000000000):yw a s=some (Qg s a):=by
 unfold yw Hy
 have:=kP a (by omega) (fun i (out:List ag)=>(out,i)) (fun zz=>qI a s zz.1 zz.2) (fun i out=>out.length=i)
  (fun i x out=>Sum.map id qdf (if Op.bytesLess x s=true then(Sum.inl (out++[x]):List ag⊕(List ag×Nat))else .inr (out,i))) (fun out=>qdf (out,0+a.length)) (fun i hi out hI=>by
   have hb:sE a s i=some (Op.bytesLess a[i] s):=by
    simp only[sE]
    rw[vad (by simp;omega),bo _ i hi]
    rfl
   refine⟨?_,fun s' hs'=>?_⟩
   ·simp only[qI]
    rw[hb]
    simp only[vaa]
    by_cases hl:Op.bytesLess a[i] s=true
    ·rw[vad hl,vad hl,bo _ i hi]
     simp only[vaa]
     rw[cN (by simp;omega)]
     rfl
    ·rw[vae hl,vae hl]
     rfl
   ·by_cases hl:Op.bytesLess a[i] s=true
    ·rw[vad hl]at hs';cases hs';simp;omega
    ·rw[vae hl]at hs';cases hs') (fun out _=>by
   have hb:sE a s a.length=some false:=by
    simp only[sE]
    rw[vae (by simp)]
   simp only[qI]
   rw[hb]
   simp[qdf]) 0 [] (vaN _) rfl
 simp only[Int.ofNat_zero,vaV]at this
 have hm:=TO qdf (fun i x (out:List ag)=>if Op.bytesLess x s=true then(Sum.inl (out++[x]):List ag⊕(List ag×Nat))else .inr (out,i)) (fun out=>(out,0+a.length)) a 0 []
 rw[this.trans (va9 some hm),qaf s a 0 []]
 simp only[vaC,vaK,vaa,qdf]
 have hk:=qfU s a
 rw[cN (by simp;omega)]
 simp only[vaa]
 have hj:Bk a s (kk s a)=some ((kk s a+if(a[kk s a]? ==some s)=true then 1 else 0:Nat):Int):=by
  unfold Bk Hx
  by_cases hlt:kk s a<a.length
  ·rw[vad (by simp;omega),bo _ _ hlt]
   simp only[vaa,vab hlt]
   have e:(some a[kk s a]==some s)=(a[kk s a]==s):=rfl
   rw[e]
   by_cases h:(a[kk s a]==s)=true
   ·rw[vad h,vad h,dB (by omega) (by omega)]
    rfl
   ·rw[vae h,vae h]
    rfl
  ·have hn:a[kk s a]? =none:=by simp;omega
   rw[vae (by simp;omega),hn]
   rfl
 rw[hj]
 simp only[vaa]
 have hle:kk s a+(if(a[kk s a]? ==some s)=true then 1 else 0)<=a.length:=by
  by_cases hlt:kk s a<a.length
  ·split<;>omega
  ·have hn:a[kk s a]? =none:=by simp;omega
   rw[hn]
   simp
   omega
 rw[Ft a _ hle]
 simp only[vaa]
 rw[cN (by simp;omega),qcX]
 simp
theorem IF{α σ:Type}(g:σ->α->σ):∀(l:List α) (i:Nat) (s:σ),mV (fun _ x s=>(Sum.inl (g s x):σ⊕σ)) (fun s=>s) l i s=l.foldl g s
 |[],i,s=>rfl
 |x::l,i,s=>IF g l (i+1) (g s x)
theorem Ie:∀(l out:List ag),ME out->ME (l.foldl (fun o x=>Qg x o) out)/\(∀x,x∈l.foldl (fun o x=>Qg x o) out↔x∈out\/x∈l)/\(l.foldl (fun o x=>Qg x o) out).length<=out.length+l.length
 |[],out,h=>⟨h,by simp,by simp⟩
 | y :: l,out,h => by
  obtain⟨h1,h2,h3⟩:=Ie l (Qg y out) (ZT y h)
  have:=Oi y out
  refine⟨h1,fun x=>?_,by simp only[List.foldl_cons,vaP];omega⟩
  rw[List.foldl_cons,h2,Vg,vaw]
  constructor
  ·rintro((h|h)|h)<;>simp[h]
  ·rintro(h|h|h)<;>simp[h]
theorem ke(a b:List ag)(ha:a.length<=400000000)(hb:b.length<=400000000):gj a b=some (kq a b):=by
 unfold gj qF qG
 have t1:=kP a (by omega) (fun i (out:List ag)=>(out,i)) (fun zz=>mi a a.length zz.1 zz.2) (fun i out=>out.length<=i) (fun _ x out=>(Sum.inl (Qg x out):List ag⊕List ag)) (fun o=>o) (fun i hi out hI=>by
   refine⟨?_,fun s' hs'=>?_⟩
   ·simp only[mi]
    rw[vad (by simp;omega),bo _ i hi]
    simp only[vaa]
    rw[OK _ _ (by omega)]
    rfl
   ·cases hs'
    have:=Oi a[i] out
    omega) (fun out _=>by simp only[mi];rw[vae (by simp)]) 0 [] (vaN _) (vah _)
 simp only[Int.ofNat_zero,vaV]at t1
 rw[IF (fun o x=>Qg x o)]at t1
 obtain⟨f1,f2,f3⟩:=Ie a [] (by simp[ME])
 have t2:=kP b (by omega) (fun i (out:List ag)=>(out,i)) (fun zz=>dy b b.length zz.1 zz.2) (fun i out=>out.length<=400000000+i) (fun _ x out=>(Sum.inl (Qg x out):List ag⊕List ag)) (fun o=>o) (fun i hi out hI=>by
   refine⟨?_,fun s' hs'=>?_⟩
   ·simp only[dy]
    rw[vad (by simp;omega),bo _ i hi]
    simp only[vaa]
    rw[OK _ _ (by omega)]
    rfl
   ·cases hs'
    have:=Oi b[i] out
    omega) (fun out _=>by simp only[dy];rw[vae (by simp)]) 0 (a.foldl (fun o x=>Qg x o) []) (vaN _) (by simp at f3;omega)
 simp only[Int.ofNat_zero,vaV]at t2
 rw[IF (fun o x=>Qg x o)]at t2
 rw[t1]
 simp only[vaa]
 rw[t2]
 simp only[vaa,vav]
 obtain⟨g1,g2,_⟩:=Ie b _ f1
 obtain⟨u1,u2⟩:=IH a b
 refine Cs g1 u1 fun x=>?_
 rw[g2,f2,u2]
 simp
mutual
def nP:aa->Nat
 |⟨_,_,_,ks⟩=>nL ks+1
def nL:List aa->Nat
 |[]=>0
 |p::ps=>nP p+nL ps
end
theorem QD(p:aa):nP p=nL p.Kids+1:=by obtain⟨o,n,k,ks⟩:=p;rw[nP];rfl
theorem Vq(p:aa):1<=nP p:=by rw[QD];omega
theorem Cy:∀{l:List aa} {x:aa},x∈l->nP x<=nL l
 | y :: l,x,h => by
  rw[nL]
  rcases vaw.1 h with rfl|h
  ·omega
  ·have:=Cy h;omega
theorem Cx:∀(l:List aa),l.length<=nL l
 |[]=>by simp[nL]
 |p::l=>by rw[nL];have:=Cx l;have:=Vq p;simp only[vaP];omega
theorem pT{p x:aa}(h:x∈p.Kids):nP x<nP p:=by rw[QD p];have:=Cy h;omega
theorem rx(p:aa):p.Kids.length<nP p:=by rw[QD];have:=Cx p.Kids;omega
theorem AN:∀(a b:List aa),nL (a++b)=nL a+nL b
 |[],b=>by simp[nL]
 |p::a,b=>by rw[vaG,nL,AN a b,nL];omega
mutual
theorem qfW:∀(p:aa),nP p<=gf (ac p)
 |⟨o,n,k,ks⟩=>by
  have:=Z2 ks
  rw[nP,aJ]
  simp only[gf,pm,sl]
  show nL ks+1<=1+(n.length+1+(1+(bZ (ks.map ac)+1+0)))
  omega
theorem Z2:∀(l:List aa),nL l<=bZ (l.map ac)
 |[]=>by simp[nL]
 |p::l=>by
  have:=qfW p
  have:=Z2 l
  rw[nL]
  simp only[vay,bZ]
  omega
end
mutual
def qkd:aa->aa->Bool
 |⟨o,n,k,ks⟩,⟨o',n',k',ks'⟩=>(o==o')&&((n==n')&&((k==k')&&qgL ks ks'))
def qgL:List aa->List aa->Bool
 |[],[]=>true
 |x::xs,y::ys=>qkd x y&&qgL xs ys
 |_,_=>false
end
mutual
theorem ZI:∀(a b:aa),qkd a b=true↔a=b
 |⟨o,n,k,ks⟩,⟨o',n',k',ks'⟩=>by
  rw[qkd]
  have:=ZH ks ks'
  simp only[vaj,va4,this,aa.mk.injEq]
theorem ZH:∀(a b:List aa),qgL a b=true↔a=b
 |[],[]=>by simp[qgL]
 |x::xs,y::ys=>by
  rw[qgL]
  have h1:=ZI x y
  have h2:=ZH xs ys
  simp only[vaj,h1,h2,vbv]
 |[],y::ys=>by simp[qgL]
 |x::xs,[]=>by simp[qgL]
end
instance:DecidableEq aa:=fun a b=>decidable_of_iff _ (ZI a b)
theorem wq(p:aa):(⟨p.Op,p.Name,p.N,p.Kids⟩:aa)=p:=by cases p;rfl
theorem AZ{a b:aa}:a=b↔a.Op=b.Op/\a.Name=b.Name/\a.N=b.N/\a.Kids=b.Kids:=by
 cases a;cases b
 simp only[aa.mk.injEq]
 rfl
theorem qaq{α:Type}[DecidableEq α]:∀{a b:List α},a.length=b.length->(a.zip b).any (fun x=>decide (x.1≠x.2))= !decide (a=b)
 |[],[],_=>by simp
 |x::a,y::b,h=>by
  have ih:=qaq (a:=a) (b:=b) (by simpa using h)
  rw[List.zip_cons_cons,List.any_cons,ih]
  by_cases h1:x=y<;>by_cases h2:a=b<;>simp[h1,h2]
theorem Xi{α X:Type}[DecidableEq α]{a b:List α}(hl:a.length=b.length)(ha:a.length<9223372036854775808)(body:Int->Option (Int⊕X))(y e:X)
  (hin:∀(i:Nat) (h:i<a.length) (h':i<b.length),body i=some (if decide (a[i]=b[i])=true then .inl (aR ((i:Int)+1))else .inr y)) (hend:body a.length=some (.inr e)):loop body 0=some (if decide (a=b)=true then e else y):=by
 have hz:(a.zip b).length=a.length:=by simp[hl]
 have:=J4 (a.zip b) (by omega) body (fun x=>decide (x.1≠x.2)) y e (fun i h=>?_) (by rw[hz];exact hend) 0 (vaN _)
 ·rw[vaV,qaq hl]at this
  rw[show((0:Nat):Int)=0 from rfl]at this
  rw[this]
  by_cases h:a=b<;>simp[h]
 ·have h1:i<a.length:=by omega
  have h2:i<b.length:=by omega
  rw[hin i h1 h2]
  have hzi:(a.zip b)[i]=(a[i],b[i]):=by simp
  rw[hzi]
  by_cases h:a[i]=b[i]<;>simp[h]
abbrev bq:Nat:=1073741824
theorem ed{n:Nat}(h:n<=bq):n<qee:=by have:=qgE;unfold bq at h;omega
theorem qcG{R:aa->aa->Option Bool}{a b:List aa}(ha:a.length<=bq)(h:∀x∈a,∀y∈b,R x y=some (decide (x=y))):CD R a b=some (decide (a=b)):=by
 unfold CD
 by_cases hl:a.length=b.length
 ·rw[vae (by simp[hl])]
  unfold Ab
  rw[Xi hl (by unfold bq at ha;omega) (fun zz=>kS R a b (a.length:Int) zz) (.inl ()) (.inr ()) (fun i h1 h2=>?_) ?_]
  ·by_cases he:a=b<;>simp[he]
  ·unfold kS
   rw[vae (by simp)]
  ·unfold kS
   rw[vad (by simp;omega),bo a i h1]
   simp only[vaa]
   rw[bo b i h2]
   simp only[vaa]
   rw[h _ (vak h1) _ (vak h2)]
   simp only[vaa]
   by_cases he:a[i]=b[i]<;>simp[he]
 ·rw[vad (by simp;omega)]
  rw[decide_eq_false (fun he=>hl (by rw[he]))]
theorem Kz(a b:aa)(ha:nP a<=bq):jZ a b=some (decide (a=b)):=by
 refine eP (F:=Fi) (fun x=>nP x.1) (fun x=>nP x.1<=bq) (fun x=>decide (x.1=x.2)) (fun R x hx ih=>?_) (a,b) ha (ed ha)
 obtain⟨u,v⟩:=x
 have hx:nP u<=bq:=hx
 show y6 (fun a a2=>R (a,a2)) u v=some (decide (u=v))
 unfold y6
 have hk:=rx u
 by_cases h1:u.Op=v.Op
 ·by_cases h2:u.Name=v.Name
  ·by_cases h3:u.N=v.N
   ·rw[vad (by simpa using h1),vad (by simpa using h2),vad (by simpa using h3)]
    rw[qcG (a:=u.Kids) (b:=v.Kids) (by omega) (fun x hxa y hyb=>ih (x,y) (pT hxa) (vcB (vaJ (pT hxa) hx)))]
    simp[AZ (a:=u) (b:=v),h1,h2,h3]
   ·rw[vad (by simpa using h1),vad (by simpa using h2),vae (by simpa using h3)]
    simp[AZ (a:=u) (b:=v),h3]
  ·rw[vad (by simpa using h1),vae (by simpa using h2)]
   simp[AZ (a:=u) (b:=v),h2]
 ·rw[vae (by simpa using h1)]
  simp[AZ (a:=u) (b:=v),h1]
theorem Ta(p:aa)(hp:nP p<=bq):qp p=some p:=by
 refine eP (F:=tL) nP (fun x=>nP x<=bq) id (fun R x hx ih=>?_) p hp (ed hp)
 unfold tL Aa xV
 have hlen:=rx x
 rw[Xh x.Kids (by unfold bq at hx;omega) (fun i s=>(i,s)) _ id id (fun i hi s hs=>?_) (fun s=>?_)]
 ·simp[wq]
 ·unfold nF
  rw[vad (by simp;omega),bo x.Kids i hi]
  simp only[vaa]
  have hm:=vak hi
  rw[ih _ (pT hm) (vcB (vaJ (pT hm) hx))]
  simp only[vaa]
  rw[cN (by unfold bq at hx;simp;omega)]
  rfl
 ·unfold nF
  rw[vae (by simp)]
  rfl
theorem Q8(a b:aa)(hb:nP b<=bq):qK a b=some (decide (a=b)):=by
 refine eP (F:=HA) (fun x=>nP x.2) (fun x=>nP x.2<=bq) (fun x=>decide (x.1=x.2)) (fun R x hx ih=>?_) (a,b) hb (ed hb)
 obtain⟨u,v⟩:=x
 have hx:nP v<=bq:=hx
 show Bt (fun a a2=>R (a,a2)) u v=some (decide (u=v))
 unfold Bt DM
 have hk:=rx v
 by_cases h1:u.Op=v.Op
 ·by_cases h2:u.Name=v.Name
  ·by_cases h3:u.N=v.N
   ·by_cases h4:u.Kids.length=v.Kids.length
    ·rw[vae (by simpa using h1),vae (by simpa using h2),vae (by simpa using h3)]
     simp only[h4,bne_self_eq_false,vaa,if_false,va6]
     unfold DN
     rw[<-h4,Xi h4 (by unfold bq at hx;omega) _ (.inl ()) (.inr ()) (fun i g1 g2=>?_) ?_]
     ·by_cases he:u.Kids=v.Kids<;>simp[he,AZ (a:=u) (b:=v),h1,h2,h3]
     ·unfold tq
      rw[vae (by simp)]
     ·unfold tq
      rw[vad (by simp;omega),bo u.Kids i g1]
      simp only[vaa]
      rw[bo v.Kids i g2]
      simp only[vaa]
      have hm:=vak g2
      rw[ih (u.Kids[i],v.Kids[i]) (pT hm) (vcB (vaJ (pT hm) hx))]
      by_cases he:u.Kids[i]=v.Kids[i]<;>simp[he]
    ·have hne:u≠v:=fun e=>h4 (by rw[e])
     rw[vae (by simpa using h1),vae (by simpa using h2),vae (by simpa using h3)]
     have hb:((u.Kids.length:Int)!=(v.Kids.length:Int))=true:=by simp;omega
     simp[hb,hne]
   ·have hne:u≠v:=fun e=>h3 (by rw[e])
    rw[vae (by simpa using h1),vae (by simpa using h2),vad (by simpa using h3)]
    simp[hne]
  ·have hne:u≠v:=fun e=>h2 (by rw[e])
   rw[vae (by simpa using h1),vad (by simpa using h2)]
   simp[hne]
 ·have hne:u≠v:=fun e=>h1 (by rw[e])
  rw[vad (by simpa using h1)]
  simp[hne]
def gQ:aa:=⟨0,[],0,[]⟩
def qr:aa:=⟨2,[],1,[]⟩
def EW:aa:=⟨2,[],0,[]⟩
def TZ(p:aa):Bool:=decide (p=gQ)||decide (p=qr)
theorem qfy(p:aa)(hp:nP p<=bq):AU p=some (TZ p):=by
 have h1:jZ p (⟨0,([]:ag),0,([]:List aa)⟩:aa)=some (decide (p=gQ)):=Kz p gQ hp
 have h2:jZ p (⟨2,([]:ag),1,([]:List aa)⟩:aa)=some (decide (p=qr)):=Kz p qr hp
 unfold AU gX TZ
 rw[h1]
 simp only[vaa,if_true,h2]
 cases decide (p=gQ)<;>rfl
theorem Z3:nP gQ<=bq:=by decide
theorem TN{α σ X:Type}(g:α->σ->σ)(e:σ->X):∀(l:List α) (i:Nat) (s:σ),mV (fun _ x (s:σ)=>(Sum.inl (g x s):σ⊕X)) e l i s=e (l.foldl (fun s x=>g x s) s)
 |[],i,s=>by simp[mV]
 |x::l,i,s=>by
  unfold mV
  simp only
  rw[TN g e l (i+1) (g x s)]
  rfl
theorem qbd{α σ τ X:Type}(l:List α)(hl:l.length<9223372036854775808)(mk:Int->σ->τ)(body:τ->Option (τ⊕X))(I:Nat->σ->Prop)(g:α->σ->σ)(e:σ->X)(s0:σ)(h0:I 0 s0)
  (hin:∀(i:Nat) (h:i<l.length) s,I i s->body (mk i s)=some (.inl (mk (aR ((i:Int)+1)) (g l[i] s)))/\I (i+1) (g l[i] s)) (hend:∀s,I l.length s->body (mk l.length s)=some (.inr (e s))):
  loop body (mk 0 s0)=some (e (l.foldl (fun s x=>g x s) s0)):=by
 have:=kP l hl mk body I (fun _ x s=>.inl (g x s)) e (fun i h s hs=>⟨(hin i h s hs).1,fun s' hs'=>by cases hs';exact(hin i h s hs).2⟩) (fun s hs=>hend s hs) 0 s0 (vaN _) h0
 rw[TN]at this
 exact this
theorem y4(l:List aa)(i:Nat)(h:i<l.length):nL (l.take (i+1))=nL (l.take i)+nP l[i]:=by
 rw[vaM h,AN]
 simp[nL]
theorem pU(l:List aa)(i:Nat):nL (l.take i)<=nL l:=by
 have:=AN (l.take i) (l.drop i)
 rw[vcy]at this
 omega
theorem ZQ:∀(l:List aa) (a:Int),l.foldl (fun s x=>s+(nP x:Int)) a=a+(nL l:Int)
 |[],a=>by simp[nL]
 |x::l,a=>by rw[List.foldl_cons,ZQ l,nL];omega
theorem qdg(p:aa)(hp:nP p<=bq):KQ p=some (nP p:Int):=by
 refine eP (F:=DL) nP (fun x=>nP x<=bq) (fun x=>(nP x:Int)) (fun R x hx ih=>?_) p hp (ed hp)
 show yy (fun p=>R p) x=_
 unfold yy Br
 have hlen:=rx x
 have hn:=QD x
 rw[qbd x.Kids (by unfold bq at hx;omega) (fun i s=>(s,i)) _ (fun i s=>s=1+(nL (x.Kids.take i):Int)) (fun x s=>s+(nP x:Int)) id 1 (by simp[nL]) (fun i hi s hs=>?_) (fun s _=>?_)]
 ·rw[ZQ]
  simp only[id,vaa]
  rw[hn];congr 1;omega
 ·have hm:=vak hi
  have hk:=pT hm
  refine⟨?_,by rw[y4 _ _ hi,hs];omega⟩
  unfold qJ
  rw[vad (by simp;omega),bo x.Kids i hi]
  simp only[vaa]
  rw[ih _ hk (by omega)]
  simp only[vaa]
  have h1:=pU x.Kids i
  have h2:=pU x.Kids (i+1)
  have h3:=y4 x.Kids i hi
  unfold bq at hx
  rw[dB (n:=s+_) (by omega) (by omega)]
 ·unfold qJ
  rw[vae (by simp)]
  rfl
end Go.Proofs.YtbaamopmfmpfaaaGreatDoor
