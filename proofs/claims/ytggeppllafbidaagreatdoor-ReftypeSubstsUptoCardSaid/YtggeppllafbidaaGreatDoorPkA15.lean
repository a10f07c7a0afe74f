/- PROVED: a part of the proof. Conditions: none. -/
import Derived.Test.YtggeppllafbidaaGreatDoorPkA14
import Derived.Test.YtggeppllafbidaaGreatDoorPkA8
import Derived.Test.YtggeppllafbidaaGreatDoorPkA7
noncomputable section
namespace Go.Proofs.YtggeppllafbidaaGreatDoor
open Go Go.Proofs.Tryz
set_option linter.unusedVariables false
set_option maxRecDepth 100000
noncomputable def Sy:Code:=f16.body.getD .skip
def Qn:List Nat:=[15,34,40]
section
variable(v:waB)(t:ae)(i:Int)(s:ag)(t11:waA)(t12:Int)(m:waC)(m2:waB)(m3:waA)(m4:waB)
def zv:av:=aN 52 [(2,sl ac v),(3,.eptr (af t)),(6,.bptr 1 0),(7,.bptr 2 0),(8,.int .i64 i),(9,.str s),(11,sl cS t11),(12,.int .i64 t12),(13,.int .i64 i)] [.dead,.cells [.int .i64 0,.str ([]:ag),sl af m,sl cS ([]:List ag),.int .i64 0,.str ([]:ag),.int .i64 0,sl ac m2,sl ac m2] [(2,30),(3,9),(7,28),(8,28)],.cells [sl cS m3,sl ac m4] [(0,9),(1,28)]] []
def iu(o:Bool):av:=aN 52 [(2,sl ac v),(3,.eptr (af t)),(6,.bptr 1 0),(7,.bptr 2 0),(8,.int .i64 i),(9,.str s),(11,sl cS t11),(12,.int .i64 t12),(13,.int .i64 i),(32,.bool o)] [.dead,.cells [.int .i64 0,.str ([]:ag),sl af m,sl cS ([]:List ag),.int .i64 0,.str ([]:ag),.int .i64 0,sl ac m2,sl ac m2] [(2,30),(3,9),(7,28),(8,28)],.cells [sl cS m3,sl ac m4] [(0,9),(1,28)]] []
def fb:Option Bool:=
 if(decide (i<(v.length:Int)))=true then
  if(!(s==([118]:ag)))=true then
   (fp m3 s).bind fun r6=>
   some (decide (r6<0))
  else
   some false
 else
  some false
theorem yw{x:Bool}(h:fb v i s m3=some x):aB Pg GE 0 (cA Sy 7670) (EX .normal (iu v t i s t11 t12 m m2 m3 m4 x)) (zv v t i s t11 t12 m m2 m3 m4):=by
 rcases aT h with⟨c3,h⟩|⟨c3,h⟩
 ·have p5:=fun{sc F} (r:PS sc F)=>cD (aR.ln v)<|sg 5 c3<|r
  rcases aT h with⟨c4,h⟩|⟨c4,h⟩
  ·obtain⟨r6,br6,h⟩:=aw h
   obtain rfl:=lf h
   exact co Qn (p5<|sg 9 c4<|ss<|ba (kw br6)<|eF .normal (iu v t i s t11 t12 m m2 m3 m4 (decide (r6<0))))<|by kernel_rfl
  ·obtain rfl:=lf h
   exact co Qn (p5<|sg 9 c4<|eF .normal (iu v t i s t11 t12 m m2 m3 m4 false))<|by kernel_rfl
 ·obtain rfl:=lf h
  exact co Qn (cD (aR.ln v)<|sg 5 c3<|eF .normal (iu v t i s t11 t12 m m2 m3 m4 false))<|by kernel_rfl
end
section
variable(v:waB)(t:ae)(t11:waA)(t12:Int)(m:waC)(m2:waB)(t13:Int)(m3:waA)(m4:waB)
def eb:av:=aN 52 [(2,sl ac v),(3,.eptr (af t)),(6,.bptr 1 0),(7,.bptr 2 0),(11,sl cS t11),(12,.int .i64 t12),(13,.int .i64 t13)] [.dead,.cells [.int .i64 0,.str ([]:ag),sl af m,sl cS ([]:List ag),.int .i64 0,.str ([]:ag),.int .i64 0,sl ac m2,sl ac m2] [(2,30),(3,9),(7,28),(8,28)],.cells [sl cS m3,sl ac m4] [(0,9),(1,28)]] []
def kZ(o:waA×waB):av:=aN 52 [(3,.eptr (af t)),(6,.bptr 1 0),(7,.bptr 2 0)] [.dead,.cells [.int .i64 0,.str ([]:ag),sl af m,sl cS ([]:List ag),.int .i64 0,.str ([]:ag),.int .i64 0,sl ac m2,sl ac m2] [(2,30),(3,9),(7,28),(8,28)],.cells [sl cS o.1,sl ac o.2] [(0,9),(1,28)]] []
def cu:Option ((Int×waA×waB)⊕((waA×waB))):=
 if(decide (t13<t12))=true then
  (dv t11 t13).bind fun x2=>
  (fb v t13 x2 m3).bind fun o7=>
  if o7=true then
   (app m3 ([x2]:List ag)).bind fun l10=>
   (dv v t13).bind fun x11=>
   (app m4 ([x11]:List aa)).bind fun l12=>
   some (.inl (bA (t13+1),l10,l12))
  else
   some (.inl (bA (t13+1),m3,m4))
 else
  some (.inr (m3,m4))
def j0:Option ((waA×waB)):=loop (fun(zz:Int×waA×waB)=>cu v t11 t12 zz.1 zz.2.1 zz.2.2) (t13,m3,m4)
theorem wO{y:(Int×waA×waB)⊕((waA×waB))}(h:cu v t11 t12 t13 m3 m4=some y):aB Pg GE 0 (cA Sy 119) (LQ (fun(zz:Int×waA×waB)=>eb v t t11 t12 m m2 zz.1 zz.2.1 zz.2.2) (fun _=>.exit 0) (kZ t m m2) y) (eb v t t11 t12 m m2 t13 m3 m4):=by
 rcases aT h with⟨c1,h⟩|⟨c1,h⟩
 ·obtain⟨x2,bx2,h⟩:=aw h
  obtain⟨o7,bo7,h⟩:=aw h
  have p9:=fun{sc F} (r:PS sc F)=>sg 0 c1<|sv (aW.ia (k:=.i64) bx2)<|sv (cP xe (.str x2) [])<|kK 0<|cC (yw v t t13 x2 t11 t12 m m2 m3 m4 bo7)<|r
  rcases aT h with⟨c8,h⟩|⟨c8,h⟩
  ·obtain⟨l10,bl10,h⟩:=aw h
   obtain⟨x11,bx11,h⟩:=aw h
   obtain⟨l12,bl12,h⟩:=aw h
   obtain rfl:=lf h
   exact rY Qn (p9<|sg 0 c8<|sv (aW.mk' (v:=PVal.str) CE ([x2]:List ag) 1 (by kernel_rfl))<|sv (aW.ap bl10)<|rp [0,1,0,0,12,28,60,127,255,511]<|sv (aR.ia (k:=.i64) bx11)<|sv (az x11)<|sv (aR.mk' (v:=ce) aY ([x11]:List aa) 1 (by kernel_rfl))<|sv (aR.ap bl12)<|M0 (rfl:bR (sl ac l12)=some [sl ac l12])<|eF .normal (eb v t t11 t12 m m2 (bA (t13+1)) l10 l12))<|by kernel_rfl
  ·obtain rfl:=lf h
   exact rY Qn (p9<|sg 0 c8<|eF .normal (eb v t t11 t12 m m2 (bA (t13+1)) m3 m4))<|by kernel_rfl
 ·obtain rfl:=lf h
  have z:=sg 0 c1<|eF (.exit 0) (kZ t m m2 (m3,m4))
  exact gf Qn (by intro hx;cases hx) z<|by kernel_rfl
theorem yx{x:(waA×waB)}(h:j0 v t11 t12 t13 m3 m4=some x):aB Pg GE 0 (.loop (cA Sy 119)) (EX (.exit 0) (kZ t m m2 x)) (eb v t t11 t12 m m2 t13 m3 m4):=
 aB.loop (S:=fun(zz:Int×waA×waB)=>eb v t t11 t12 m m2 zz.1 zz.2.1 zz.2.2) (ex:=(fun _=>.exit 0)) (s:=(t13,m3,m4)) h fun zz y hy=>wO v t t11 t12 m m2 zz.1 zz.2.1 zz.2.2 hy
end
def i8(t:ae)(names:waA)(a:waB):Option ae:=
 (j0 a names (names.length:Int) 0 ([]:List ag) ([]:List aa)).bind fun o13=>
 (uZ t (⟨o13.1,o13.2⟩:aj)).bind fun r14=>
 some r14
theorem tT{t:ae}{names:waA}{a:waB}{r:ae}(h:i8 t names a=some r):CC Pg GE 16 [.agg (af t),sl cS names,sl ac a] (.agg (af r)) [(2,30),(8,28)]:=by
 obtain⟨o13,bo13,h⟩:=aw h
 obtain⟨r14,br14,h⟩:=aw h
 obtain rfl:=lf h
 have z:=se (bQ t)<|sx jh<|sb (gI) (gH)<|sx QX<|sy (cb (⟨([]:List ag),([]:List aa)⟩:aj))<|cD (aW.ln names)<|cC (yx a t names (names.length:Int) ([]:List ae) ([]:List aa) 0 ([]:List ag) ([]:List aa) bo13)<|sv (bh t)<|sv (cG (⟨o13.1,o13.2⟩:aj) [])<|ba (Ef br14)<|sy (aS r14)<|en (aI (cR r14)<|aI (al r14)<|rT)
 exact b7 Qn call16 func16 (c:=Sy) rfl (aI (al t) (aI (am dS names) (aI (am ah a) trivial))) z<|by kernel_rfl
noncomputable def UH:Code:=f14.body.getD .skip
def Us:List Nat:=[]
def wm(t:ae)(name:ag)(a:aa):Option ae:=
 (i8 t ([name]:List ag) ([a]:List aa)).bind fun r1=>
 some r1
theorem HQ{t:ae}{name:ag}{a:aa}{r:ae}(h:wm t name a=some r):CC Pg GE 14 [.agg (af t),.str name,.agg (ac a)] (.agg (af r)) [(2,30),(8,28)]:=by
 obtain⟨r1,br1,h⟩:=aw h
 obtain rfl:=lf h
 have z:=se (bQ t)<|se (bM a)<|sx jh<|sv (bh t)<|sv (aW.mk' (v:=PVal.str) CE ([name]:List ag) 1 (by kernel_rfl))<|sv (az a)<|sv (aR.mk' (v:=ce) aY ([a]:List aa) 1 (by kernel_rfl))<|ba (tT br1)<|sy (aS r1)<|en (aI (cR r1)<|aI (al r1)<|rT)
 exact b7 Us call14 func14 (c:=UH) rfl (aI (al t) (aI trivial (aI (ah a) trivial))) z<|by kernel_rfl
noncomputable def b3:Code:=Tryz.f3.body.getD .skip
def A3:List Nat:=[]
section
variable(names:waA)(v:waB)(t:ae)
def td:av:=aN 67 [(1,sl cS names),(2,sl ac v),(3,.eptr (af t))] [.dead] []
def dA(o:Bool):av:=aN 67 [(1,sl cS names),(2,sl ac v),(3,.eptr (af t)),(25,.bool o)] [.dead] []
def ft:Option Bool:=
 (HU ([t]:List ae)).bind fun r1=>
 if(!r1)=true then
  some true
 else
  (yF t).bind fun r4=>
  if(!r4)=true then
   some true
  else
   if(decide ((names.length:Int)>20))=true then
    some true
   else
    (ws v).bind fun r9=>
    some (!r9)
theorem ry{x:Bool}(h:ft names v t=some x):aB Pg GE 0 (cA b3 12) (EX .normal (dA names v t x)) (td names v t):=by
 obtain⟨r1,br1,h⟩:=aw h
 have p3:=fun{sc F} (r:PS sc F)=>sv (bh t)<|sv (d5.mk' (v:=tR) oH ([t]:List ae) 1 (by kernel_rfl))<|ba (Kl br1)<|r
 rcases aT h with⟨c2,h⟩|⟨c2,h⟩
 ·obtain rfl:=lf h
  exact co A3 (p3<|sg 5 c2<|eF .normal (dA names v t true))<|by kernel_rfl
 ·obtain⟨r4,br4,h⟩:=aw h
  have p6:=fun{sc F} (r:PS sc F)=>p3<|sg 5 c2<|sv (bh t)<|ba (Gq br4)<|r
  rcases aT h with⟨c5,h⟩|⟨c5,h⟩
  ·obtain rfl:=lf h
   exact co A3 (p6<|sg 10 c5<|eF .normal (dA names v t true))<|by kernel_rfl
  ·have p8:=fun{sc F} (r:PS sc F)=>p6<|sg 10 c5<|cD (aW.ln names)<|r
   rcases aT h with⟨c7,h⟩|⟨c7,h⟩
   ·obtain rfl:=lf h
    exact co A3 (p8<|sg 15 c7<|eF .normal (dA names v t true))<|by kernel_rfl
   ·obtain⟨r9,br9,h⟩:=aw h
    obtain rfl:=lf h
    exact co A3 (p8<|sg 15 c7<|ba (HW br9)<|eF .normal (dA names v t (!r9)))<|by kernel_rfl
end
section
variable(names:waA)(v:waB)(t:ae)
def te:av:=aN 67 [(1,sl cS names),(2,sl ac v),(3,.eptr (af t))] [.dead] []
def eH(o:Bool):av:=aN 67 [(1,sl cS names),(2,sl ac v),(3,.eptr (af t)),(54,.bool o)] [.dead] []
def fu:Option Bool:=
 if(decide ((names.length:Int)>0))=true then
  if(decide ((v.length:Int)>0))=true then
   (dv names 0).bind fun x18=>
   (dv v 0).bind fun x19=>
   (fN t x18 x19).bind fun r20=>
   (dv names 0).bind fun x21=>
   (dv v 0).bind fun x22=>
   (wm t x21 x22).bind fun r23=>
   (jG r20 r23).bind fun r24=>
   some (!r24)
  else
   some false
 else
  some false
theorem rz{x:Bool}(h:fu names v t=some x):aB Pg GE 0 (cA b3 28) (EX .normal (eH names v t x)) (te names v t):=by
 have p15:=fun{sc F} (r:PS sc F)=>rp [0,1,3,7,15,31,63,127,255,511,511,1535,3583,511,8703,25087,65535,511,511,262655,786943,511,2097663,6291967,16777215,33554431,67108863,134217727]<|cD (aW.ln names)<|r
 rcases aT h with⟨c14,h⟩|⟨c14,h⟩
 ·have p17:=fun{sc F} (r:PS sc F)=>p15<|sg 4 c14<|cD (aR.ln v)<|r
  rcases aT h with⟨c16,h⟩|⟨c16,h⟩
  ·obtain⟨x18,bx18,h⟩:=aw h
   obtain⟨x19,bx19,h⟩:=aw h
   obtain⟨r20,br20,h⟩:=aw h
   obtain⟨x21,bx21,h⟩:=aw h
   obtain⟨x22,bx22,h⟩:=aw h
   obtain⟨r23,br23,h⟩:=aw h
   obtain⟨r24,br24,h⟩:=aw h
   obtain rfl:=lf h
   exact co A3 (p17<|sg 9 c16<|sv (bh t)<|sv (aW.ia (k:=.i64) bx18)<|sv (cP xe (.str x18) [])<|sv (aR.ia (k:=.i64) bx19)<|sv (az x19)<|ba (ji br20)<|sv (bh t)<|sv (aW.ia (k:=.i64) bx21)<|sv (cP xe (.str x21) [])<|sv (aR.ia (k:=.i64) bx22)<|sv (az x22)<|ba (HQ br23)<|ba (kz br24)<|eF .normal (eH names v t (!r24)))<|by kernel_rfl
  ·obtain rfl:=lf h
   exact co A3 (p17<|sg 9 c16<|eF .normal (eH names v t false))<|by kernel_rfl
 ·obtain rfl:=lf h
  exact co A3 (p15<|sg 4 c14<|eF .normal (eH names v t false))<|by kernel_rfl
end
def lh(t:ae)(names:waA)(a:waB):Option Bool:=
 (ft names a t).bind fun o10=>
 if o10=true then
  wq.bind fun r13=>
  some r13
 else
  (fu names a t).bind fun o25=>
  if o25=true then
   some false
  else
   (dX t names a).bind fun r28=>
   (i8 t names a).bind fun r29=>
   (jG r28 r29).bind fun r30=>
   if r30=true then
    wq.bind fun r33=>
    some r33
   else
    some false
theorem u7{t:ae}{names:waA}{a:waB}{r:Bool}(h:lh t names a=some r):CC Pg GE 3 [.agg (af t),sl cS names,sl ac a] (.bool r) []:=by
 obtain⟨o10,bo10,h⟩:=aw h
 have p12:=fun{sc F} (r:PS sc F)=>se (bQ t)<|kK 1<|cC (ry names a t bo10)<|r
 rcases aT h with⟨c11,h⟩|⟨c11,h⟩
 ·obtain⟨r13,br13,h⟩:=aw h
  obtain rfl:=lf h
  have z:=p12<|sg 0 c11<|ba (zD br13)<|en (aI (rP (.bool r13))<|trivial)
  exact b7 A3 call3 func3 (c:=b3) rfl (aI (al t) (aI (am dS names) (aI (am ah a) trivial))) z<|by kernel_rfl
 ·obtain⟨o25,bo25,h⟩:=aw h
  have p27:=fun{sc F} (r:PS sc F)=>p12<|sg 0 c11<|kK 1<|cC (rz names a t bo25)<|r
  rcases aT h with⟨c26,h⟩|⟨c26,h⟩
  ·obtain rfl:=lf h
   have z:=p27<|sg 0 c26<|en (aI (rP (.bool false))<|trivial)
   exact b7 A3 call3 func3 (c:=b3) rfl (aI (al t) (aI (am dS names) (aI (am ah a) trivial))) z<|by kernel_rfl
  ·obtain⟨r28,br28,h⟩:=aw h
   obtain⟨r29,br29,h⟩:=aw h
   obtain⟨r30,br30,h⟩:=aw h
   have p32:=fun{sc F} (r:PS sc F)=>p27<|sg 0 c26<|rp [0,0,0,7,0,0,0,127,255,511,1023,2047,4095]<|sv (bh t)<|ba (jn br28)<|sv (bh t)<|ba (tT br29)<|ba (kz br30)<|r
   rcases aT h with⟨c31,h⟩|⟨c31,h⟩
   ·obtain⟨r33,br33,h⟩:=aw h
    obtain rfl:=lf h
    have z:=p32<|sg 10 c31<|ba (zD br33)<|en (aI (rP (.bool r33))<|trivial)
    exact b7 A3 call3 func3 (c:=b3) rfl (aI (al t) (aI (am dS names) (aI (am ah a) trivial))) z<|by kernel_rfl
   ·obtain rfl:=lf h
    have z:=p32<|sg 10 c31<|en (aI (rP (.bool false))<|trivial)
    exact b7 A3 call3 func3 (c:=b3) rfl (aI (al t) (aI (am dS names) (aI (am ah a) trivial))) z<|by kernel_rfl
open Go
theorem J3{α β X:Type}(g:α->β)(e:List β->X):∀(l:List α) (i:Nat) (s:List β),lN (fun _ x (s:List β)=>(Sum.inl (s++[g x]):List β⊕X)) e l i s=e (s++l.map g)
 |[],i,s=>by simp[lN]
 |x::l,i,s=>by
  unfold lN
  simp only
  rw[J3 g e l (i+1) (s++[g x])]
  simp
theorem JG{α β τ X:Type}(l:List α)(hl:l.length<9223372036854775808)(mk:Int->List β->τ)(body:τ->Option (τ⊕X))(g:α->β)(e:List β->X)
  (hin:∀(i:Nat) (h:i<l.length) s,s.length=i->body (mk i s)=some (.inl (mk (bA ((i:Int)+1)) (s++[g l[i]])))) (hend:∀s,body (mk l.length s)=some (.inr (e s))):loop body (mk 0 [])=some (e (l.map g)):=by
 have:=jP l hl mk body (fun i s=>s.length=i) (fun _ x s=>.inl (s++[g x])) e (fun i h s hs=>⟨hin i h s hs,fun s' hs'=>by cases hs';simp[hs]⟩) (fun s _=>hend s) 0 [] (vaJ _) rfl
 rw[J3]at this
 exact this
set_option linter.unusedSimpArgs false
abbrev SZ(a:List ag):Prop:=a.length<9223372036854775808
def Jt(l:List ag)(s:ag):Int:=match l.findIdx? (fun x=>x==s)with|some j=>(j:Int)|none=>-1
theorem mU(l:List ag)(s:ag)(hl:l.length<9223372036854775808):fp l s=some (Jt l s):=by
 unfold fp pT
 have:=BD l hl (fun zz=>dz l s l.length zz) (fun x=>x==s) (fun j=>Sum.inl (j:Int)) (Sum.inr ()) (fun i h=>by
  simp only[dz]
  rw[vaj (by simp;omega),cd _ i h]
  simp only[vaa]
  split<;>simp_all) (by simp only[dz];rw[van (by simp)])
 rw[this]
 unfold Jt
 cases l.findIdx? (fun x=>x==s)<;>rfl
theorem lu(l:List ag)(s:ag):decide (Jt l s>=0)=l.any fun k=>k==s:=by
 unfold Jt
 cases h:l.findIdx? (fun x=>x==s)with
 |none=>
  rw[vcg]at h
  symm
  simp only[vbj]
  rw[show decide ((-1:Int)>=0)=false from rfl]
  simp only[vbj,Bool.not_eq_true]
  exact h
 | some j =>
  have h2:l.any (fun x=>x==s)=true:=by
   have:=List.findIdx?_isSome (xs:=l) (p:=fun x=>x==s)
   rw[h]at this
   exact this.symm
  rw[h2]
  simp
theorem Mq(l:List ag)(s:ag):decide (Jt l s<0)= !l.any fun k=>k==s:=by
 rw[<-lu]
 rw[<-decide_not]
 simp
theorem He{α:Type}(k:ag)(v:α)(j:ag):∀(m:List (ag×α)),tz (wQ m k v) j=if(j==k)=true then some v else tz m j
 |[]=>by
  simp only[wQ,tz,List.find?_cons,List.find?_nil]
  cases(j==k)<;>rfl
 | e :: r => by
  have ih:=He k v j r
  unfold wQ
  by_cases h:(k==e.1)=true
  ·have h':k=e.1:=by simpa using h
   rw[vaj h]
   unfold tz
   simp only[List.find?_cons]
   rw[<-h']
   cases hj:(j==k)<;>simp
  ·rw [van h]
   unfold tz at ih ⊢
   simp only[List.find?_cons]
   cases hj:(j==e.1)
   ·simpa using ih
   ·have:¬(j==k)=true:=fun hk=>h (by
      have h1:j=e.1:=by simpa using hj
      have h2:j=k:=by simpa using hk
      simp[<-h1,<-h2])
    simp[this]
abbrev EY(m:List (ag×Bool))(k:ag):Bool:=(tz m k).getD false
theorem N1(m:List (ag×Bool))(k j:ag):EY (wQ m k true) j=(j==k||EY m j):=by
 unfold EY
 rw[He]
 cases(j==k)<;>rfl
def KF(l:ag):Nat:=l.foldl (fun a c=>10 * a+(c.toNat - 48)) 0
theorem Ey(u:Nat):KF (Lib.decDigits u)=u:=by
 induction u using Nat.strongRecOn with
 | _ u ih =>
  rw[Lib.decDigits]
  by_cases h:u<10
  ·rw[dif_pos h]
   unfold KF
   simp
   omega
  ·rw[dif_neg h]
   have:=ih (u / 10) (by omega)
   unfold KF at this ⊢
   rw[vck,this]
   simp
   omega
theorem Pr{u v:Nat}(h:Lib.decDigits u=Lib.decDigits v):u=v:=by rw[<-Ey u,<-Ey v,h]
theorem H7(u:Nat):(Lib.decDigits u).length<=u+1:=by
 induction u using Nat.strongRecOn with
 | _ u ih =>
  rw[Lib.decDigits]
  by_cases h:u<10
  ·rw[dif_pos h];simp
  ·rw[dif_neg h]
   have:=ih (u / 10) (by omega)
   simp
   omega
theorem Hw:∀(k n:Nat) (acc:ag),n<=k->n<=1000000000->acc.length<=1000000000 - n->kv acc n=some (if n=0 then acc else Lib.decDigits n++acc)
 |k,0,acc,_,_,_=>by
  unfold kv
  exact oF rfl
 |0,n+1,_,h,_,_=>absurd h (by omega)
 | k + 1,n + 1,acc,hk,hn,ha => by
  have hb:jt acc ((n+1:Nat):Int)=some (.inl (UInt8.ofNat (48+(n+1) % 10)::acc,(((n+1) / 10:Nat):Int))):=by
   simp only[jt]
   have h1:(((n+1:Nat):Int)!=0)=true:=by simp;omega
   have h2:re ((n+1:Nat):Int) 10=some (((n+1) % 10:Nat):Int):=by
    simp only[re]
    have e:((n+1:Nat):Int) % 10=(((n+1) % 10:Nat):Int):=by omega
    rw[van (by omega),Int.tmod_eq_emod_of_nonneg (by omega),e]
   have h3:pS (((n+1) % 10:Nat):Int)=some (((n+1) % 10:Nat):Int):=by
    simp only[pS]
    rw[van (by simp;omega)]
   have h4:IntKind.u8.wrap (bA (48+(((n+1) % 10:Nat):Int)))=((48+(n+1) % 10:Nat):Int):=by
    rw[nK (by omega) (by omega)]
    have h5:(48:Int)+(((n+1) % 10:Nat):Int)=((48+(n+1) % 10:Nat):Int):=by omega
    rw[h5]
    generalize hq:48+(n+1) % 10=q
    have:q<58:=by omega
    show((q:Int) % 256)=q
    omega
   have h6:pe [((48+(n+1) % 10:Nat):Int)]=some [UInt8.ofNat (48+(n+1) % 10)]:=by
    simp only[pe]
    rw[vaj (by omega)]
    rfl
   have h7:qu .i64 ((n+1:Nat):Int) 10=some (((n+1) / 10:Nat):Int):=by
    simp only[qu]
    rw[van (by omega),Int.tdiv_eq_ediv_of_nonneg (by omega)]
    have e:((n+1:Nat):Int) / 10=(((n+1) / 10:Nat):Int):=by omega
    rw[e]
    exact vbr some (nK (by omega) (by omega))
   rw[h1]
   simp only[if_true,h2,vaa,h3,h4,h6]
   rw[Ev (by simp;omega),h7]
   rfl
  unfold kv
  refine(oG (body:=fun zz:ag×Int=>jt zz.1 zz.2) (s:=(acc,((n+1:Nat):Int))) (s':=(UInt8.ofNat (48+(n+1) % 10)::acc,(((n+1) / 10:Nat):Int))) hb).trans ?_
  have ih:=Hw k ((n+1) / 10) (UInt8.ofNat (48+(n+1) % 10)::acc) (by omega) (by omega) (by simp;omega)
  unfold kv at ih
  rw[ih,van (by omega:¬n+1=0)]
  conv=>rhs;rw[Lib.decDigits]
  by_cases h:n+1<10
  ·rw[dif_pos h,vaj (by omega),vb1 h]
   rfl
  ·rw[dif_neg h,van (by omega)]
   simp
theorem Cm(n:Nat)(h0:1<=n)(h:n<=1000000000):zp n=some (Lib.decDigits n):=by
 unfold zp
 have h1:((n:Int)==0)=false:=by simp;omega
 rw[h1,Hw n n [] (var _) h (by simp)]
 have h2:decide ((n:Int)<0)=false:=by simp
 simp only[vaP,if_false,vaa,h2]
 rw[van (by omega)]
 simp
theorem JA(n:Nat)(h:n<=1000000000):LB n=some (Lib.decDigits n):=by
 unfold LB Lib.itoa
 rw[vaj (by simp;omega),van (by omega)]
 rfl
theorem Og:∀(used L:List ag),L.Nodup->used.length<L.length->∃x∈L,x∉used
 |[],L,_,h=>by
  cases L with
  |nil=>simp at h
  |cons x L=>exact⟨x,by simp,by simp⟩
 | u :: us,L,hn,h => by
  obtain⟨x,hx,hu⟩:=Og us (L.erase u) (hn.erase u) (by
   have:=List.length_erase (a:=u) (l:=L)
   rw[this]
   simp at h
   split<;>omega)
  rw[hn.mem_erase_iff]at hx
  exact⟨x,hx.2,by simp[hx.1,hu]⟩
theorem NK(used:List ag)(base:ag):∃n,1<=n/\n<=used.length+1/\base++Lib.decDigits n∉used:=by
 obtain⟨x,hx,hu⟩:=Og used ((List.range (used.length+1)).map fun i=>base++Lib.decDigits (i+1)) (by
  unfold List.Nodup
  rw[List.pairwise_map]
  refine vcK ?_ (List.nodup_range (n:=used.length+1))
  intro a b hab e
  have:=Pr (List.append_cancel_left e)
  omega) (by simp)
 simp only[vaq,vbs]at hx
 obtain⟨i,hi,rfl⟩:=hx
 exact⟨i+1,by omega,by omega,hu⟩
def nv(used:List ag)(base:ag):Nat->Nat->ag
 |0,_=>[]
 |k+1,n=>if used.contains (base++Lib.decDigits n)=true then nv used base k (n+1)else base++Lib.decDigits n
def iO(used:List ag)(base:ag):ag:=if used.contains base=true then nv used base 100000001 1 else base
theorem z7(used:List ag)(hl:SZ used):∃m,lz used used.length 0 []=some m/\∀k,EY m k=used.contains k:=by
 unfold lz
 have:=jP used hl (fun i (m:List (ag×Bool))=>(i,m)) (fun zz=>f7 used used.length zz.1 zz.2) (fun _ _=>True) (fun _ x m=>.inl (wQ m x true)) (fun m=>m) (fun i hi t _=>⟨by
   simp only[f7]
   rw[vaj (by simp;omega),cd _ i hi]
   rfl,fun _ _=>trivial⟩) (fun _ _=>by simp only[f7];rw[van (by simp)]) 0 [] (vaJ _) trivial
 simp only[Int.ofNat_zero,vbf]at this
 rw[this]
 refine⟨_,rfl,?_⟩
 have key:∀(l:List ag) (i:Nat) (m:List (ag×Bool)) k,EY (lN (fun _ x (m:List (ag×Bool))=>(Sum.inl (wQ m x true):List (ag×Bool)⊕List (ag×Bool))) (fun m=>m) l i m) k=(l.contains k||EY m k):=by
  intro l
  induction l with
  |nil=>intro i m k;simp[lN]
  |cons x l ih=>
   intro i m k
   unfold lN
   simp only[ih,N1,List.contains_cons]
   cases(k==x)<;>cases l.contains k<;>simp
 intro k
 rw[key]
 simp[EY,tz]
theorem Cv(used:List ag)(base:ag)(m:List (ag×Bool))(hm:∀k,EY m k=used.contains k)(hl:used.length<=100000000)(hb:base.length<=4000000000000000000)(N:Nat)(hN:base++Lib.decDigits N∉used)(hN2:N<=100000001):∀(k n:Nat),1<=n->n<=N->N<n+k->iS base m n=some (nv used base k n)/\gq used base (base++Lib.decDigits n) ((n+1:Nat):Int)=some (nv used base k n)/\nv used base k n∉used
 |0,n,_,h1,h2=>absurd h2 (by omega)
 | k + 1,n,h0,h1,h2 => by
  have hd:=H7 n
  have hd2:=H7 (n+1)
  have e1:bA ((n:Int)+1)=((n+1:Nat):Int):=by rw[nK (by omega) (by omega)];omega
  have e2:bA (((n+1:Nat):Int)+1)=((n+2:Nat):Int):=by rw[nK (by omega) (by omega)];omega
  unfold nv
  by_cases hc:used.contains (base++Lib.decDigits n)=true
  ·rw[vaj hc]
   have hne:n≠N:=by
    rintro rfl
    exact hN (by simpa using hc)
   obtain⟨i1,i2,i3⟩:=Cv used base m hm hl hb N hN hN2 k (n+1) (by omega) (by omega) (by omega)
   have hm':=hm (base++Lib.decDigits n)
   unfold EY at hm'
   have b1:eM base m (n:Int)=some (.inl (((n+1:Nat):Int))):=by
    simp only[eM]
    rw[JA n (by omega)]
    simp only[vaa]
    rw[Ev (by omega)]
    simp only[vaa,hm',hc,e1]
    rfl
   have b2:ck used base (base++Lib.decDigits n) ((n+1:Nat):Int)=some (.inl (base++Lib.decDigits (n+1),((n+2:Nat):Int))):=by
    simp only[ck]
    rw[mU _ _ (by omega)]
    simp only[vaa,lu]
    have:(used.any fun k=>k==base++Lib.decDigits n)=true:=by simpa[vbq]using hc
    rw[this,vaj rfl,Cm (n+1) (by omega) (by omega)]
    simp only[vaa]
    rw[Ev (by omega)]
    simp only[vaa,e2]
   refine⟨?_,?_,i3⟩
   ·unfold iS at i1 ⊢
    exact(oG b1).trans i1
   ·unfold gq at i2 ⊢
    exact(oG (body:=fun zz:ag×Int=>ck used base zz.1 zz.2) (s:=(base++Lib.decDigits n,((n+1:Nat):Int))) (s':=(base++Lib.decDigits (n+1),((n+2:Nat):Int))) b2).trans i2
  ·rw[van hc]
   have hc':used.contains (base++Lib.decDigits n)=false:=by simpa using hc
   have hm':=hm (base++Lib.decDigits n)
   unfold EY at hm'
   have b1:eM base m (n:Int)=some (.inr (base++Lib.decDigits n)):=by
    simp only[eM]
    rw[JA n (by omega)]
    simp only[vaa]
    rw[Ev (by omega)]
    simp only[vaa,hm',hc']
    rfl
   have b2:ck used base (base++Lib.decDigits n) ((n+1:Nat):Int)=some (.inr (base++Lib.decDigits n)):=by
    simp only[ck]
    rw[mU _ _ (by omega)]
    simp only[vaa,lu]
    have:(used.any fun k=>k==base++Lib.decDigits n)=false:=by
     rw[vcm]
     intro h
     apply hc
     simpa[vbq]using h
    rw[this]
    rfl
   refine⟨?_,?_,by simpa using hc⟩
   ·unfold iS
    exact oF b1
   ·unfold gq
    exact oF (body:=fun zz:ag×Int=>ck used base zz.1 zz.2) (s:=(base++Lib.decDigits n,((n+1:Nat):Int))) b2
theorem IZ(used:List ag)(base:ag)(hl:used.length<=100000000)(hb:base.length<=4000000000000000000):ql used base=some (iO used base)/\wl used base=some (iO used base)/\iO used base∉used:=by
 obtain⟨m,hm1,hm⟩:=z7 used (show _<_ by omega)
 have hm':=hm base
 unfold EY at hm'
 obtain⟨N,h1,h2,h3⟩:=NK used base
 obtain⟨i1,i2,i3⟩:=Cv used base m hm hl hb N h3 (by omega) 100000001 1 (var _) h1 (by omega)
 unfold ql wl iO
 rw[hm1]
 simp only[vaa,hm']
 have hd:=H7 1
 by_cases hc:used.contains base=true
 ·simp only[hc,vbK,vaP,if_false,if_true]
  simp only[Int.ofNat_one]at i1
  rw[i1]
  have b2:ck used base base 1=some (.inl (base++Lib.decDigits 1,((2:Nat):Int))):=by
   simp only[ck]
   rw[mU _ _ (by omega)]
   simp only[vaa,lu]
   have:(used.any fun k=>k==base)=true:=by simpa[vbq]using hc
   have ht:=Cm 1 (by omega) (by omega)
   simp only[Int.ofNat_one]at ht
   rw[this,vaj rfl,ht]
   simp only[vaa]
   rw[Ev (by omega)]
   rfl
  unfold gq at i2 ⊢
  have:=(oG (body:=fun zz:ag×Int=>ck used base zz.1 zz.2) (s:=(base,1)) (s':=(base++Lib.decDigits 1,((2:Nat):Int))) b2).trans i2
  rw[this]
  exact⟨rfl,rfl,i3⟩
 ·have hc':used.contains base=false:=by simpa using hc
  simp only[hc',vbz,if_true,vaP,if_false]
  have b2:ck used base base 1=some (.inr base):=by
   simp only[ck]
   rw[mU _ _ (by omega)]
   simp only[vaa,lu]
   have:(used.any fun k=>k==base)=false:=by
    rw[vcm]
    intro h
    apply hc
    simpa[vbq]using h
   rw[this]
   rfl
  unfold gq
  have:=oF (body:=fun zz:ag×Int=>ck used base zz.1 zz.2) (s:=(base,1)) b2
  rw[this]
  exact⟨trivial,rfl,by simpa using hc⟩
theorem zR{u v:List ag}(h:∀x,x∈u↔x∈v)(base:ag):∀(k n:Nat),nv u base k n=nv v base k n
 |0,n=>by rw[nv,nv]
 | k + 1,n => by
  have e:u.contains (base++Lib.decDigits n)=v.contains (base++Lib.decDigits n):=by
   rw[vb8,vby,vby]
   exact h _
  rw[nv,nv,e,zR h base k (n+1)]
theorem If{u v:List ag}(h:∀x,x∈u↔x∈v)(base:ag):iO u base=iO v base:=by
 have e:u.contains base=v.contains base:=by
  rw[vb8,vby,vby]
  exact h _
 unfold iO
 rw[e,zR h]
abbrev CU(l:List ag):Prop:=l.Pairwise Kq
theorem tw:∀{a b:List ag},CU a->CU b->(∀x,x∈a↔x∈b)->a=b
 |[],[],_,_,_=>rfl
 |[],y::b,_,_,h=>by have:=(h y).2 (by simp);simp at this
 |x::a,[],_,_,h=>by have:=(h x).1 (by simp);simp at this
 | x :: a,y :: b,ha,hb,h => by
  unfold CU at ha hb
  rw[va3]at ha hb
  have hxy:x=y:=by
   have h1:=(h x).1 (by simp)
   have h2:=(h y).2 (by simp)
   rw[vaG]at h1 h2
   rcases h1 with h1|h1
   ·exact h1
   ·rcases h2 with h2|h2
    ·exact h2.symm
    ·have:=mY (hb.1 x h1) (ha.1 y h2)
     unfold Kq at this
     rw[oC]at this
     cases this
  subst hxy
  congr 1
  refine tw ha.2 hb.2 fun z=>?_
  constructor
  ·intro hz
   have:=(h z).1 (by simp[hz])
   rw[vaG]at this
   rcases this with rfl|this
   ·have:=ha.1 _ hz;unfold Kq at this;rw[oC]at this;cases this
   ·exact this
  ·intro hz
   have:=(h z).2 (by simp[hz])
   rw[vaG]at this
   rcases this with rfl|this
   ·have:=hb.1 _ hz;unfold Kq at this;rw[oC]at this;cases this
   ·exact this
theorem xo(d:List ag)(hs:d.Pairwise fun x y=>Op.bytesLess y x=false):∀m,m<=d.length->CU (Lib.compactUpTo d.toArray m)/\∀x,x∈Lib.compactUpTo d.toArray m↔∃(j:Nat) (h:j<d.length),j<m/\d[j]=x
 |0,_=>by
  refine⟨by simp[Lib.compactUpTo,CU],fun x=>?_⟩
  simp[Lib.compactUpTo]
 | m + 1,hm => by
  obtain⟨h1,h2⟩:=xo d hs m (by omega)
  have hg:∀j (h:j<d.length),d.toArray[j]! =d[j]:=fun j h=>by simp[h]
  rw[Lib.compactUpTo_succ]
  by_cases hk:Lib.keeps d.toArray m=true
  ·rw [vaj hk,hg m (by omega)]
   refine⟨?_,fun x=>?_⟩
   ·unfold CU
    rw[List.pairwise_append]
    refine⟨h1,by simp,fun x hx y hy=>?_⟩
    simp at hy
    subst hy
    obtain⟨j,hj,hjm,rfl⟩:=(h2 x).1 hx
    have hne:d[m - 1]≠d[m]:=by
     unfold Lib.keeps at hk
     simp only[vai]at hk
     rcases hk with hk|hk
     ·omega
     ·rw[hg m (by omega),hg (m - 1) (by omega)]at hk
      exact fun e=>hk e.symm
    have hlt:Op.bytesLess d[m - 1] d[m]=true:=by
     have k1:=(vch.1 hs) (m - 1) m (by omega) (by omega) (by omega)
     cases h:Op.bytesLess d[m - 1] d[m]with
     |true=>rfl
     |false=>exact absurd (o0 h k1) hne
    by_cases hj2:j=m - 1
    ·subst hj2;exact hlt
    ·have k2:=(vch.1 hs) j (m - 1) (by omega) (by omega) (by omega)
     cases h:Op.bytesLess d[j] d[m - 1]with
     |true=>exact mY h hlt
     |false=>
      have:=o0 h k2
      rw[this];exact hlt
   ·rw[vaB,h2]
    constructor
    ·rintro(⟨j,hj,hjm,rfl⟩|hx)
     ·exact⟨j,hj,by omega,rfl⟩
     ·simp at hx;exact⟨m,by omega,by omega,hx.symm⟩
    ·rintro⟨j,hj,hjm,rfl⟩
     by_cases e:j=m
     ·subst e;exact .inr (by simp)
     ·exact .inl ⟨j,hj,by omega,rfl⟩
  ·rw [van hk,vbv]
   refine⟨h1,fun x=>?_⟩
   rw[h2]
   constructor
   ·rintro⟨j,hj,hjm,rfl⟩;exact⟨j,hj,by omega,rfl⟩
   ·rintro⟨j,hj,hjm,rfl⟩
    by_cases e:j=m
    ·subst e
     have:j≠0/\d.toArray[j]! =d.toArray[j - 1]! :=by
      unfold Lib.keeps at hk
      simp only[vai,not_or,ne_eq,Decidable.not_not]at hk
      exact hk
     rw[hg j hj,hg (j - 1) (by omega)]at this
     exact⟨j - 1,by omega,by omega,this.2.symm⟩
    ·exact⟨j,hj,by omega,rfl⟩
def gw(a b:List ag):List ag:=Lib.compact (i6 (a++b))
theorem zh(a b:List ag):CU (gw a b)/\∀x,x∈gw a b↔x∈a\/x∈b:=by
 obtain⟨h1,h2⟩:=xo (i6 (a++b)) (AX _) _ (var _)
 refine⟨h1,fun x=>?_⟩
 rw[show gw a b=Lib.compactUpTo (i6 (a++b)).toArray (i6 (a++b)).length from rfl,h2,<-vaB,<-MY,List.mem_iff_getElem]
 constructor
 ·rintro⟨j,h,_,e⟩;exact⟨j,h,e⟩
 ·rintro⟨j,h,e⟩;exact⟨j,h,h,e⟩
theorem vB(a b:List ag)(h:a.length+b.length<=1073741824):kF a b=some (gw a b):=by
 unfold kF
 rw[du (by simp;omega)]
 simp only[vaa]
 rw[du (by simp;omega)]
 simp only[vaa]
 rw[Jz]
 rfl
def EM(s:ag):List ag->List ag
 |[]=>[s]
 |x::r=>if Op.bytesLess x s=true then x::EM s r else if(x==s)=true then s::r else s::x::r
def kk(s:ag):List ag->Nat
 |[]=>0
 |x::r=>if Op.bytesLess x s=true then kk s r+1 else 0
theorem P9(s:ag):∀l,kk s l<=l.length
 |[]=>var _
 |x::r=>by have:=P9 s r;unfold kk;split<;>simp<;>omega
theorem NR(s:ag):∀l,EM s l=l.take (kk s l)++s::l.drop (kk s l+if(l[kk s l]? ==some s)=true then 1 else 0)
 |[]=>by simp[EM,kk]
 | x :: r => by
  have ih:=NR s r
  unfold EM kk
  by_cases h:Op.bytesLess x s=true
  ·rw[vaj h,vaj h,ih]
   simp only[List.take_succ_cons,List.getElem?_cons_succ,vbw]
   rw[show kk s r+1+(if(r[kk s r]? ==some s)=true then 1 else 0)=(kk s r+if(r[kk s r]? ==some s)=true then 1 else 0)+1 by omega,List.drop_succ_cons]
  ·rw[van h,van h]
   by_cases hx:(x==s)=true
   ·have:x=s:=by simpa using hx
    simp[this]
   ·have:¬x=s:=by simpa using hx
    simp[this]
theorem DT(s:ag):∀l,(EM s l).length<=l.length+1
 |[]=>by simp[EM]
 | x :: r => by
  have:=DT s r
  unfold EM
  split
  ·simp;omega
  ·split<;>simp
theorem Ip(s:ag):∀l x,x∈EM s l↔x=s\/x∈l
 |[],x=>by simp[EM]
 | y :: r,x => by
  have:=Ip s r x
  unfold EM
  by_cases h:Op.bytesLess y s=true
  ·rw[vaj h,vaG,this,vaG]
   constructor
   ·rintro(h|h|h)<;>simp[h]
   ·rintro(h|h|h)<;>simp[h]
  ·rw[van h]
   by_cases hy:(y==s)=true
   ·have e:y=s:=by simpa using hy
    rw[vaj hy,e]
    simp
   ·rw[van hy]
    simp
theorem LA(s:ag):∀{l},CU l->CU (EM s l)
 |[],_=>by simp[EM,CU]
 | x :: r,h => by
  unfold CU at h ⊢
  rw[va3]at h
  unfold EM
  by_cases hx:Op.bytesLess x s=true
  ·rw[vaj hx,va3]
   refine⟨fun y hy=>?_,LA s h.2⟩
   rw[Ip]at hy
   rcases hy with rfl|hy
   ·exact hx
   ·exact h.1 y hy
  ·rw [van hx]
   by_cases he:(x==s)=true
   ·have e:x=s:=by simpa using he
    subst e
    rw[vaj he,va3]
    exact h
   ·have hsx:Kq s x:=by
     cases hc:Op.bytesLess s x with
     |true=>exact hc
     |false=>
      have:=o0 (by simpa using hx) hc
      simp[this]at he
    rw[van he,va3,va3]
    refine⟨fun y hy=>?_,h⟩
    rw[vaG]at hy
    rcases hy with rfl|hy
    ·exact hsx
    ·exact mY hsx (h.1 y hy)
theorem LR(s:ag):∀(l:List ag) (i:Nat) (out:List ag),lN (fun i x (out:List ag)=>if Op.bytesLess x s=true then(Sum.inl (out++[x]):List ag⊕(List ag×Nat))else .inr (out,i)) (fun out=>(out,i+l.length)) l i out=(out++l.take (kk s l),i+kk s l)
 |[],i,out=>by simp[lN,kk]
 | x :: l,i,out => by
  have ih:=LR s l (i+1) (out++[x])
  unfold lN kk
  by_cases h:Op.bytesLess x s=true
  ·simp only[h,if_true]
   rw[show i+(x::l).length=i+1+l.length by simp;omega,ih]
   simp
   omega
  ·simp[h]
theorem Hu{α σ X Y:Type}(g:X->Y)(f:Nat->α->σ->σ⊕X)(e:σ->X):∀(l:List α) (i:Nat) (s:σ),lN (fun i x s=>Sum.map id g (f i x s)) (fun s=>g (e s)) l i s=g (lN f e l i s)
 |[],i,s=>rfl
 |x::l,i,s=>by
  unfold lN
  cases f i x s with
  |inl s'=>exact Hu g f e l (i+1) s'
  |inr y=>rfl
def N5{σ:Type}(y:σ×Nat):σ×Int:=(y.1,(y.2:Int))
theorem D5(a:List ag)(s:ag)(ha:a.length<=1000000000):pV a s=some (EM s a):=by
 unfold pV yn
 have:=jP a (by omega) (fun i (out:List ag)=>(out,i)) (fun zz=>kT a s zz.1 zz.2) (fun i out=>out.length=i)
  (fun i x out=>Sum.map id N5 (if Op.bytesLess x s=true then(Sum.inl (out++[x]):List ag⊕(List ag×Nat))else .inr (out,i))) (fun out=>N5 (out,0+a.length)) (fun i hi out hI=>by
   have hb:me a s i=some (Op.bytesLess a[i] s):=by
    simp only[me]
    rw[vaj (by simp;omega),cd _ i hi]
    rfl
   refine⟨?_,fun s' hs'=>?_⟩
   ·simp only[kT]
    rw[hb]
    simp only[vaa]
    by_cases hl:Op.bytesLess a[i] s=true
    ·rw[vaj hl,vaj hl,cd _ i hi]
     simp only[vaa]
     rw[du (by simp;omega)]
     rfl
    ·rw[van hl,van hl]
     rfl
   ·by_cases hl:Op.bytesLess a[i] s=true
    ·rw[vaj hl]at hs';cases hs';simp;omega
    ·rw[van hl]at hs';cases hs') (fun out _=>by
   have hb:me a s a.length=some false:=by
    simp only[me]
    rw[van (by simp)]
   simp only[kT]
   rw[hb]
   simp[N5]) 0 [] (vaJ _) rfl
 simp only[Int.ofNat_zero,vbf]at this
 have hm:=Hu N5 (fun i x (out:List ag)=>if Op.bytesLess x s=true then(Sum.inl (out++[x]):List ag⊕(List ag×Nat))else .inr (out,i)) (fun out=>(out,0+a.length)) a 0 []
 rw[this.trans (vbr some hm),LR s a 0 []]
 simp only[va2,vaD,vaa,N5]
 have hk:=P9 s a
 rw[du (by simp;omega)]
 simp only[vaa]
 have hj:sO a s (kk s a)=some ((kk s a+if(a[kk s a]? ==some s)=true then 1 else 0:Nat):Int):=by
  unfold sO ym
  by_cases hlt:kk s a<a.length
  ·rw[vaj (by simp;omega),cd _ _ hlt]
   simp only[vaa,vab hlt]
   have e:(some a[kk s a]==some s)=(a[kk s a]==s):=rfl
   rw[e]
   by_cases h:(a[kk s a]==s)=true
   ·rw[vaj h,vaj h,nK (by omega) (by omega)]
    rfl
   ·rw[van h,van h]
    rfl
  ·have hn:a[kk s a]? =none:=by simp;omega
   rw[van (by simp;omega),hn]
   rfl
 rw[hj]
 simp only[vaa]
 have hle:kk s a+(if(a[kk s a]? ==some s)=true then 1 else 0)<=a.length:=by
  by_cases hlt:kk s a<a.length
  ·split<;>omega
  ·have hn:a[kk s a]? =none:=by simp;omega
   rw[hn]
   simp
   omega
 rw[OC a _ hle]
 simp only[vaa]
 rw[du (by simp;omega),NR]
 simp
theorem zg{α σ:Type}(g:σ->α->σ):∀(l:List α) (i:Nat) (s:σ),lN (fun _ x s=>(Sum.inl (g s x):σ⊕σ)) (fun s=>s) l i s=l.foldl g s
 |[],i,s=>rfl
 |x::l,i,s=>zg g l (i+1) (g s x)
theorem yN:∀(l out:List ag),CU out->CU (l.foldl (fun o x=>EM x o) out)/\(∀x,x∈l.foldl (fun o x=>EM x o) out↔x∈out\/x∈l)/\(l.foldl (fun o x=>EM x o) out).length<=out.length+l.length
 |[],out,h=>⟨h,by simp,by simp⟩
 | y :: l,out,h => by
  obtain⟨h1,h2,h3⟩:=yN l (EM y out) (LA y h)
  have:=DT y out
  refine⟨h1,fun x=>?_,by simp only[List.foldl_cons,vaS];omega⟩
  rw[List.foldl_cons,h2,Ip,vaG]
  constructor
  ·rintro((h|h)|h)<;>simp[h]
  ·rintro(h|h|h)<;>simp[h]
theorem gr(a b:List ag)(ha:a.length<=400000000)(hb:b.length<=400000000):d9 a b=some (gw a b):=by
 unfold d9 kQ kR
 have t1:=jP a (by omega) (fun i (out:List ag)=>(out,i)) (fun zz=>iE a a.length zz.1 zz.2) (fun i out=>out.length<=i) (fun _ x out=>(Sum.inl (EM x out):List ag⊕List ag)) (fun o=>o) (fun i hi out hI=>by
   refine⟨?_,fun s' hs'=>?_⟩
   ·simp only[iE]
    rw[vaj (by simp;omega),cd _ i hi]
    simp only[vaa]
    rw[D5 _ _ (by omega)]
    rfl
   ·cases hs'
    have:=DT a[i] out
    omega) (fun out _=>by simp only[iE];rw[van (by simp)]) 0 [] (vaJ _) (var _)
 simp only[Int.ofNat_zero,vbf]at t1
 rw[zg (fun o x=>EM x o)]at t1
 obtain⟨f1,f2,f3⟩:=yN a [] (by simp[CU])
 have t2:=jP b (by omega) (fun i (out:List ag)=>(out,i)) (fun zz=>cq b b.length zz.1 zz.2) (fun i out=>out.length<=400000000+i) (fun _ x out=>(Sum.inl (EM x out):List ag⊕List ag)) (fun o=>o) (fun i hi out hI=>by
   refine⟨?_,fun s' hs'=>?_⟩
   ·simp only[cq]
    rw[vaj (by simp;omega),cd _ i hi]
    simp only[vaa]
    rw[D5 _ _ (by omega)]
    rfl
   ·cases hs'
    have:=DT b[i] out
    omega) (fun out _=>by simp only[cq];rw[van (by simp)]) 0 (a.foldl (fun o x=>EM x o) []) (vaJ _) (by simp at f3;omega)
 simp only[Int.ofNat_zero,vbf]at t2
 rw[zg (fun o x=>EM x o)]at t2
 rw[t1]
 simp only[vaa]
 rw[t2]
 simp only[vaa,vat]
 obtain⟨g1,g2,_⟩:=yN b _ f1
 obtain⟨u1,u2⟩:=zh a b
 refine tw g1 u1 fun x=>?_
 rw[g2,f2,u2]
 simp
mutual
def nP:aa->Nat
 |⟨_,_,_,ks⟩=>nL ks+1
def nL:List aa->Nat
 |[]=>0
 |p::ps=>nP p+nL ps
end
theorem EZ(p:aa):nP p=nL p.Kids+1:=by obtain⟨o,n,k,ks⟩:=p;rw[nP];rfl
theorem QV(p:aa):1<=nP p:=by rw[EZ];omega
theorem BG:∀{l:List aa} {x:aa},x∈l->nP x<=nL l
 | y :: l,x,h => by
  rw[nL]
  rcases vaG.1 h with rfl|h
  ·omega
  ·have:=BG h;omega
theorem vq:∀(l:List aa),l.length<=nL l
 |[]=>by simp[nL]
 |p::l=>by rw[nL];have:=vq l;have:=QV p;simp only[vaS];omega
theorem qZ{p x:aa}(h:x∈p.Kids):nP x<nP p:=by rw[EZ p];have:=BG h;omega
theorem rJ(p:aa):p.Kids.length<nP p:=by rw[EZ];have:=vq p.Kids;omega
theorem rO:∀(a b:List aa),nL (a++b)=nL a+nL b
 |[],b=>by simp[nL]
 |p::a,b=>by rw[vbw,nL,rO a b,nL];omega
mutual
theorem N3:∀(p:aa),nP p<=wR (ac p)
 |⟨o,n,k,ks⟩=>by
  have:=Hf ks
  rw[nP,aE]
  simp only[wR,pm,sl]
  show nL ks+1<=1+(n.length+1+(1+(lB (ks.map ac)+1+0)))
  omega
theorem Hf:∀(l:List aa),nL l<=lB (l.map ac)
 |[]=>by simp[nL]
 |p::l=>by
  have:=N3 p
  have:=Hf l
  rw[nL]
  simp only[vaz,lB]
  omega
end
mutual
def Tk:aa->aa->Bool
 |⟨o,n,k,ks⟩,⟨o',n',k',ks'⟩=>(o==o')&&((n==n')&&((k==k')&&QN ks ks'))
def QN:List aa->List aa->Bool
 |[],[]=>true
 |x::xs,y::ys=>Tk x y&&QN xs ys
 |_,_=>false
end
mutual
theorem Ls:∀(a b:aa),Tk a b=true↔a=b
 |⟨o,n,k,ks⟩,⟨o',n',k',ks'⟩=>by
  rw[Tk]
  have:=Lr ks ks'
  simp only[vae,vaZ,this,aa.mk.injEq]
theorem Lr:∀(a b:List aa),QN a b=true↔a=b
 |[],[]=>by simp[QN]
 |x::xs,y::ys=>by
  rw[QN]
  have h1:=Ls x y
  have h2:=Lr xs ys
  simp only[vae,h1,h2,vbB]
 |[],y::ys=>by simp[QN]
 |x::xs,[]=>by simp[QN]
end
instance:DecidableEq aa:=fun a b=>decidable_of_iff _ (Ls a b)
theorem rH(p:aa):(⟨p.Op,p.Name,p.N,p.Kids⟩:aa)=p:=by cases p;rfl
theorem M1{a b:aa}:a=b↔a.Op=b.Op/\a.Name=b.Name/\a.N=b.N/\a.Kids=b.Kids:=by
 cases a;cases b
 simp only[aa.mk.injEq]
 rfl
theorem L2{α:Type}[DecidableEq α]:∀{a b:List α},a.length=b.length->(a.zip b).any (fun x=>decide (x.1≠x.2))= !decide (a=b)
 |[],[],_=>by simp
 |x::a,y::b,h=>by
  have ih:=L2 (a:=a) (b:=b) (by simpa using h)
  rw[List.zip_cons_cons,List.any_cons,ih]
  by_cases h1:x=y<;>by_cases h2:a=b<;>simp[h1,h2]
theorem NZ{α X:Type}[DecidableEq α]{a b:List α}(hl:a.length=b.length)(ha:a.length<9223372036854775808)(body:Int->Option (Int⊕X))(y e:X)
  (hin:∀(i:Nat) (h:i<a.length) (h':i<b.length),body i=some (if decide (a[i]=b[i])=true then .inl (bA ((i:Int)+1))else .inr y)) (hend:body a.length=some (.inr e)):loop body 0=some (if decide (a=b)=true then e else y):=by
 have hz:(a.zip b).length=a.length:=by simp[hl]
 have:=EW (a.zip b) (by omega) body (fun x=>decide (x.1≠x.2)) y e (fun i h=>?_) (by rw[hz];exact hend) 0 (vaJ _)
 ·rw[vbf,L2 hl]at this
  rw[show((0:Nat):Int)=0 from rfl]at this
  rw[this]
  by_cases h:a=b<;>simp[h]
 ·have h1:i<a.length:=by omega
  have h2:i<b.length:=by omega
  rw[hin i h1 h2]
  have hzi:(a.zip b)[i]=(a[i],b[i]):=by simp
  rw[hzi]
  by_cases h:a[i]=b[i]<;>simp[h]
abbrev cn:Nat:=1073741824
theorem ly{n:Nat}(h:n<=cn):n<OQ:=by have:=QJ;unfold cn at h;omega
theorem Mi(p:aa)(hp:nP p<=cn):nj p=some p:=by
 refine lw (F:=mQ) nP (fun x=>nP x<=cn) id (fun R x hx ih=>?_) p hp (ly hp)
 unfold mQ rj pr
 have hlen:=rJ x
 rw[JG x.Kids (by unfold cn at hx;omega) (fun i s=>(i,s)) _ id id (fun i hi s hs=>?_) (fun s=>?_)]
 ·simp[rH]
 ·unfold jf
  rw[vaj (by simp;omega),cd x.Kids i hi]
  simp only[vaa]
  have hm:=vaw hi
  rw[ih _ (qZ hm) (vcN (vaF (qZ hm) hx))]
  simp only[vaa]
  rw[du (by unfold cn at hx;simp;omega)]
  rfl
 ·unfold jf
  rw[van (by simp)]
  rfl
theorem FP(a b:aa)(hb:nP b<=cn):jA a b=some (decide (a=b)):=by
 refine lw (F:=yp) (fun x=>nP x.2) (fun x=>nP x.2<=cn) (fun x=>decide (x.1=x.2)) (fun R x hx ih=>?_) (a,b) hb (ly hb)
 obtain⟨u,v⟩:=x
 have hx:nP v<=cn:=hx
 show sW (fun a a2=>R (a,a2)) u v=some (decide (u=v))
 unfold sW uP
 have hk:=rJ v
 by_cases h1:u.Op=v.Op
 ·by_cases h2:u.Name=v.Name
  ·by_cases h3:u.N=v.N
   ·by_cases h4:u.Kids.length=v.Kids.length
    ·rw[van (by simpa using h1),van (by simpa using h2),van (by simpa using h3)]
     simp only[h4,bne_self_eq_false,vaa,if_false,vaP]
     unfold uQ
     rw[<-h4,NZ h4 (by unfold cn at hx;omega) _ (.inl ()) (.inr ()) (fun i g1 g2=>?_) ?_]
     ·by_cases he:u.Kids=v.Kids<;>simp[he,M1 (a:=u) (b:=v),h1,h2,h3]
     ·unfold mI
      rw[van (by simp)]
     ·unfold mI
      rw[vaj (by simp;omega),cd u.Kids i g1]
      simp only[vaa]
      rw[cd v.Kids i g2]
      simp only[vaa]
      have hm:=vaw g2
      rw[ih (u.Kids[i],v.Kids[i]) (qZ hm) (vcN (vaF (qZ hm) hx))]
      by_cases he:u.Kids[i]=v.Kids[i]<;>simp[he]
    ·have hne:u≠v:=fun e=>h4 (by rw[e])
     rw[van (by simpa using h1),van (by simpa using h2),van (by simpa using h3)]
     have hb:((u.Kids.length:Int)!=(v.Kids.length:Int))=true:=by simp;omega
     simp[hb,hne]
   ·have hne:u≠v:=fun e=>h3 (by rw[e])
    rw[van (by simpa using h1),van (by simpa using h2),vaj (by simpa using h3)]
    simp[hne]
  ·have hne:u≠v:=fun e=>h2 (by rw[e])
   rw[van (by simpa using h1),vaj (by simpa using h2)]
   simp[hne]
 ·have hne:u≠v:=fun e=>h1 (by rw[e])
  rw[vaj (by simpa using h1)]
  simp[hne]
def Kd:aa:=⟨0,[],0,[]⟩
def J7:aa:=⟨2,[],1,[]⟩
def HA(p:aa):Bool:=decide (p=Kd)||decide (p=J7)
theorem PC:nP J7<=cn:=by decide
theorem PD:nP Kd<=cn:=by decide
theorem J4(p:aa):uS p=some (HA p):=by
 have h1:jA p (⟨0,([]:ag),0,([]:List aa)⟩:aa)=some (decide (p=Kd)):=FP p Kd PD
 have h2:jA p (⟨2,([]:ag),1,([]:List aa)⟩:aa)=some (decide (p=J7)):=FP p J7 PC
 unfold uS D9 HA
 simp only[vaa,h2,h1]
 cases decide (p=J7)<;>cases decide (p=Kd)<;>rfl
theorem Ht{α σ X:Type}(g:α->σ->σ)(e:σ->X):∀(l:List α) (i:Nat) (s:σ),lN (fun _ x (s:σ)=>(Sum.inl (g x s):σ⊕X)) e l i s=e (l.foldl (fun s x=>g x s) s)
 |[],i,s=>by simp[lN]
 |x::l,i,s=>by
  unfold lN
  simp only
  rw[Ht g e l (i+1) (g x s)]
  rfl
theorem Mx{α σ τ X:Type}(l:List α)(hl:l.length<9223372036854775808)(mk:Int->σ->τ)(body:τ->Option (τ⊕X))(I:Nat->σ->Prop)(g:α->σ->σ)(e:σ->X)(s0:σ)(h0:I 0 s0)
  (hin:∀(i:Nat) (h:i<l.length) s,I i s->body (mk i s)=some (.inl (mk (bA ((i:Int)+1)) (g l[i] s)))/\I (i+1) (g l[i] s)) (hend:∀s,I l.length s->body (mk l.length s)=some (.inr (e s))):
  loop body (mk 0 s0)=some (e (l.foldl (fun s x=>g x s) s0)):=by
 have:=jP l hl mk body I (fun _ x s=>.inl (g x s)) e (fun i h s hs=>⟨(hin i h s hs).1,fun s' hs'=>by cases hs';exact(hin i h s hs).2⟩) (fun s hs=>hend s hs) 0 s0 (vaJ _) h0
 rw[Ht]at this
 exact this
theorem tB(l:List aa)(i:Nat)(h:i<l.length):nL (l.take (i+1))=nL (l.take i)+nP l[i]:=by
 rw[va9 h,rO]
 simp[nL]
theorem kg(l:List aa)(i:Nat):nL (l.take i)<=nL l:=by
 have:=rO (l.take i) (l.drop i)
 rw[vcv]at this
 omega
theorem Ly:∀(l:List aa) (a:Int),l.foldl (fun s x=>s+(nP x:Int)) a=a+(nL l:Int)
 |[],a=>by simp[nL]
 |x::l,a=>by rw[List.foldl_cons,Ly l,nL];omega
theorem E6(p:aa)(hp:nP p<=cn):rr p=some (nP p:Int):=by
 refine lw (F:=uO) nP (fun x=>nP x<=cn) (fun x=>(nP x:Int)) (fun R x hx ih=>?_) p hp (ly hp)
 show pW (fun p=>R p) x=_
 unfold pW sU
 have hlen:=rJ x
 have hn:=EZ x
 rw[Mx x.Kids (by unfold cn at hx;omega) (fun i s=>(s,i)) _ (fun i s=>s=1+(nL (x.Kids.take i):Int)) (fun x s=>s+(nP x:Int)) id 1 (by simp[nL]) (fun i hi s hs=>?_) (fun s _=>?_)]
 ·rw[Ly]
  simp only[id,vaa]
  rw[hn];congr 1;omega
 ·have hm:=vaw hi
  have hk:=qZ hm
  refine⟨?_,by rw[tB _ _ hi,hs];omega⟩
  unfold kU
  rw[vaj (by simp;omega),cd x.Kids i hi]
  simp only[vaa]
  rw[ih _ hk (by omega)]
  simp only[vaa]
  have h1:=kg x.Kids i
  have h2:=kg x.Kids (i+1)
  have h3:=tB x.Kids i hi
  unfold cn at hx
  rw[nK (n:=s+_) (by omega) (by omega)]
 ·unfold kU
  rw[van (by simp)]
  rfl
theorem Ju{l:List ag}{v:ag}:(match l.findIdx? (fun x=>x==v)with|some j=>(j:Int)|none=>-1)>=0↔v∈l:=by
 cases h:l.findIdx? (fun x=>x==v)with
 | none =>
  rw[vcg]at h
  simp only
  constructor
  ·intro h';omega
  ·intro hm;have:=h v hm;simp at this
 | some j =>
  obtain⟨hj,h1,_⟩:=List.findIdx?_eq_some_iff_getElem.1 h
  simp only
  constructor
  ·intro _
   have:l[j]=v:=by simpa using h1
   exact this▸vaw hj
  ·intro _;omega
theorem FM(l:List ag)(v:ag)(hl:l.length<9223372036854775808):fp l v=some (match l.findIdx? (fun x=>x==v)with|some j=>(j:Int)|none=>-1):=by
 unfold fp pT
 have h:=BD l hl (fun zz=>dz l v (l.length:Int) zz) (fun x=>x==v) (fun j=>Sum.inl (j:Int)) (.inr ()) (fun i hi=>?_) ?_
 ·rw[h]
  simp only[vaa]
  cases l.findIdx? (fun x=>x==v)<;>rfl
 ·show dz l v (l.length:Int) (i:Int)=_
  unfold dz
  rw[vaj (by simp;omega),cd l i hi]
  simp only[vaa]
  by_cases he:(l[i]==v)=true<;>simp[he]
 ·show dz l v (l.length:Int) (l.length:Int)=_
  unfold dz
  rw[van (by simp)]
theorem Jy(l:List ag)(v:ag)(hl:l.length<9223372036854775808):lQ l v=some (match l.findIdx? (fun x=>x==v)with|some j=>(j:Int)|none=>-1):=by
 unfold lQ nF
 have h:=BD l hl (fun zz=>dH l v (l.length:Int) zz) (fun x=>x==v) (fun j=>Sum.inl (j:Int)) (.inr ()) (fun i hi=>?_) ?_
 ·rw[h]
  simp only[vaa]
  cases l.findIdx? (fun x=>x==v)<;>rfl
 ·show dH l v (l.length:Int) (i:Int)=_
  unfold dH
  rw[vaj (by simp;omega),cd l i hi]
  simp only[vaa]
  by_cases he:v=l[i]
  ·subst he;simp
  ·have he':¬l[i]=v:=fun h=>he h.symm
   simp[he,he']
 ·show dH l v (l.length:Int) (l.length:Int)=_
  unfold dH
  rw[van (by simp)]
theorem qc(l:List ag)(v:ag)(hl:l.length<9223372036854775808):dL l v=some (decide (v∈l)):=by
 unfold dL
 rw[Jy l v hl]
 simp only[vaa]
 congr 1
 exact decide_eq_decide.2 Ju
def uq{α:Type}(o:Option α)(Q:α->Prop):Prop:=∃a,o=some a/\Q a
section
variable{α β σ τ X Y:Type}
theorem bH{a:α}{Q:α->Prop}(h:Q a):uq (some a) Q:=⟨a,rfl,h⟩
theorem eG{o:Option α}{f:α->Option β}{R:α->Prop}{Q:β->Prop}(h:uq o R)(h':∀a,R a->uq (f a) Q):uq (o.bind f) Q:=by
 obtain⟨a,rfl,h⟩:=h
 exact h' a h
theorem v6{o:Option α}{a:α}{f:α->Option β}{Q:β->Prop}(e:o=some a)(h:uq (f a) Q):uq (o.bind f) Q:=by
 rw[e];exact h
theorem uq.mono{o:Option α}{Q R:α->Prop}(h:uq o Q)(h':∀a,Q a->R a):uq o R:=by
 obtain⟨a,e,h⟩:=h
 exact⟨a,e,h' a h⟩
theorem iA{c:Prop}[Decidable c]{a b:Option α}{Q:α->Prop}(h1:c->uq a Q)(h2:¬c->uq b Q):uq (if c then a else b) Q:=by
 by_cases h:c
 ·rw[vaj h];exact h1 h
 ·rw[van h];exact h2 h
theorem FY{F:(X->Option Y)->X->Option Y}(μ:X->Nat)(P:X->Prop)(Q:X->Y->Prop)(h:∀(R:X->Option Y) x,P x->(∀y,μ y<μ x->P y->uq (R y) (Q y))->uq (F R x) (Q x))(x:X)(hx:P x)(hm:μ x<OQ):uq (nw F x) (Q x):=by
 have key:∀n x,μ x<n->P x->uq (Sf F n x) (Q x):=by
  intro n
  induction n with
  |zero=>intro x hx;omega
  |succ n ih=>intro x hx hq;exact h _ x hq fun y hy hqy=>ih y (by omega) hqy
 exact key _ x hm hx
theorem M3(l:List α)(hl:l.length<9223372036854775808)(mk:Int->σ->τ){body:τ->Option (τ⊕X)}(I:Nat->σ->Prop){Q:X->Prop}
  (hin:∀(i:Nat) (h:i<l.length) s,I i s->uq (body (mk i s)) (fun r=>match r with|.inl t=>∃s',t=mk (bA ((i:Int)+1)) s'/\I (i+1) s'|.inr y=>Q y))
  (hend:∀s,I l.length s->uq (body (mk l.length s)) (fun r=>match r with|.inl _=>False|.inr y=>Q y)):∀s,I 0 s->uq (loop body (mk 0 s)) Q:=by
 have key:∀k i s,k+i=l.length->I i s->uq (loop body (mk (i:Int) s)) Q:=by
  intro k
  induction k with
  |zero=>
   intro i s hi hI
   have:i=l.length:=by omega
   subst this
   obtain⟨r,e,hr⟩:=hend s hI
   rw[j7,e]
   cases r with
   |inl _=>exact hr.elim
   |inr y=>exact⟨y,rfl,hr⟩
  | succ k ih =>
   intro i s hi hI
   obtain⟨r,e,hr⟩:=hin i (by omega) s hI
   rw[j7,e]
   cases r with
   |inl t=>
    obtain⟨s',rfl,hI'⟩:=hr
    simp only
    rw[nK (by omega) (by omega),show((i:Int)+1)=((i+1:Nat):Int) by omega]
    exact ih (i+1) s' (by omega) hI'
   |inr y=>exact⟨y,rfl,hr⟩
 exact fun s hs=>key l.length 0 s (by omega) hs
end
section
variable{α β σ τ X Y:Type}
theorem rK(l:List α)(hl:l.length<=1073741824)(mk:Int->List β->τ)(body:τ->Option (τ⊕X))(h:α->Option β)(g:α->β)(e:List β->X)
  (hb:∀(i:Int) (s:List β),body (mk i s)=if decide (i<(l.length:Int))=true then(dv l i).bind (fun x=>(h x).bind fun r=>(app s ([r]:List β)).bind fun q=>some (.inl (mk (bA (i+1)) q)))else some (.inr (e s)))
  (hg:∀x∈l,h x=some (g x)):loop body (mk 0 [])=some (e (l.map g)):=by
 refine JG l (by omega) mk body g e (fun i hi s hs=>?_) (fun s=>?_)
 ·rw[hb,vaj (by simp;omega),cd l i hi]
  simp only[vaa]
  rw[hg _ (vaw hi)]
  simp only[vaa]
  rw[du (by simp;omega)]
  rfl
 ·rw[hb,van (by simp)]
theorem Mw(l:List α)(hl:l.length<9223372036854775808)(body:Int->Option (Int⊕X))(k:Int->α->Option (Int⊕X))(p:α->Bool)(y e:X)
  (hb:∀(i:Int),body i=if decide (i<(l.length:Int))=true then(dv l i).bind (k i)else some (.inr e))
  (hk:∀x∈l,∀i,k i x=some (if p x=true then .inr y else .inl (bA (i+1)))):loop body 0=some (if l.any p=true then y else e):=by
 have:=EW l hl body p y e (fun i hi=>?_) (by rw[hb,van (by simp)]) 0 (vaJ _)
 ·rw[vbf]at this
  exact this
 ·rw[hb,vaj (by simp;omega),cd l i hi]
  simp only[vaa]
  exact hk _ (vaw hi) i
theorem iR(l:List α)(hl:l.length<9223372036854775808)(mk:Int->σ->τ)(body:τ->Option (τ⊕X))(k:Int->σ->α->Option (τ⊕X))(I:Nat->σ->Prop)(g:α->σ->σ)(e:σ->X)(s0:σ)(h0:I 0 s0)
  (hb:∀(i:Int) (s:σ),body (mk i s)=if decide (i<(l.length:Int))=true then(dv l i).bind (k i s)else some (.inr (e s)))
  (hin:∀(i:Nat) (h:i<l.length) s,I i s->k i s l[i]=some (.inl (mk (bA ((i:Int)+1)) (g l[i] s)))/\I (i+1) (g l[i] s)):loop body (mk 0 s0)=some (e (l.foldl (fun s x=>g x s) s0)):=by
 have:=jP l hl mk body I (fun _ x s=>.inl (g x s)) e (fun i h s hs=>⟨?_,fun s' hs'=>by cases hs';exact(hin i h s hs).2⟩) (fun s hs=>by rw[hb,van (by simp)]) 0 s0 (vaJ _) h0
 ·rw[vbf,show((0:Nat):Int)=0 from rfl]at this
  rw[this]
  have key:∀(l:List α) (i:Nat) (s:σ),lN (fun _ x (s:σ)=>(Sum.inl (g x s):σ⊕X)) e l i s=e (l.foldl (fun s x=>g x s) s):=by
   intro l
   induction l with
   |nil=>intro i s;rfl
   |cons x l ih=>intro i s;unfold lN;simp only;rw[ih];rfl
  rw[key]
 ·rw[hb,vaj (by simp;omega),cd l i h]
  simp only[vaa]
  exact(hin i h s hs).1
theorem Hx(l:List α)(hl:l.length<9223372036854775808)(mk:Int->σ->τ){body:τ->Option (τ⊕X)}(k:Int->σ->α->Option (τ⊕X))(e:σ->X)(I:Nat->σ->Prop){Q:X->Prop}
  (hb:∀(i:Int) (s:σ),body (mk i s)=if decide (i<(l.length:Int))=true then(dv l i).bind (k i s)else some (.inr (e s)))
  (hin:∀(i:Nat) (h:i<l.length) s,I i s->uq (k i s l[i]) (fun r=>match r with|.inl t=>∃s',t=mk (bA ((i:Int)+1)) s'/\I (i+1) s'|.inr y=>Q y))
  (hend:∀s,I l.length s->Q (e s)):∀s,I 0 s->uq (loop body (mk 0 s)) Q:=
 M3 l hl mk I (fun i h s hs=>by
  rw[hb,vaj (by simp;omega),cd l i h]
  exact hin i h s hs) (fun s hs=>by
  rw[hb,van (by simp)]
  exact⟨_,rfl,hend s hs⟩)
theorem M2(l:List α)(hl:l.length<9223372036854775808){body:Int->Option (Int⊕X)}(k:Int->α->Option (Int⊕X))(e:X)(I:Nat->Prop){Q:X->Prop}
  (hb:∀(i:Int),body i=if decide (i<(l.length:Int))=true then(dv l i).bind (k i)else some (.inr e))
  (hin:∀(i:Nat) (h:i<l.length),I i->uq (k i l[i]) (fun r=>match r with|.inl t=>t=bA ((i:Int)+1)/\I (i+1)|.inr y=>Q y))
  (hend:I l.length->Q e) (h0:I 0):uq (loop body 0) Q:=
 Hx l hl (fun i (_:Unit)=>i) (fun i _=>k i) (fun _=>e) (fun i _=>I i) (fun i _=>hb i) (fun i h s hs=>(hin i h hs).mono fun r hr=>by
  cases r with
  |inl t=>exact⟨(),hr.1,hr.2⟩
  |inr y=>exact hr) (fun _ h=>hend h) () h0
end
def mm{α:Type}(p:α->α->Bool):List α->List α->Bool
 |[],[]=>true
 |x::a,y::b=>p x y&&mm p a b
 |_,_=>false
theorem Ja{α:Type}{p:α->α->Bool}:∀{a b:List α},mm p a b=true->a.length=b.length
 |[],[],_=>rfl
 |x::a,y::b,h=>by
  rw[mm,vae]at h
  simp[Ja h.2]
 |[],y::b,h=>by simp[mm]at h
 |x::a,[],h=>by simp[mm]at h
theorem Ld{α:Type}{p:α->α->Bool}:∀{a b:List α},a.length≠b.length->mm p a b=false:=fun{a b} h=>by
 rw[vcm]
 exact fun he=>h (Ja he)
theorem GR{α:Type}{p:α->α->Bool}:∀{a:List α},(∀x∈a,p x x=true)->mm p a a=true
 |[],_=>rfl
 |x::a,h=>by
  rw[mm,h x (by simp),vb4]
  exact GR fun y hy=>h y (vaN _ hy)
theorem Lc{α:Type}[DecidableEq α]:∀{a b:List α},mm (fun x y=>decide (x=y)) a b=decide (a=b)
 |[],[]=>by simp[mm]
 |x::a,y::b=>by
  rw[mm,Lc]
  by_cases h1:x=y<;>by_cases h2:a=b<;>simp[h1,h2]
 |[],y::b=>by simp[mm]
 |x::a,[]=>by simp[mm]
theorem Jb{α:Type}{p:α->α->Bool}:∀{a b:List α},a.length=b.length->(a.zip b).any (fun x=>!p x.1 x.2)= !mm p a b
 |[],[],_=>rfl
 |x::a,y::b,h=>by
  rw[List.zip_cons_cons,List.any_cons,Jb (by simpa using h),mm]
  cases p x y<;>rfl
theorem BE{α X:Type}{a b:List α}(hl:a.length=b.length)(ha:a.length<9223372036854775808)(body:Int->Option (Int⊕X))(k:Int->α->α->Option (Int⊕X))(p:α->α->Bool)(y e:X)
  (hb:∀(i:Int),body i=if decide (i<(a.length:Int))=true then(dv a i).bind (fun x=>(dv b i).bind (k i x))else some (.inr e))
  (hk:∀x∈a,∀z∈b,∀i,k i x z=some (if p x z=true then .inl (bA (i+1))else .inr y)):loop body 0=some (if mm p a b=true then e else y):=by
 have hz:(a.zip b).length=a.length:=by simp[hl]
 have:=EW (a.zip b) (by omega) body (fun x=>!p x.1 x.2) y e (fun i h=>?_) (by rw[hb,van (by simp[hz])]) 0 (vaJ _)
 ·rw[vbf,Jb hl]at this
  rw[show((0:Nat):Int)=0 from rfl]at this
  rw[this]
  by_cases h:mm p a b=true<;>simp[h]
 ·have h1:i<a.length:=by omega
  have h2:i<b.length:=by omega
  rw[hb,vaj (by simp;omega),cd a i h1]
  simp only[vaa]
  rw[cd b i h2]
  simp only[vaa]
  rw[hk _ (vaw h1) _ (vaw h2)]
  have hzi:(a.zip b)[i]=(a[i],b[i]):=by simp
  rw[hzi]
  by_cases h:p a[i] b[i]=true<;>simp[h]
theorem G5{α:Type}(l:List α)(h:l.length<=1073741824):vj l=some l:=vaj h
def mn(ns:List ag)(bs:List aa)(n:ag):Option aa:=(ns.findIdx? (fun x=>x==n)).bind fun j=>bs[j]?
mutual
def DE(f:ag->Option aa):aa->aa
 |⟨o,n,k,ks⟩=>(if o=3 then f n else none).getD ⟨o,n,k,Qe f ks⟩
def Qe(f:ag->Option aa):List aa->List aa
 |[]=>[]
 |p::ps=>DE f p::Qe f ps
end
theorem LV(f:ag->Option aa):∀(l:List aa),Qe f l=l.map (DE f)
 |[]=>by rw[Qe];rfl
 |p::l=>by rw[Qe,LV f l];rfl
theorem Ox(f:ag->Option aa)(p:aa):DE f p=(if p.Op=3 then f p.Name else none).getD ⟨p.Op,p.Name,p.N,p.Kids.map (DE f)⟩:=by
 obtain⟨o,n,k,ks⟩:=p
 rw[DE,LV];rfl
mutual
theorem Qg(f:ag->Option aa)(M:Nat)(hM:1<=M)(hf:∀n q,f n=some q->nP q<=M):∀(p:aa),nP (DE f p)<=nP p * M
 | ⟨o,n,k,ks⟩ => by
  have:=Qf f M hM hf ks
  rw[DE]
  cases h:(if o=3 then f n else none)with
  |none=>
   simp only[Option.getD_none]
   rw[nP,nP,va0];omega
  | some q =>
   simp only[Option.getD_some]
   have:f n=some q:=by
    split at h
    ·exact h
    ·cases h
   have:=hf n q this
   rw[nP,va0]
   have:0<=nL ks * M:=vaJ _
   omega
theorem Qf(f:ag->Option aa)(M:Nat)(hM:1<=M)(hf:∀n q,f n=some q->nP q<=M):∀(l:List aa),nL (Qe f l)<=nL l * M
 |[]=>by simp[Qe,nL]
 |p::l=>by
  have:=Qg f M hM hf p
  have:=Qf f M hM hf l
  rw[Qe,nL,nL,va0];omega
end
theorem NX{ns:List ag}{bs:List aa}{n:ag}{q:aa}(h:mn ns bs n=some q):q∈bs:=by
 unfold mn at h
 cases hf:ns.findIdx? (fun x=>x==n)with
 |none=>rw[hf]at h;cases h
 |some j=>
  rw[hf]at h
  exact vay h
theorem Q1(ns:List ag)(bs:List aa)(p:aa)(hn:ns.length<9223372036854775808):jZ ns bs p=some ((if p.Op=3 then mn ns bs p.Name else none).elim (.inr ()) (fun q=>.inl (q.Op,q.Name,q.N,q.Kids))):=by
 unfold jZ nq mn
 by_cases h1:p.Op=3
 ·rw[vaj (by simpa using h1),FM ns p.Name hn,vaj h1]
  simp only[vaa]
  cases hf:ns.findIdx? (fun x=>x==p.Name)with
  |none=>rfl
  | some j =>
   simp only[vaa]
   rw[vaj (vbd (show(j:Int)>=0 by omega))]
   simp only[vaa]
   by_cases h2:j<bs.length
   ·rw[vaj (vbd (by omega)),cd bs j h2,vab h2]
    rfl
   ·rw[van (by simp;omega),vaA (by omega)]
    rfl
 ·rw[van (by simpa using h1),van h1]
  rfl
theorem LT(p:aa)(ns:List ag)(bs:List aa)(hp:nP p<=cn)(hn:ns.length<9223372036854775808):kV p ns bs=some (DE (mn ns bs) p):=by
 refine lw (F:=oQ) (fun x=>nP x.1) (fun x=>nP x.1<=cn/\x.2=(ns,bs)) (fun x=>DE (mn x.2.1 x.2.2) x.1) (fun R x hx ih=>?_) (p,ns,bs) ⟨hp,rfl⟩ (ly hp)
 obtain⟨p,ns',bs'⟩:=x
 obtain⟨hx,he⟩:=hx
 cases he
 have hx:nP p<=cn:=hx
 show kW (fun p names a=>R (p,names,a)) p ns bs=some (DE (mn ns bs) p)
 unfold kW
 rw[Q1 ns bs p hn,Ox]
 cases h:(if p.Op=3 then mn ns bs p.Name else none)with
 |some q=>
  simp only[Option.elim,vaa,rH,Option.getD_some]
 |none=>
  simp only[Option.elim,vaa,Option.getD_none]
  unfold nr
  have hlen:=rJ p
  rw[rK p.Kids (by unfold cn at hx;omega) (fun i s=>(s,i)) _ (fun y=>R (y,ns,bs)) (DE (mn ns bs)) id (fun i s=>rfl) (fun y hy=>ih (y,ns,bs) (qZ hy) ⟨by have:=qZ hy;show nP y<=cn;omega,rfl⟩)]
  rfl
theorem PK(ns:List ag)(bs:List aa)(p:aa)(hn:ns.length<9223372036854775808)(hb:∀q∈bs,nP q<=cn):je ns bs p=some ((if p.Op=3 then mn ns bs p.Name else none).elim (.inr ()) (fun q=>.inl (q.Op,q.Name,q.N,q.Kids))):=by
 unfold je mw mn tC
 by_cases h1:p.Op=3
 ·rw[vaj (by simpa using h1),Jy ns p.Name hn,vaj h1]
  simp only[vaa]
  cases hf:ns.findIdx? (fun x=>x==p.Name)with
  |none=>rfl
  | some j =>
   simp only[vaa]
   rw[vaj (vbd (show(j:Int)>=0 by omega))]
   simp only[vaa]
   by_cases h2:j<bs.length
   ·rw[vaj (vbd (by omega)),cd bs j h2,vab h2]
    simp only[vaa]
    rw[Mi _ (hb _ (vaw h2))]
    rfl
   ·rw[van (by simp;omega),vaA (by omega)]
    rfl
 ·rw[van (by simpa using h1),van h1]
  rfl
theorem PL(p:aa)(ns:List ag)(bs:List aa)(hp:nP p<=cn)(hn:ns.length<9223372036854775808)(hb:∀q∈bs,nP q<=cn):mP p ns bs=some (DE (mn ns bs) p):=by
 refine lw (F:=nz) (fun x=>nP x.1) (fun x=>nP x.1<=cn/\x.2=(ns,bs)) (fun x=>DE (mn x.2.1 x.2.2) x.1) (fun R x hx ih=>?_) (p,ns,bs) ⟨hp,rfl⟩ (ly hp)
 obtain⟨p,ns',bs'⟩:=x
 obtain⟨hx,he⟩:=hx
 cases he
 have hx:nP p<=cn:=hx
 show kb (fun p names a=>R (p,names,a)) p ns bs=some (DE (mn ns bs) p)
 unfold kb
 rw[PK ns bs p hn hb,Ox]
 cases h:(if p.Op=3 then mn ns bs p.Name else none)with
 |some q=>
  simp only[Option.elim,vaa,rH,Option.getD_some]
 |none=>
  simp only[Option.elim,vaa,Option.getD_none]
  unfold my
  have hlen:=rJ p
  rw[rK p.Kids (by unfold cn at hx;omega) (fun i s=>(i,s)) _ (fun y=>R (y,ns,bs)) (DE (mn ns bs)) id (fun i s=>rfl) (fun y hy=>ih (y,ns,bs) (qZ hy) ⟨by have:=qZ hy;show nP y<=cn;omega,rfl⟩)]
  rfl
theorem Mo(t:ae):(⟨t.Op,t.Name,t.Args,t.Names,t.Pred,t.Preds⟩:ae)=t:=by cases t;rfl
theorem KJ(t:ae):(⟨t.Op,t.Name,t.Args,t.Names,⟨t.Pred.Op,t.Pred.Name,t.Pred.N,t.Pred.Kids⟩,t.Preds⟩:ae)=t:=by rw[rH,Mo]
mutual
def fK:ae->Nat
 |⟨_,_,xs,ns,_,ps⟩=>kE xs+ns.length+ps.length+1
def kE:List ae->Nat
 |[]=>0
 |a::xs=>fK a+kE xs
end
theorem tx(t:ae):fK t=kE t.Args+t.Names.length+t.Preds.length+1:=by obtain⟨o,n,xs,ns,p,ps⟩:=t;rw[fK];rfl
theorem NW(t:ae):1<=fK t:=by rw[tx];omega
theorem wB:∀{l:List ae} {x:ae},x∈l->fK x<=kE l
 | y :: l,x,h => by
  rw[kE]
  rcases vaG.1 h with rfl|h
  ·omega
  ·have:=wB h;omega
theorem BA:∀(l:List ae),l.length<=kE l
 |[]=>by simp[kE]
 |p::l=>by rw[kE];have:=BA l;have:=NW p;simp only[vaS];omega
theorem qX{t a:ae}(h:a∈t.Args):fK a<fK t:=by rw[tx t];have:=wB h;omega
theorem oZ(t:ae):t.Args.length<fK t:=by rw[tx];have:=BA t.Args;omega
theorem mr(t:ae):t.Names.length<fK t:=by rw[tx];omega
theorem oI(t:ae):t.Preds.length<fK t:=by rw[tx];omega
mutual
def tj(Q:aa->Prop):ae->Prop
 |⟨_,_,xs,_,p,ps⟩=>Q p/\(∀q∈ps,Q q)/\jl Q xs
def jl(Q:aa->Prop):List ae->Prop
 |[]=>True
 |a::xs=>tj Q a/\jl Q xs
end
theorem Jf(Q:aa->Prop)(t:ae):tj Q t↔Q t.Pred/\(∀q∈t.Preds,Q q)/\jl Q t.Args:=by obtain⟨o,n,xs,ns,p,ps⟩:=t;rw[tj];rfl
theorem Bt(Q:aa->Prop):∀(l:List ae),jl Q l↔∀t∈l,tj Q t
 |[]=>by simp[jl]
 |a::l=>by rw[jl,Bt Q l];simp
mutual
theorem GV{Q R:aa->Prop}(h:∀p,Q p->R p):∀(t:ae),tj Q t->tj R t
 |⟨_,_,xs,_,p,ps⟩,ht=>by
  rw[tj]at ht ⊢
  exact⟨h _ ht.1,fun q hq=>h _ (ht.2.1 q hq),Ep h xs ht.2.2⟩
theorem Ep{Q R:aa->Prop}(h:∀p,Q p->R p):∀(l:List ae),jl Q l->jl R l
 |[],_=>trivial
 |a::xs,hl=>by
  rw[jl]at hl ⊢
  exact⟨GV h a hl.1,Ep h xs hl.2⟩
end
theorem Qa(l:List aa):l.length<=lB (l.map ac):=by
 have:=vq l
 have:=Hf l
 omega
theorem Qb(l:List ag):l.length<=lB (l.map cS):=by
 have h:=JO (l.map cS) (fun x hx=>by
  obtain⟨s,_,rfl⟩:=vaq.1 hx
  simp only[cS,wR,pm];omega)
 rwa[vaC]at h
theorem vJ(t:ae):wR (af t)=1+(pm (.str t.Name)+(pm (sl af t.Args)+(pm (sl cS t.Names)+(1+(pm (.str t.Pred.Name)+(1+(pm (sl ac t.Pred.Kids)+(pm (sl ac t.Preds)+0)))))))):=by
 rw[aS];rfl
mutual
theorem DU:∀(t:ae),fK t<=wR (af t)
 |⟨o,n,xs,ns,p,ps⟩=>by
  have h1:=JD xs
  have h2:=Qa ps
  have h3:=Qb ns
  rw[fK,vJ]
  show _<=1+(pm (.str n)+(pm (sl af xs)+(pm (sl cS ns)+(1+(pm (.str p.Name)+(1+(pm (sl ac p.Kids)+(pm (sl ac ps)+0))))))))
  simp only[pm,sl]
  omega
theorem JD:∀(l:List ae),kE l<=lB (l.map af)
 |[]=>by simp[kE]
 |a::l=>by
  have:=DU a
  have:=JD l
  rw[kE]
  simp only[vaz,lB]
  omega
end
theorem PI(t:ae):nP t.Pred<=wR (af t):=by
 have h:=Hf t.Pred.Kids
 rw[EZ,vJ]
 simp only[pm,sl]
 omega
mutual
theorem Li(B:Nat):∀(t:ae),wR (af t)<=B->tj (fun p=>nP p<=B) t
 |⟨o,n,xs,ns,p,ps⟩,h=>by
  have h0:=PI ⟨o,n,xs,ns,p,ps⟩
  rw[vJ]at h h0
  have h:1+(pm (.str n)+(pm (sl af xs)+(pm (sl cS ns)+(1+(pm (.str p.Name)+(1+(pm (sl ac p.Kids)+(pm (sl ac ps)+0))))))))<=B:=h
  have h0:nP p<=1+(pm (.str n)+(pm (sl af xs)+(pm (sl cS ns)+(1+(pm (.str p.Name)+(1+(pm (sl ac p.Kids)+(pm (sl ac ps)+0)))))))):=h0
  simp only[pm,sl]at h h0
  rw[tj]
  refine⟨by omega,fun q hq=>?_,Je B xs (by omega)⟩
  have h1:=N3 q
  have h2:=Ak (vaq.2 ⟨q,hq,rfl⟩:ac q∈ps.map ac)
  omega
theorem Je(B:Nat):∀(l:List ae),lB (l.map af)<=B->jl (fun p=>nP p<=B) l
 |[],_=>trivial
 |a::xs,h=>by
  simp only[vaz,lB]at h
  rw[jl]
  exact⟨Li B a (by omega),Je B xs (by omega)⟩
end
def M9(a b:aa):Bool:=(HA a&&HA b)||decide (a=b)
mutual
def su:ae->ae->Bool
 |⟨o,n,xs,ns,p,ps⟩,⟨o',n',xs',ns',p',ps'⟩=>decide (o=o')&&(decide (n=n')&&(decide (ns=ns')&&(M9 p p'&&(mm M9 ps ps'&&rn xs xs'))))
def rn:List ae->List ae->Bool
 |[],[]=>true
 |a::xs,b::bs=>su a b&&rn xs bs
 |_,_=>false
end
theorem FU:∀(a b:List ae),rn a b=mm su a b
 |[],[]=>by rw[rn,mm]
 |a::xs,b::bs=>by rw[rn,mm,FU xs bs]
 |[],b::bs=>by simp[rn,mm]
 |a::xs,[]=>by simp[rn,mm]
theorem Ow(a b:ae):su a b=(decide (a.Op=b.Op)&&(decide (a.Name=b.Name)&&(decide (a.Names=b.Names)&&(M9 a.Pred b.Pred&&(mm M9 a.Preds b.Preds&&mm su a.Args b.Args))))):=by
 obtain⟨o,n,xs,ns,p,ps⟩:=a
 obtain⟨o',n',xs',ns',p',ps'⟩:=b
 rw[su,FU];rfl
theorem Jo(p:aa):M9 p p=true:=by simp[M9]
mutual
theorem FV:∀(t:ae),su t t=true
 |⟨o,n,xs,ns,p,ps⟩=>by
  rw[su,CO xs,Jo,GR (fun x _=>Jo x)]
  simp
theorem CO:∀(l:List ae),rn l l=true
 |[]=>by rw[rn]
 |a::xs=>by rw[rn,FV a,CO xs];rfl
end
theorem Hr(a b:aa)(hb:nP b<=cn):ru a b=some (M9 a b):=by
 unfold ru M9
 rw[J4 a]
 simp only[vaa]
 rw[J4 b,FP a b hb]
 cases HA a<;>cases HA b<;>simp
theorem MW(a b:List ag)(ha:a.length<9223372036854775808):uI a b=some (decide (a=b)):=by
 unfold uI
 by_cases hl:a.length=b.length
 ·rw[van (by simp[hl])]
  unfold uJ
  rw[BE hl ha (fun zz=>qI a b (a.length:Int) zz) (fun i x z=>if(!(x==z))=true then some (.inr (.inl ()))else some (.inl (bA (i+1)))) (fun x y=>decide (x=y)) (.inl ()) (.inr ()) (fun i=>rfl) (fun x _ z _ i=>by by_cases h:x=z<;>simp[h]),Lc]
  by_cases h:a=b<;>simp[h]
 ·rw[vaj (by simp;omega),decide_eq_false (fun he=>hl (by rw[he]))]
theorem MV(a b:ae)(ha:fK a<=cn)(hb:tj (fun p=>nP p<=cn) b):jG a b=some (su a b):=by
 refine lw (F:=yu) (fun x=>fK x.1) (fun x=>fK x.1<=cn/\tj (fun p=>nP p<=cn) x.2) (fun x=>su x.1 x.2) (fun R x hx ih=>?_) (a,b) ⟨ha,hb⟩ (ly ha)
 obtain⟨u,v⟩:=x
 obtain⟨hu,hv⟩:=hx
 have hu:fK u<=cn:=hu
 have hv:tj (fun p=>nP p<=cn) v:=hv
 show sY (fun a a2=>R (a,a2)) u v=some (su u v)
 obtain⟨v1,v2,v3⟩:=(Jf _ v).1 hv
 have l1:=oZ u
 have l2:=mr u
 have l3:=oI u
 unfold cn at hu
 unfold sY uV
 rw[Ow]
 by_cases h1:u.Op=v.Op
 ·by_cases h2:u.Name=v.Name
  ·by_cases h3:u.Args.length=v.Args.length
   ·by_cases h4:u.Preds.length=v.Preds.length
    ·rw [van (by simpa using h1),van (by simpa using h2),van (by simp [h3]),van (by simp [h4]),MW _ _ (by omega),Hr _ _ v1]
     simp only[vaa]
     by_cases h5:u.Names=v.Names
     ·by_cases h6:M9 u.Pred v.Pred=true
      ·simp only[h1,h2,h5,h6,decide_true,vbK,vaP,if_false,vaa,vb4]
       unfold uW
       rw[BE h4 (by omega) (fun zz=>qO u v (u.Preds.length:Int) zz) (fun i x z=>(ru x z).bind fun r=>if(!r)=true then some (.inr (.inl ()))else some (.inl (bA (i+1)))) M9 (.inl ()) (.inr ()) (fun i=>rfl) (fun x _ z hz i=>by
        rw[Hr _ _ (v2 z hz)]
        cases h:M9 x z<;>simp)]
       by_cases h7:mm M9 u.Preds v.Preds=true
       ·simp only[h7,if_true,vaa,vb4]
        unfold uX
        rw[BE h3 (by omega) (fun zz=>qP (fun a a2=>R (a,a2)) u v (u.Args.length:Int) zz) (fun i x z=>(R (x,z)).bind fun r=>if(!r)=true then some (.inr (.inl ()))else some (.inl (bA (i+1)))) su (.inl ()) (.inr ()) (fun i=>rfl) (fun x hx z hz i=>by
         rw[ih (x,z) (qX hx) ⟨by have:=qX hx;show fK x<=cn;unfold cn;omega,(Bt _ _).1 v3 z hz⟩]
         cases h:su x z<;>simp)]
        cases h:mm su u.Args v.Args<;>simp
       ·simp only[h7,if_false,vaa,vcD,vaP]
      ·simp only[h1,h2,h5,h6,decide_true,vbK,vaP,if_false,vaa,vbz,if_true,vcD,vb4]
     ·simp only[h1,h2,h5,decide_true,decide_false,vbz,if_true,vaa,vcD,vb4]
    ·rw[van (by simpa using h1),van (by simpa using h2),van (by simp[h3]),vaj (by simp;omega),Ld h4]
     simp
   ·rw[van (by simpa using h1),van (by simpa using h2),vaj (by simp;omega),Ld h3]
    simp
  ·rw[van (by simpa using h1),vaj (by simpa using h2)]
   simp[h2]
 ·rw[vaj (by simpa using h1)]
  simp[h1]
theorem J1(t:ae)(ht:fK t<=cn)(hb:tj (fun p=>nP p<=cn) t):jG t t=some true:=by rw[MV t t ht hb,FV]
section
variable{α β σ τ X Y:Type}
theorem Cc{A:Type}(l:List α)(hl:l.length<9223372036854775808){body:Int->Option (Int⊕(A⊕Unit))}(k:Int->α->Option (Int⊕(A⊕Unit)))(P:α->Prop)(B:A->Prop)
  (hb:∀(i:Int),body i=if decide (i<(l.length:Int))=true then(dv l i).bind (k i)else some (.inr (.inr ())))
  (hk:∀x∈l,∀i,uq (k i x) (fun r=>r.elim (fun t=>t=bA (i+1)/\P x) (fun y=>y.elim B (fun _=>False)))):uq (loop body 0) (fun r=>r.elim B (fun _=>∀x∈l,P x)):=by
 refine M2 l hl k (.inr ()) (fun i=>∀j (h:j<l.length),j<i->P l[j]) hb (fun i hi hI=>(hk _ (vaw hi) i).mono fun r hr=>?_) (fun hI x hx=>?_) (fun j _ h=>absurd h (vaO _))
 ·cases r with
  | inl t =>
   refine⟨hr.1,fun j hj h=>?_⟩
   by_cases he:j=i
   ·subst he;exact hr.2
   ·exact hI j hj (by omega)
  |inr y=>cases y with
   |inl a=>exact hr
   |inr u=>exact hr.elim
 ·obtain⟨j,hj,rfl⟩:=vcH hx
  exact hI j hj hj
end
end Go.Proofs.YtggeppllafbidaaGreatDoor
