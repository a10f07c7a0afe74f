/- PROVED: parts of the proof (G12). Conditions: none. -/
import Derived.Test.YtbaamopmfmpfaaaGreatDoorPkA25
noncomputable section
namespace Go.Proofs.YtbaamopmfmpfaaaGreatDoor
open Go
set_option linter.unusedVariables false
set_option maxRecDepth 100000
abbrev tA:=(ae->au->Option ae)
abbrev zg(R:tA):Prop:=∀(t:ae) (c:au) (r:ae),R t c=some r->CC Pg GE 114 [.agg (af t),.agg (aG c)] (.agg (af r)) [(2,38),(8,36)]
abbrev BY:=(aa->Option waA)
abbrev Ho(R:BY):Prop:=∀(p:aa) (r:waA),R p=some r->CC Pg GE 143 [.agg (ac p)] (sl cS r) [(0,9)]
def qaG:Code:=Tryz.f142.body.getD .skip
def T2:List Nat:=[19,28,46,51]
section
variable(v:waA)(s:ag)(out:waA)(i:Int)
def Ue:aA:=be 52 [(0,sl cS v),(1,.str s),(5,sl cS out),(6,.int .i64 i)] [] [((5,0),9)]
def Bj(o:Bool):aA:=be 52 [(0,sl cS v),(1,.str s),(5,sl cS out),(6,.int .i64 i),(18,.bool o)] [] [((5,0),9)]
def sE:Option Bool:=
 if(decide (i<(v.length:Int)))=true then
  (cz v i).bind fun x2=>
  some (Op.bytesLess x2 s)
 else
  some false
theorem Rn{x:Bool}(h:sE v s i=some x):
  aU Pg GE 0 (cA qaG 492) (EX .normal (Bj v s out i x)) (Ue v s out i):=by
 rcases bj h with⟨c1,h⟩|⟨c1,h⟩
 ·obtain⟨x2,bx2,h⟩:=ay h
  obtain rfl:=lf h
  exact cd T2 (cm (bp.ln v)<|sg 5 c1<|sv (bp.ia (k:=.i64) bx2)<|sv (dH Ba (.str x2) [])<|eF .normal (Bj v s out i (Op.bytesLess x2 s))) (by kernel_rfl)
 ·obtain rfl:=lf h
  exact cd T2 (cm (bp.ln v)<|sg 5 c1<|eF .normal (Bj v s out i false)) (by kernel_rfl)
end
section
variable(v:waA)(s:ag)(out:waA)(i:Int)
def qH:aA:=be 52 [(0,sl cS v),(1,.str s),(5,sl cS out),(6,.int .i64 i)] [] [((5,0),9)]
def Bn(o:waA×Int):aA:=be 52 [(0,sl cS v),(1,.str s),(5,sl cS o.1),(6,.int .i64 o.2)] [] [((5,0),9)]
def qI:Option ((waA×Int)⊕((waA×Int))):=
 (sE v s i).bind fun o3=>
 if o3=true then
  (cz v i).bind fun x6=>
  (app out ([x6]:List ag)).bind fun l7=>
  some (.inl (l7,aR (i+1)))
 else
  some (.inr (out,i))
def Hy:Option ((waA×Int)):=loop (fun(zz:waA×Int)=>qI v s zz.1 zz.2) (out,i)
theorem OJ{y:(waA×Int)⊕((waA×Int))}(h:qI v s out i=some y):
  aU Pg GE 0 (cA qaG 123) (LQ (fun(zz:waA×Int)=>qH v s zz.1 zz.2) (fun _=>.exit 0) (Bn v s) y) (qH v s out i):=by
 obtain⟨o3,bo3,h⟩:=ay h
 have p5:=fun{sc F} (r:PS sc F)=>kr 1<|cW (Rn v s out i bo3)<|r
 rcases bj h with⟨c4,h⟩|⟨c4,h⟩
 ·obtain⟨x6,bx6,h⟩:=ay h
  obtain⟨l7,bl7,h⟩:=ay h
  obtain rfl:=lf h
  exact n9 T2 (p5<|sg 0 c4<|sv (bp.ia (k:=.i64) bx6)<|sv (dH Ba (.str x6) [])<|sv (bp.mk' (v:=PVal.str) E8 ([x6]:List ag) 1 (by kernel_rfl))<|sv (bp.ap bl7)<|eF .normal (qH v s l7 (aR (i+1)))) (by kernel_rfl)
 ·obtain rfl:=lf h
  have z:=p5<|sg 0 c4<|eF (.exit 0) (Bn v s (out,i))
  exact f6 T2 (by intro hx;cases hx) z (by kernel_rfl)
theorem Rq{x:(waA×Int)}(h:Hy v s out i=some x):
  aU Pg GE 0 (.loop (cA qaG 123)) (EX (.exit 0) (Bn v s x)) (qH v s out i):=
 aU.loop (S:=fun(zz:waA×Int)=>qH v s zz.1 zz.2) (ex:=(fun _=>.exit 0)) (s:=(out,i)) h fun zz y hy=>OJ v s zz.1 zz.2 hy
end
section
variable(v:waA)(s:ag)(out:waA)(i:Int)
def Ug:aA:=be 52 [(0,sl cS v),(1,.str s),(5,sl cS out),(6,.int .i64 i)] [] [((5,0),9)]
def Bm(o:Bool):aA:=be 52 [(0,sl cS v),(5,sl cS out),(6,.int .i64 i),(43,.bool o)] [] [((5,0),9)]
def Hx:Option Bool:=
 if(decide (i<(v.length:Int)))=true then
  (cz v i).bind fun x11=>
  some (x11==s)
 else
  some false
theorem Rp{x:Bool}(h:Hx v s i=some x):
  aU Pg GE 0 (cA qaG 252) (EX .normal (Bm v out i x)) (Ug v s out i):=by
 rcases bj h with⟨c10,h⟩|⟨c10,h⟩
 ·obtain⟨x11,bx11,h⟩:=ay h
  obtain rfl:=lf h
  exact cd T2 (cm (bp.ln v)<|sg 5 c10<|sv (bp.ia (k:=.i64) bx11)<|sv (dH Ba (.str x11) [])<|eF .normal (Bm v out i (x11==s))) (by kernel_rfl)
 ·obtain rfl:=lf h
  exact cd T2 (cm (bp.ln v)<|sg 5 c10<|eF .normal (Bm v out i false)) (by kernel_rfl)
end
section
variable(v:waA)(s:ag)(out:waA)(i:Int)
def Uf:aA:=be 52 [(0,sl cS v),(1,.str s),(5,sl cS out),(6,.int .i64 i)] [] [((5,0),9)]
def Bl(o:Int):aA:=be 52 [(0,sl cS v),(5,sl cS out),(6,.int .i64 o)] [] [((5,0),9)]
def Bk:Option Int:=
 (Hx v s i).bind fun o12=>
 if o12=true then
  some (aR (i+1))
 else
  some i
theorem Ro{x:Int}(h:Bk v s i=some x):
  aU Pg GE 0 (cA qaG 126) (EX .normal (Bl v out x)) (Uf v s out i):=by
 obtain⟨o12,bo12,h⟩:=ay h
 have p14:=fun{sc F} (r:PS sc F)=>kr 0<|cW (Rp v s out i bo12)<|r
 rcases bj h with⟨c13,h⟩|⟨c13,h⟩
 ·obtain rfl:=lf h
  exact cd T2 (p14<|sg 0 c13<|eF .normal (Bl v out (aR (i+1)))) (by kernel_rfl)
 ·obtain rfl:=lf h
  exact cd T2 (p14<|sg 0 c13<|eF .normal (Bl v out i)) (by kernel_rfl)
end
def yw(a:waA)(s:ag):Option waA:=
 (Hy a s ([]:List ag) 0).bind fun o8=>
 (app o8.1 ([s]:List ag)).bind fun l9=>
 (Bk a s o8.2).bind fun o15=>
 (N2 a (some o15) none).bind fun l16=>
 (app l9 l16).bind fun l17=>
 some l17
theorem Bo{a:waA}{s:ag}{r:waA}(h:yw a s=some r):CC Pg GE 142 [sl cS a,.str s] (sl cS r) [(0,9)]:=by
 obtain⟨o8,bo8,h⟩:=ay h
 obtain⟨l9,bl9,h⟩:=ay h
 obtain⟨o15,bo15,h⟩:=ay h
 obtain⟨l16,bl16,h⟩:=ay h
 obtain⟨l17,bl17,h⟩:=ay h
 obtain rfl:=lf h
 have z:=cW (Rq a s ([]:List ag) 0 bo8)<|sv (bp.mk' (v:=PVal.str) E8 ([s]:List ag) 1 (by kernel_rfl))<|sv (bp.ap bl9)<|kr 0<|cW (Ro a s l9 o8.2 bo15)<|sv (bp.sc bl16)<|sv (bp.ap bl17)<|en (aI (rP (sl cS l17))<|(aj dQ l17))
 exact bN T2 Tryz.call142 Tryz.func142 (c:=qaG) rfl (aI (aj dQ a) (aI trivial trivial)) z (by kernel_rfl)
def R3:Code:=Tryz.f121.body.getD .skip
def Rh:List Nat:=[12,24,32]
section
variable(v:waA)(v2:waA)(t9:Int)(out:waA)(t10:Int)
def mh:aA:=be 33 [(0,sl cS v),(1,sl cS v2),(5,sl cS out),(9,.int .i64 t9),(10,.int .i64 t10)] [] [((5,0),9)]
def wB(o:waA):aA:=be 33 [(1,sl cS v2),(5,sl cS o)] [] [((5,0),9)]
def mi:Option ((waA×Int)⊕(waA)):=
 if(decide (t10<t9))=true then
  (cz v t10).bind fun x2=>
  (yw out x2).bind fun r3=>
  some (.inl (r3,aR (t10+1)))
 else
  some (.inr out)
def qF:Option waA:=loop (fun(zz:waA×Int)=>mi v t9 zz.1 zz.2) (out,t10)
theorem KL{y:(waA×Int)⊕(waA)}(h:mi v t9 out t10=some y):
  aU Pg GE 0 (cA R3 119) (LQ (fun(zz:waA×Int)=>mh v v2 t9 zz.1 zz.2) (fun _=>.exit 0) (wB v2) y) (mh v v2 t9 out t10):=by
 rcases bj h with⟨c1,h⟩|⟨c1,h⟩
 ·obtain⟨x2,bx2,h⟩:=ay h
  obtain⟨r3,br3,h⟩:=ay h
  obtain rfl:=lf h
  exact n9 Rh (sg 0 c1<|sv (bp.ia (k:=.i64) bx2)<|sv (dH Ba (.str x2) [])<|bz (Bo br3)<|eF .normal (mh v v2 t9 r3 (aR (t10+1)))) (by kernel_rfl)
 ·obtain rfl:=lf h
  have z:=sg 0 c1<|eF (.exit 0) (wB v2 out)
  exact f6 Rh (by intro hx;cases hx) z (by kernel_rfl)
theorem MO{x:waA}(h:qF v t9 out t10=some x):
  aU Pg GE 0 (.loop (cA R3 119)) (EX (.exit 0) (wB v2 x)) (mh v v2 t9 out t10):=
 aU.loop (S:=fun(zz:waA×Int)=>mh v v2 t9 zz.1 zz.2) (ex:=(fun _=>.exit 0)) (s:=(out,t10)) h fun zz y hy=>KL v v2 t9 zz.1 zz.2 hy
end
section
variable(v:waA)(t21:Int)(out:waA)(t22:Int)
def mj:aA:=be 33 [(1,sl cS v),(5,sl cS out),(21,.int .i64 t21),(22,.int .i64 t22)] [] [((5,0),9)]
def wC(o:waA):aA:=be 33 [(5,sl cS o)] [] [((5,0),9)]
def dy:Option ((waA×Int)⊕(waA)):=
 if(decide (t22<t21))=true then
  (cz v t22).bind fun x6=>
  (yw out x6).bind fun r7=>
  some (.inl (r7,aR (t22+1)))
 else
  some (.inr out)
def qG:Option waA:=loop (fun(zz:waA×Int)=>dy v t21 zz.1 zz.2) (out,t22)
theorem KM{y:(waA×Int)⊕(waA)}(h:dy v t21 out t22=some y):
  aU Pg GE 0 (cA R3 247) (LQ (fun(zz:waA×Int)=>mj v t21 zz.1 zz.2) (fun _=>.exit 2) wC y) (mj v t21 out t22):=by
 rcases bj h with⟨c5,h⟩|⟨c5,h⟩
 ·obtain⟨x6,bx6,h⟩:=ay h
  obtain⟨r7,br7,h⟩:=ay h
  obtain rfl:=lf h
  exact n9 Rh (sg 0 c5<|sv (bp.ia (k:=.i64) bx6)<|sv (dH Ba (.str x6) [])<|bz (Bo br7)<|eF .normal (mj v t21 r7 (aR (t22+1)))) (by kernel_rfl)
 ·obtain rfl:=lf h
  have z:=sg 0 c5<|eF (.exit 2) (wC out)
  exact f6 Rh (by intro hx;cases hx) z (by kernel_rfl)
theorem MP{x:waA}(h:qG v t21 out t22=some x):
  aU Pg GE 0 (.loop (cA R3 247)) (EX (.exit 2) (wC x)) (mj v t21 out t22):=
 aU.loop (S:=fun(zz:waA×Int)=>mj v t21 zz.1 zz.2) (ex:=(fun _=>.exit 2)) (s:=(out,t22)) h fun zz y hy=>KM v t21 zz.1 zz.2 hy
end
def gj(a:waA)(a2:waA):Option waA:=
 (qF a (a.length:Int) ([]:List ag) 0).bind fun o4=>
 (qG a2 (a2.length:Int) o4 0).bind fun o8=>
 some o8
theorem nh{a:waA}{a2:waA}{r:waA}(h:gj a a2=some r):CC Pg GE 121 [sl cS a,sl cS a2] (sl cS r) [(0,9)]:=by
 obtain⟨o4,bo4,h⟩:=ay h
 obtain⟨o8,bo8,h⟩:=ay h
 obtain rfl:=lf h
 have z:=cm (bp.ln a)<|cW (MO a a2 (a.length:Int) ([]:List ag) 0 bo4)<|cm (bp.ln a2)<|cW (MP a2 (a2.length:Int) o4 0 bo8)<|en (aI (rP (sl cS o8))<|(aj dQ o8))
 exact bN Rh Tryz.call121 Tryz.func121 (c:=R3) rfl (aI (aj dQ a) (aI (aj dQ a2) trivial)) z (by kernel_rfl)
def qeF:Code:=Tryz.f143.body.getD .skip
def qb6:List Nat:=[24]
section
variable(p:aa)
def Rt:aA:=be 25 [(1,.eptr (ac p)),(3,sl cS ([]:List ag))] [.dead] [((3,0),9)]
def zn(o:waA):aA:=be 25 [(1,.eptr (ac p)),(3,sl cS o)] [.dead] [((3,0),9)]
def DI:Option waA:=
 if(p.Op==3)=true then
  some ([p.Name]:List ag)
 else
  some ([]:List ag)
theorem OL{x:waA}(h:DI p=some x):
  aU Pg GE 0 (cA qeF 14) (EX .normal (zn p x)) (Rt p):=by
 have p2:=fun{sc F} (r:PS sc F)=>sv (bE p)<|sv (bF p)<|r
 rcases bj h with⟨c1,h⟩|⟨c1,h⟩
 ·obtain rfl:=lf h
  exact cd qb6 (p2<|sg 0 c1<|sv (cp p)<|sv (cO p)<|sv (bp.mk' (v:=PVal.str) E8 ([p.Name]:List ag) 1 (by kernel_rfl))<|eF .normal (zn p ([p.Name]:List ag))) (by kernel_rfl)
 ·obtain rfl:=lf h
  exact cd qb6 (p2<|sg 0 c1<|eF .normal (zn p ([]:List ag))) (by kernel_rfl)
end
section
variable(R121:BY)(t13:waB)(t14:Int)(out:waA)(t15:Int)
def oq:aA:=be 25 [(3,sl cS out),(13,sl ac t13),(14,.int .i64 t14),(15,.int .i64 t15)] [.dead] [((3,0),9)]
def zo(o:waA):aA:=be 25 [(3,sl cS o)] [.dead] [((3,0),9)]
def GP:Option ((waA×Int)⊕(waA)):=
 if(decide (t15<t14))=true then
  (cz t13 t15).bind fun x5=>
  (R121 x5).bind fun r6=>
  (gj out r6).bind fun r7=>
  some (.inl (r7,aR (t15+1)))
 else
  some (.inr out)
def DJ:Option waA:=loop (fun(zz:waA×Int)=>GP R121 t13 t14 zz.1 zz.2) (out,t15)
theorem MU(hR121:Ho R121){y:(waA×Int)⊕(waA)}(h:GP R121 t13 t14 out t15=some y):
  aU Pg GE 0 (cA qeF 247) (LQ (fun(zz:waA×Int)=>oq t13 t14 zz.1 zz.2) (fun _=>.exit 0) zo y) (oq t13 t14 out t15):=by
 rcases bj h with⟨c4,h⟩|⟨c4,h⟩
 ·obtain⟨x5,bx5,h⟩:=ay h
  obtain⟨r6,br6,h⟩:=ay h
  obtain⟨r7,br7,h⟩:=ay h
  obtain rfl:=lf h
  have z:=sg 0 c4<|sv (bL.ia (k:=.i64) bx5)<|sv (bh x5)<|sx hO<|sx (cj x5)<|sv (bT x5 [])<|bz (hR121 _ _ br6)<|bz (nh br7)<|uz 0 .normal (oq t13 t14 r7 (aR (t15+1))) rfl (dC (aI (up (aj dQ r7)) (aI (up (aj ah t13)) (aI trivial (aI trivial trivial))))) (aI trivial trivial)
  exact df (A:=qb6) mixed z (by kernel_rfl)
 ·obtain rfl:=lf h
  have z:=sg 0 c4<|eF (.exit 0) (zo out)
  exact f6 qb6 (by intro hx;cases hx) z (by kernel_rfl)
theorem OM(hR121:Ho R121){x:waA}(h:DJ R121 t13 t14 out t15=some x):
  aU Pg GE 0 (.loop (cA qeF 247)) (EX (.exit 0) (zo x)) (oq t13 t14 out t15):=
 aU.loop (S:=fun(zz:waA×Int)=>oq t13 t14 zz.1 zz.2) (ex:=(fun _=>.exit 0)) (s:=(out,t15)) h fun zz y hy=>MU R121 t13 t14 zz.1 zz.2 hR121 hy
end
def Bq(R121:BY)(p:aa):Option waA:=
 (DI p).bind fun o3=>
 (DJ R121 p.Kids (p.Kids.length:Int) o3 0).bind fun o8=>
 some o8
theorem Uj(R121:BY)(hR121:Ho R121){p:aa}{r:waA}(h:Bq R121 p=some r):CC Pg GE 143 [.agg (ac p)] (sl cS r) [(0,9)]:=by
 obtain⟨o3,bo3,h⟩:=ay h
 obtain⟨o8,bo8,h⟩:=ay h
 obtain rfl:=lf h
 have z:=se (bS p)<|kr 1<|cW (OL p bo3)<|sv (bA p)<|sv (bC p)<|cm (bL.ln p.Kids)<|cW (OM R121 p.Kids (p.Kids.length:Int) o3 0 hR121 bo8)<|en (aI (rP (sl cS o8))<|(aj dQ o8))
 exact bN qb6 Tryz.call143 Tryz.func143 (c:=qeF) rfl (aI (ah p) trivial) z (by kernel_rfl)
def Hz:(aa->Option waA)->(aa)->Option waA:=fun(rec:aa->Option waA) (x:aa)=>Bq (fun p=>rec p) x
def tU(p:aa):Option waA:=kJ Hz p
theorem DK{p:aa}{r:waA}(h:tU p=some r):CC Pg GE 143 [.agg (ac p)] (sl cS r) [(0,9)]:=
 cy (F:=Hz) (M:=fun(x:aa) (r:waA)=>CC Pg GE 143 [.agg (ac x)] (sl cS r) [(0,9)]) (fun rec hrec x r h=>Uj _ (fun p r h=>hrec p r h) h) h
def qgr:Code:=Tryz.f122.body.getD .skip
def qgb:List Nat:=[17]
section
variable(t6:waB)(t7:Int)(out:waA)(t8:Int)
def mF:aA:=be 18 [(3,sl cS out),(6,sl ac t6),(7,.int .i64 t7),(8,.int .i64 t8)] [] [((3,0),9)]
def xj(o:waA):aA:=be 18 [(3,sl cS o)] [] [((3,0),9)]
def Eu:Option ((waA×Int)⊕(waA)):=
 if(decide (t8<t7))=true then
  (cz t6 t8).bind fun x2=>
  (tU x2).bind fun r3=>
  (gj out r3).bind fun r4=>
  some (.inl (r4,aR (t8+1)))
 else
  some (.inr out)
def BQ:Option waA:=loop (fun(zz:waA×Int)=>Eu t6 t7 zz.1 zz.2) (out,t8)
theorem Ll{y:(waA×Int)⊕(waA)}(h:Eu t6 t7 out t8=some y):
  aU Pg GE 0 (cA qgr 119) (LQ (fun(zz:waA×Int)=>mF t6 t7 zz.1 zz.2) (fun _=>.exit 0) xj y) (mF t6 t7 out t8):=by
 rcases bj h with⟨c1,h⟩|⟨c1,h⟩
 ·obtain⟨x2,bx2,h⟩:=ay h
  obtain⟨r3,br3,h⟩:=ay h
  obtain⟨r4,br4,h⟩:=ay h
  obtain rfl:=lf h
  have z:=sg 0 c1<|sv (bL.ia (k:=.i64) bx2)<|sv (bh x2)<|sx hO<|sx (cj x2)<|sv (bT x2 [])<|bz (DK br3)<|bz (nh br4)<|uz 0 .normal (mF t6 t7 r4 (aR (t8+1))) rfl (dC (aI (up (aj dQ r4)) (aI (up (aj ah t6)) (aI trivial (aI trivial trivial))))) trivial
  exact df (A:=qgb) mixed z (by kernel_rfl)
 ·obtain rfl:=lf h
  have z:=sg 0 c1<|eF (.exit 0) (xj out)
  exact f6 qgb (by intro hx;cases hx) z (by kernel_rfl)
theorem NC{x:waA}(h:BQ t6 t7 out t8=some x):
  aU Pg GE 0 (.loop (cA qgr 119)) (EX (.exit 0) (xj x)) (mF t6 t7 out t8):=
 aU.loop (S:=fun(zz:waA×Int)=>mF t6 t7 zz.1 zz.2) (ex:=(fun _=>.exit 0)) (s:=(out,t8)) h fun zz y hy=>Ll t6 t7 zz.1 zz.2 hy
end
def FL(a:waB):Option waA:=
 (BQ a (a.length:Int) ([]:List ag) 0).bind fun o5=>
 some o5
theorem UD{a:waB}{r:waA}(h:FL a=some r):CC Pg GE 122 [sl ac a] (sl cS r) [(0,9)]:=by
 obtain⟨o5,bo5,h⟩:=ay h
 obtain rfl:=lf h
 have z:=cm (bL.ln a)<|cW (NC a (a.length:Int) ([]:List ag) 0 bo5)<|en (aI (rP (sl cS o5))<|(aj dQ o5))
 exact bN qgb Tryz.call122 Tryz.func122 (c:=qgr) rfl (aI (aj ah a) trivial) z (by kernel_rfl)
abbrev B6:=(ae->Option waA)
abbrev Ht(R:B6):Prop:=∀(t:ae) (r:waA),R t=some r->CC Pg GE 123 [.agg (af t)] (sl cS r) [(0,9)]
def qgx:Code:=Tryz.f144.body.getD .skip
def qek:List Nat:=[18,23]
section
variable(names:waA)(t8:waA)(t9:Int)(out:waA)(t10:Int)
def gZ:aA:=be 24 [(1,sl cS names),(5,sl cS out),(8,sl cS t8),(9,.int .i64 t9),(10,.int .i64 t10)] [] [((5,0),9)]
def sM(o:waA):aA:=be 24 [(5,sl cS o)] [] [((5,0),9)]
def As:Option ((waA×Int)⊕(waA)):=
 if(decide (t10<t9))=true then
  (cz t8 t10).bind fun x2=>
  (gI names x2).bind fun r3=>
  if(decide (r3<0))=true then
   (app out ([x2]:List ag)).bind fun l6=>
   some (.inl (l6,aR (t10+1)))
  else
   some (.inl (out,aR (t10+1)))
 else
  some (.inr out)
def xk:Option waA:=loop (fun(zz:waA×Int)=>As names t8 t9 zz.1 zz.2) (out,t10)
theorem HR{y:(waA×Int)⊕(waA)}(h:As names t8 t9 out t10=some y):
  aU Pg GE 0 (cA qgx 119) (LQ (fun(zz:waA×Int)=>gZ names t8 t9 zz.1 zz.2) (fun _=>.exit 0) sM y) (gZ names t8 t9 out t10):=by
 rcases bj h with⟨c1,h⟩|⟨c1,h⟩
 ·obtain⟨x2,bx2,h⟩:=ay h
  obtain⟨r3,br3,h⟩:=ay h
  have p5:=fun{sc F} (r:PS sc F)=>sg 0 c1<|sv (bp.ia (k:=.i64) bx2)<|sv (dH Ba (.str x2) [])<|bz (j6 br3)<|r
  rcases bj h with⟨c4,h⟩|⟨c4,h⟩
  ·obtain⟨l6,bl6,h⟩:=ay h
   obtain rfl:=lf h
   exact n9 qek (p5<|sg 0 c4<|sv (bp.mk' (v:=PVal.str) E8 ([x2]:List ag) 1 (by kernel_rfl))<|sv (bp.ap bl6)<|eF .normal (gZ names t8 t9 l6 (aR (t10+1)))) (by kernel_rfl)
  ·obtain rfl:=lf h
   exact n9 qek (p5<|sg 0 c4<|eF .normal (gZ names t8 t9 out (aR (t10+1)))) (by kernel_rfl)
 ·obtain rfl:=lf h
  have z:=sg 0 c1<|eF (.exit 0) (sM out)
  exact f6 qek (by intro hx;cases hx) z (by kernel_rfl)
theorem Jh{x:waA}(h:xk names t8 t9 out t10=some x):
  aU Pg GE 0 (.loop (cA qgx 119)) (EX (.exit 0) (sM x)) (gZ names t8 t9 out t10):=
 aU.loop (S:=fun(zz:waA×Int)=>gZ names t8 t9 zz.1 zz.2) (ex:=(fun _=>.exit 0)) (s:=(out,t10)) h fun zz y hy=>HR names t8 t9 zz.1 zz.2 hy
end
def mG(a:waA)(names:waA):Option waA:=
 (xk names a (a.length:Int) ([]:List ag) 0).bind fun o7=>
 some o7
theorem EB{a:waA}{names:waA}{r:waA}(h:mG a names=some r):CC Pg GE 144 [sl cS a,sl cS names] (sl cS r) [(0,9)]:=by
 obtain⟨o7,bo7,h⟩:=ay h
 obtain rfl:=lf h
 have z:=cm (bp.ln a)<|cW (Jh names a (a.length:Int) ([]:List ag) 0 bo7)<|en (aI (rP (sl cS o7))<|(aj dQ o7))
 exact bN qek Tryz.call144 Tryz.func144 (c:=qgx) rfl (aI (aj dQ a) (aI (aj dQ names) trivial)) z (by kernel_rfl)
def qaF:Code:=Tryz.f123.body.getD .skip
def Ya:List Nat:=[32,53]
section
variable(t:ae)(t14:waB)(t15:Int)(out:waA)(t16:Int)
def oN:aA:=be 54 [(1,.eptr (af t)),(3,sl cS out),(14,sl ac t14),(15,.int .i64 t15),(16,.int .i64 t16)] [.dead] [((14,0),36),((3,0),9)]
def zJ(o:waA):aA:=be 54 [(1,.eptr (af t)),(3,sl cS o)] [.dead] [((3,0),9)]
def GV:Option ((waA×Int)⊕(waA)):=
 if(decide (t16<t15))=true then
  (cz t14 t16).bind fun x3=>
  (tU x3).bind fun r4=>
  (mG r4 ([([118]:ag)]:List ag)).bind fun r5=>
  (gj out r5).bind fun r6=>
  some (.inl (r6,aR (t16+1)))
 else
  some (.inr out)
def Em:Option waA:=loop (fun(zz:waA×Int)=>GV t14 t15 zz.1 zz.2) (out,t16)
theorem Nw{y:(waA×Int)⊕(waA)}(h:GV t14 t15 out t16=some y):
  aU Pg GE 0 (cA qaF 119) (LQ (fun(zz:waA×Int)=>oN t t14 t15 zz.1 zz.2) (fun _=>.exit 0) (zJ t) y) (oN t t14 t15 out t16):=by
 rcases bj h with⟨c2,h⟩|⟨c2,h⟩
 ·obtain⟨x3,bx3,h⟩:=ay h
  obtain⟨r4,br4,h⟩:=ay h
  obtain⟨r5,br5,h⟩:=ay h
  obtain⟨r6,br6,h⟩:=ay h
  obtain rfl:=lf h
  have z:=sg 0 c2<|sv (bL.ia (k:=.i64) bx3)<|sv (bh x3)<|sx hO<|sx (cj x3)<|sv (bT x3 [])<|bz (DK br4)<|sv (bp.mk' (v:=PVal.str) E8 ([([118]:ag)]:List ag) 1 (by kernel_rfl))<|bz (EB br5)<|bz (nh br6)<|uz 0 .normal (oN t t14 t15 r6 (aR (t16+1))) rfl (dC (aI (ij (ak t)) (aI (up (aj dQ r6)) (aI (up (aj ah t14)) (aI trivial (aI trivial trivial)))))) (aI trivial trivial)
  exact df (A:=Ya) mixed z (by kernel_rfl)
 ·obtain rfl:=lf h
  have z:=sg 0 c2<|eF (.exit 0) (zJ t out)
  exact f6 Ya (by intro hx;cases hx) z (by kernel_rfl)
theorem Pp{x:waA}(h:Em t14 t15 out t16=some x):
  aU Pg GE 0 (.loop (cA qaF 119)) (EX (.exit 0) (zJ t x)) (oN t t14 t15 out t16):=
 aU.loop (S:=fun(zz:waA×Int)=>oN t t14 t15 zz.1 zz.2) (ex:=(fun _=>.exit 0)) (s:=(out,t16)) h fun zz y hy=>Nw t t14 t15 zz.1 zz.2 hy
end
section
variable(t:ae)(out:waA)(bound:waA)(t28:waC)(t29:Int)(t30:Int)(m:Int)(m2:ag)(m3:waC)(m4:waA)(m5:Int)(m6:ag)(m7:Int)(m8:waB)(m9:waB)
def RR:aA:=be 54 [(1,.eptr (af t)),(3,sl cS out),(7,.bptr 1 0),(8,sl cS bound),(28,sl af t28),(29,.int .i64 t29),(30,.int .i64 t30)] [.dead,.cells [.int .i64 m,.str m2,sl af m3,sl cS m4,.int .i64 m5,.str m6,.int .i64 m7,sl ac m8,sl ac m9] []] [((3,0),9)]
def zI(o:waA):aA:=be 54 [(1,.eptr (af t)),(3,sl cS out),(7,.bptr 1 0),(8,sl cS o),(28,sl af t28),(29,.int .i64 t29),(30,.int .i64 t30)] [.dead,.cells [.int .i64 m,.str m2,sl af m3,sl cS m4,.int .i64 m5,.str m6,.int .i64 m7,sl ac m8,sl ac m9] []] [((3,0),9)]
def tW:Option waA:=
 if(t.Op !=6)=true then
  some ([]:List ag)
 else
  some bound
theorem Po{x:waA}(h:tW t bound=some x):
  aU Pg GE 0 (cA qaF 31726) (EX .normal (zI t out t28 t29 t30 m m2 m3 m4 m5 m6 m7 m8 m9 x)) (RR t out bound t28 t29 t30 m m2 m3 m4 m5 m6 m7 m8 m9):=by
 have p12:=fun{sc F} (r:PS sc F)=>sv (aC t)<|sv (aD t)<|r
 rcases bj h with⟨c11,h⟩|⟨c11,h⟩
 ·obtain rfl:=lf h
  exact cd Ya (p12<|sg 0 c11<|eF .normal (zI t out t28 t29 t30 m m2 m3 m4 m5 m6 m7 m8 m9 ([]:List ag))) (by kernel_rfl)
 ·obtain rfl:=lf h
  exact cd Ya (p12<|sg 0 c11<|eF .normal (zI t out t28 t29 t30 m m2 m3 m4 m5 m6 m7 m8 m9 bound)) (by kernel_rfl)
end
section
variable(R124:B6)(t:ae)(t28:waC)(t29:Int)(out:waA)(t30:Int)
def oO:aA:=be 54 [(1,.eptr (af t)),(3,sl cS out),(28,sl af t28),(29,.int .i64 t29),(30,.int .i64 t30)] [.dead] [((3,0),9)]
def zK(o:waA):aA:=be 54 [(3,sl cS o)] [.dead] [((3,0),9)]
def GW:Option ((waA×Int)⊕(waA)):=
 if(decide (t30<t29))=true then
  (cz t28 t30).bind fun x9=>
  (N2 t.Names none (some (if(t.Names.length:Int)<t30 then(t.Names.length:Int)else t30))).bind fun l10=>
  (tW t l10).bind fun o13=>
  (R124 x9).bind fun r14=>
  (mG r14 o13).bind fun r15=>
  (gj out r15).bind fun r16=>
  some (.inl (r16,aR (t30+1)))
 else
  some (.inr out)
def En:Option waA:=loop (fun(zz:waA×Int)=>GW R124 t t28 t29 zz.1 zz.2) (out,t30)
theorem Nx(hR124:Ht R124){y:(waA×Int)⊕(waA)}(h:GW R124 t t28 t29 out t30=some y):
  aU Pg GE 0 (cA qaF 247) (LQ (fun(zz:waA×Int)=>oO t t28 t29 zz.1 zz.2) (fun _=>.exit 2) zK y) (oO t t28 t29 out t30):=by
 rcases bj h with⟨c8,h⟩|⟨c8,h⟩
 ·obtain⟨x9,bx9,h⟩:=ay h
  obtain⟨l10,bl10,h⟩:=ay h
  obtain⟨o13,bo13,h⟩:=ay h
  obtain⟨r14,br14,h⟩:=ay h
  obtain⟨r15,br15,h⟩:=ay h
  obtain⟨r16,br16,h⟩:=ay h
  obtain rfl:=lf h
  have z:=sg 0 c8<|sv (ck.ia (k:=.i64) bx9)<|sv (aV x9)<|sx tc<|sx (ey x9)<|sv (aO t)<|sv (aP t)<|sv (aO t)<|sv (aP t)<|cm (bp.ln t.Names)<|sv (bp.sc bl10)<|kr 0<|cW (Po t out l10 t28 t29 t30 x9.Op x9.Name x9.Args x9.Names x9.Pred.Op x9.Pred.Name x9.Pred.N x9.Pred.Kids x9.Preds bo13)<|sv (cU x9 [])<|bz (hR124 _ _ br14)<|bz (EB br15)<|bz (nh br16)<|uz 0 .normal (oO t t28 t29 r16 (aR (t30+1))) rfl (dC (aI (ij (ak t)) (aI (up (aj dQ r16)) (aI (up (aj ak t28)) (aI trivial (aI trivial trivial)))))) (aI trivial trivial)
  exact df (A:=Ya) mixed z (by kernel_rfl)
 ·obtain rfl:=lf h
  have z:=sg 0 c8<|eF (.exit 2) (zK out)
  exact f6 Ya (by intro hx;cases hx) z (by kernel_rfl)
theorem Pq(hR124:Ht R124){x:waA}(h:En R124 t t28 t29 out t30=some x):
  aU Pg GE 0 (.loop (cA qaF 247)) (EX (.exit 2) (zK x)) (oO t t28 t29 out t30):=
 aU.loop (S:=fun(zz:waA×Int)=>oO t t28 t29 zz.1 zz.2) (ex:=(fun _=>.exit 2)) (s:=(out,t30)) h fun zz y hy=>Nx R124 t t28 t29 zz.1 zz.2 hR124 hy
end
def BM(R124:B6)(t:ae):Option waA:=
 (app ([t.Pred]:List aa) t.Preds).bind fun l1=>
 (Em l1 (l1.length:Int) ([]:List ag) 0).bind fun o7=>
 (En R124 t t.Args (t.Args.length:Int) o7 0).bind fun o17=>
 some o17
theorem Uz(R124:B6)(hR124:Ht R124){t:ae}{r:waA}(h:BM R124 t=some r):CC Pg GE 123 [.agg (af t)] (sl cS r) [(0,9)]:=by
 obtain⟨l1,bl1,h⟩:=ay h
 obtain⟨o7,bo7,h⟩:=ay h
 obtain⟨o17,bo17,h⟩:=ay h
 obtain rfl:=lf h
 have z:=se (bD t)<|sv (dE t)<|sv (dF t)<|sv (bL.mk' (v:=dW) cK ([t.Pred]:List aa) 1 (by kernel_rfl))<|sv (dq t)<|sv (dt t)<|sv (bL.ap bl1)<|cm (bL.ln l1)<|cW (Pp t l1 (l1.length:Int) ([]:List ag) 0 bo7)<|sv (aK t)<|sv (aL t)<|cm (ck.ln t.Args)<|cW (Pq R124 t t.Args (t.Args.length:Int) o7 0 hR124 bo17)<|en (aI (rP (sl cS o17))<|(aj dQ o17))
 exact bN Ya Tryz.call123 Tryz.func123 (c:=qaF) rfl (aI (ak t) trivial) z (by kernel_rfl)
def HL:(ae->Option waA)->(ae)->Option waA:=fun(rec:ae->Option waA) (x:ae)=>BM (fun t=>rec t) x
def Pn(t:ae):Option waA:=kJ HL t
theorem Wq{t:ae}{r:waA}(h:Pn t=some r):CC Pg GE 123 [.agg (af t)] (sl cS r) [(0,9)]:=
 cy (F:=HL) (M:=fun(x:ae) (r:waA)=>CC Pg GE 123 [.agg (af x)] (sl cS r) [(0,9)]) (fun rec hrec x r h=>Uz _ (fun t r h=>hrec t r h) h) h
def qeD:Code:=Tryz.f124.body.getD .skip
def qau:List Nat:=[14,28,34]
section
variable(name:ag)(c:au)(i:Int)(s:ag)(t10:waA)(t11:Int)(m:waB)(m2:waA)(m3:waB)
def RS:aA:=be 45 [(1,.str name),(2,.eptr (aG c)),(4,.bptr 1 0),(5,.bptr 2 0),(6,.int .i64 i),(7,.str s),(10,sl cS t10),(11,.int .i64 t11),(12,.int .i64 i)] [.dead,.cells [sl cS ([]:List ag),sl ac m] [(0,9),(1,36)],.cells [sl cS m2,sl ac m3] [(0,9),(1,36)]] []
def zM(o:Bool):aA:=be 45 [(1,.str name),(2,.eptr (aG c)),(4,.bptr 1 0),(5,.bptr 2 0),(6,.int .i64 i),(7,.str s),(10,sl cS t10),(11,.int .i64 t11),(12,.int .i64 i),(26,.bool o)] [.dead,.cells [sl cS ([]:List ag),sl ac m] [(0,9),(1,36)],.cells [sl cS m2,sl ac m3] [(0,9),(1,36)]] []
def Ep:Option Bool:=
 if(decide (i<(c.By.length:Int)))=true then
  some (!(s==name))
 else
  some false
theorem Ps{x:Bool}(h:Ep name c i s=some x):
  aU Pg GE 0 (cA qeD 7670) (EX .normal (zM name c i s t10 t11 m m2 m3 x)) (RS name c i s t10 t11 m m2 m3):=by
 have p4:=fun{sc F} (r:PS sc F)=>sv (dT c)<|sv (dY c)<|cm (bL.ln c.By)<|r
 rcases bj h with⟨c3,h⟩|⟨c3,h⟩
 ·obtain rfl:=lf h
  exact cd qau (p4<|sg 6 c3<|eF .normal (zM name c i s t10 t11 m m2 m3 (!(s==name)))) (by kernel_rfl)
 ·obtain rfl:=lf h
  exact cd qau (p4<|sg 6 c3<|eF .normal (zM name c i s t10 t11 m m2 m3 false)) (by kernel_rfl)
end
section
variable(name:ag)(c:au)(t10:waA)(t11:Int)(m:waB)(t12:Int)(m2:waA)(m3:waB)
def ls:aA:=be 45 [(1,.str name),(2,.eptr (aG c)),(4,.bptr 1 0),(5,.bptr 2 0),(10,sl cS t10),(11,.int .i64 t11),(12,.int .i64 t12)] [.dead,.cells [sl cS ([]:List ag),sl ac m] [(0,9),(1,36)],.cells [sl cS m2,sl ac m3] [(0,9),(1,36)]] []
def zN(o:waA×waB):aA:=be 45 [(4,.bptr 1 0),(5,.bptr 2 0)] [.dead,.cells [sl cS ([]:List ag),sl ac m] [(0,9),(1,36)],.cells [sl cS o.1,sl ac o.2] [(0,9),(1,36)]] []
def je:Option ((Int×waA×waB)⊕((waA×waB))):=
 if(decide (t12<t11))=true then
  (cz t10 t12).bind fun x2=>
  (Ep name c t12 x2).bind fun o5=>
  if o5=true then
   (app m2 ([x2]:List ag)).bind fun l8=>
   (cz c.By t12).bind fun x9=>
   (app m3 ([x9]:List aa)).bind fun l10=>
   some (.inl (aR (t12+1),l8,l10))
  else
   some (.inl (aR (t12+1),m2,m3))
 else
  some (.inr (m2,m3))
def Er:Option ((waA×waB)):=loop (fun(zz:Int×waA×waB)=>je name c t10 t11 zz.1 zz.2.1 zz.2.2) (t12,m2,m3)
theorem NA{y:(Int×waA×waB)⊕((waA×waB))}(h:je name c t10 t11 t12 m2 m3=some y):
  aU Pg GE 0 (cA qeD 119) (LQ (fun(zz:Int×waA×waB)=>ls name c t10 t11 m zz.1 zz.2.1 zz.2.2) (fun _=>.exit 0) (zN m) y) (ls name c t10 t11 m t12 m2 m3):=by
 rcases bj h with⟨c1,h⟩|⟨c1,h⟩
 ·obtain⟨x2,bx2,h⟩:=ay h
  obtain⟨o5,bo5,h⟩:=ay h
  have p7:=fun{sc F} (r:PS sc F)=>sg 0 c1<|sv (bp.ia (k:=.i64) bx2)<|sv (dH Ba (.str x2) [])<|kr 0<|cW (Ps name c t12 x2 t10 t11 m m2 m3 bo5)<|r
  rcases bj h with⟨c6,h⟩|⟨c6,h⟩
  ·obtain⟨l8,bl8,h⟩:=ay h
   obtain⟨x9,bx9,h⟩:=ay h
   obtain⟨l10,bl10,h⟩:=ay h
   obtain rfl:=lf h
   exact n9 qau (p7<|sg 0 c6<|sv (bp.mk' (v:=PVal.str) E8 ([x2]:List ag) 1 (by kernel_rfl))<|sv (bp.ap bl8)<|lY [0,1,0,4,0,28,60,124,255,511,1023]<|sv (dT c)<|sv (dY c)<|sv (bL.ia (k:=.i64) bx9)<|sv (bh x9)<|sv (bL.mk' (v:=dW) cK ([x9]:List aa) 1 (by kernel_rfl))<|sv (bL.ap bl10)<|VP (rfl:bK (sl ac l10)=some [sl ac l10])<|eF .normal (ls name c t10 t11 m (aR (t12+1)) l8 l10)) (by kernel_rfl)
  ·obtain rfl:=lf h
   exact n9 qau (p7<|sg 0 c6<|eF .normal (ls name c t10 t11 m (aR (t12+1)) m2 m3)) (by kernel_rfl)
 ·obtain rfl:=lf h
  have z:=sg 0 c1<|eF (.exit 0) (zN m (m2,m3))
  exact f6 qau (by intro hx;cases hx) z (by kernel_rfl)
theorem Pt{x:(waA×waB)}(h:Er name c t10 t11 t12 m2 m3=some x):
  aU Pg GE 0 (.loop (cA qeD 119)) (EX (.exit 0) (zN m x)) (ls name c t10 t11 m t12 m2 m3):=
 aU.loop (S:=fun(zz:Int×waA×waB)=>ls name c t10 t11 m zz.1 zz.2.1 zz.2.2) (ex:=(fun _=>.exit 0)) (s:=(t12,m2,m3)) h fun zz y hy=>NA name c t10 t11 m zz.1 zz.2.1 zz.2.2 hy
end
def Jf(c:au)(name:ag):Option au:=
 (Er name c c.Names (c.Names.length:Int) 0 ([]:List ag) ([]:List aa)).bind fun o11=>
 some (⟨o11.1,o11.2⟩:au)
theorem Wr{c:au}{name:ag}{r:au}(h:Jf c name=some r):CC Pg GE 124 [.agg (aG c),.str name] (.agg (aG r)) [(0,9),(1,36)]:=by
 obtain⟨o11,bo11,h⟩:=ay h
 obtain rfl:=lf h
 have z:=se (im c)<|sx qdL<|sb (kG) (kF)<|sx qdL<|sy (cZ (⟨([]:List ag),([]:List aa)⟩:au))<|sv (rt c)<|sv (rY c)<|cm (bp.ln c.Names)<|cW (Pt name c c.Names (c.Names.length:Int) ([]:List aa) 0 ([]:List ag) ([]:List aa) bo11)<|sz (dV (⟨o11.1,o11.2⟩:au) [])<|sy (cZ (⟨o11.1,o11.2⟩:au))<|en (aI (wj (⟨o11.1,o11.2⟩:au))<|aI (d6 (⟨o11.1,o11.2⟩:au))<|rT)
 exact bN qau Tryz.call124 Tryz.func124 (c:=qeD) rfl (aI (d6 c) (aI trivial trivial)) z (by kernel_rfl)
def qeE:Code:=Tryz.f125.body.getD .skip
def qb4:List Nat:=[]
section
variable(name:ag)(t8:waB)(t9:Int)(t10:Int)
def mD:aA:=be 20 [(1,.str name),(8,sl ac t8),(9,.int .i64 t9),(10,.int .i64 t10)] [.dead] []
def mE(o:Unit⊕(Unit)):Exit:=match o with
 |(.inl _)=>.ret
 |(.inr _)=>.exit 0
def jT(o:Unit⊕(Unit)):aA:=match o with
 |(.inl o)=>be 20 [(4,.bool true)] [.dead] []
 |(.inr o)=>be 20 [] [.dead] []
def xi:Option (Int⊕(Unit⊕(Unit))):=
 if(decide (t10<t9))=true then
  (cz t8 t10).bind fun x2=>
  (tU x2).bind fun r3=>
  (gI r3 name).bind fun r4=>
  if(decide (r4>=0))=true then
   some (.inr (.inl ()))
  else
   some (.inl (aR (t10+1)))
 else
  some (.inr (.inr ()))
def BO:Option (Unit⊕(Unit)):=loop (fun(zz:Int)=>xi name t8 t9 zz) t10
theorem Lk{y:Int⊕(Unit⊕(Unit))}(h:xi name t8 t9 t10=some y):
  aU Pg GE 0 (cA qeE 55) (LQ (fun(zz:Int)=>mD name t8 t9 zz) mE jT y) (mD name t8 t9 t10):=by
 rcases bj h with⟨c1,h⟩|⟨c1,h⟩
 ·obtain⟨x2,bx2,h⟩:=ay h
  obtain⟨r3,br3,h⟩:=ay h
  obtain⟨r4,br4,h⟩:=ay h
  have p6:=fun{sc F} (r:PS sc F)=>sg 0 c1<|sv (bL.ia (k:=.i64) bx2)<|sv (bh x2)<|sx hO<|sx (cj x2)<|sv (bT x2 [])<|bz (DK br3)<|bz (j6 br4)<|r
  rcases bj h with⟨c5,h⟩|⟨c5,h⟩
  ·obtain rfl:=lf h
   have z:=p6<|sg 0 c5<|uz 0 (mE (.inl ())) (jT (.inl ())) rfl (dC (aI trivial trivial)) (aI trivial trivial)
   exact Iq (A:=qb4) mixed (by intro hx;cases hx) z (by kernel_rfl)
  ·obtain rfl:=lf h
   have z:=p6<|sg 0 c5<|uz 0 .normal (mD name t8 t9 (aR (t10+1))) rfl (dC (aI trivial (aI (up (aj ah t8)) (aI trivial (aI trivial trivial))))) (aI trivial trivial)
   exact df (A:=qb4) mixed z (by kernel_rfl)
 ·obtain rfl:=lf h
  have z:=sg 0 c1<|eF (mE (.inr ())) (jT (.inr ()))
  exact f6 qb4 (by intro hx;cases hx) z (by kernel_rfl)
theorem CU{x:Unit⊕(Unit)}(h:BO name t8 t9 t10=some x):
  aU Pg GE 0 (.loop (cA qeE 55)) (EX (mE x) (jT x)) (mD name t8 t9 t10):=
 aU.loop (S:=fun(zz:Int)=>mD name t8 t9 zz) (ex:=mE) (s:=t10) h fun zz y hy=>Lk name t8 t9 zz hy
end
def FK(c:au)(name:ag):Option Bool:=
 (BO name c.By (c.By.length:Int) 0).bind fun o7=>match o7 with
 |(.inl o7)=>
  some true
 |(.inr o7)=>
  some false
theorem UB{c:au}{name:ag}{r:Bool}(h:FK c name=some r):CC Pg GE 125 [.agg (aG c),.str name] (.bool r) []:=by
 obtain⟨o7,bo7,h⟩:=ay h
 rcases o7 with o7|o7
 ·obtain rfl:=lf h
  have z:=se (im c)<|sv (dT c)<|sv (dY c)<|cm (bL.ln c.By)<|cW (e:=.ret) (s1:=jT (.inl o7)) (CU name c.By (c.By.length:Int) 0 bo7)<|en (aI (rP (.bool true))<|trivial)
  exact bN qb4 Tryz.call125 Tryz.func125 (c:=qeE) rfl (aI (d6 c) (aI trivial trivial)) z (by kernel_rfl)
 ·obtain rfl:=lf h
  have z:=se (im c)<|sv (dT c)<|sv (dY c)<|cm (bL.ln c.By)<|cW (e:=.exit 0) (s1:=jT (.inr o7)) (CU name c.By (c.By.length:Int) 0 bo7)<|en (aI (rP (.bool false))<|trivial)
  exact bN qb4 Tryz.call125 Tryz.func125 (c:=qeE) rfl (aI (d6 c) (aI trivial trivial)) z (by kernel_rfl)
section
variable(v:waA)(lo:Int)(n:Nat)(t9:Int)(w0:List ag)(out:waA)(t10:Int)
def jF:aA:=be 33 [(0,sl cS v),(1,.bsl 0 (lL Pg 9 lo) n),(5,sl cS out),(9,.int .i64 t9),(10,.int .i64 t10)] [.cells (pF cS w0) []] [((5,0),9)]
def sB(o:waA):aA:=be 33 [(1,.bsl 0 (lL Pg 9 lo) n),(5,sl cS o)] [.cells (pF cS w0) []] [((5,0),9)]
def Am:Option ((waA×Int)⊕(waA)):=
 if(decide (t10<t9))=true then
  (cz v t10).bind fun x2=>
  (yw out x2).bind fun r3=>
  some (.inl (r3,aR (t10+1)))
 else
  some (.inr out)
def wA:Option waA:=loop (fun(zz:waA×Int)=>Am v t9 zz.1 zz.2) (out,t10)
theorem Hv{y:(waA×Int)⊕(waA)}(h:Am v t9 out t10=some y):
  aU Pg GE 1 (cA R3 119) (LQ (fun(zz:waA×Int)=>jF v lo n t9 w0 zz.1 zz.2) (fun _=>.exit 0) (sB lo n w0) y) (jF v lo n t9 w0 out t10):=by
 rcases bj h with⟨c1,h⟩|⟨c1,h⟩
 ·obtain⟨x2,bx2,h⟩:=ay h
  obtain⟨r3,br3,h⟩:=ay h
  obtain rfl:=lf h
  exact n9 Rh (sg 0 c1<|sv (bp.ia (k:=.i64) bx2)<|sv (dH Ba (.str x2) [])<|bz (Bo br3)<|eF .normal (jF v lo n t9 w0 r3 (aR (t10+1)))) (by kernel_rfl)
 ·obtain rfl:=lf h
  have z:=sg 0 c1<|eF (.exit 0) (sB lo n w0 out)
  exact f6 Rh (by intro hx;cases hx) z (by kernel_rfl)
theorem IS{x:waA}(h:wA v t9 out t10=some x):
  aU Pg GE 1 (.loop (cA R3 119)) (EX (.exit 0) (sB lo n w0 x)) (jF v lo n t9 w0 out t10):=
 aU.loop (S:=fun(zz:waA×Int)=>jF v lo n t9 w0 zz.1 zz.2) (ex:=(fun _=>.exit 0)) (s:=(out,t10)) h fun zz y hy=>Hv v lo n t9 w0 zz.1 zz.2 hy
end
section
variable(lo:Int)(n:Nat)(t21:Int)(w0:List ag)(out:waA)(t22:Int)
def jG:aA:=be 33 [(1,.bsl 0 (lL Pg 9 lo) n),(5,sl cS out),(21,.int .i64 t21),(22,.int .i64 t22)] [.cells (pF cS w0) []] [((5,0),9)]
def sC(o:waA):aA:=be 33 [(5,sl cS o)] [.cells (pF cS w0) []] [((5,0),9)]
def gY:Option ((waA×Int)⊕(waA)):=
 if(decide (t22<t21))=true then
  (qgN lo n w0 t22).bind fun x6=>
  (yw out x6).bind fun r7=>
  some (.inl (r7,aR (t22+1)))
 else
  some (.inr out)
def qE:Option waA:=loop (fun(zz:waA×Int)=>gY lo n t21 w0 zz.1 zz.2) (out,t22)
theorem Hw{y:(waA×Int)⊕(waA)}(h:gY lo n t21 w0 out t22=some y):
  aU Pg GE 1 (cA R3 247) (LQ (fun(zz:waA×Int)=>jG lo n t21 w0 zz.1 zz.2) (fun _=>.exit 2) (sC w0) y) (jG lo n t21 w0 out t22):=by
 rcases bj h with⟨c5,h⟩|⟨c5,h⟩
 ·obtain⟨x6,bx6,h⟩:=ay h
  obtain⟨r7,br7,h⟩:=ay h
  obtain rfl:=lf h
  exact n9 Rh (sg 0 c5<|sv (bp.iaM 0 (k:=.i64) bx6)<|sv (bp.ldM (fun r=>dH Ba (.str x6) r) bx6)<|bz (Bo br7)<|eF .normal (jG lo n t21 w0 r7 (aR (t22+1)))) (by kernel_rfl)
 ·obtain rfl:=lf h
  have z:=sg 0 c5<|eF (.exit 2) (sC w0 out)
  exact f6 Rh (by intro hx;cases hx) z (by kernel_rfl)
theorem IT{x:waA}(h:qE lo n t21 w0 out t22=some x):
  aU Pg GE 1 (.loop (cA R3 247)) (EX (.exit 2) (sC w0 x)) (jG lo n t21 w0 out t22):=
 aU.loop (S:=fun(zz:waA×Int)=>jG lo n t21 w0 zz.1 zz.2) (ex:=(fun _=>.exit 2)) (s:=(out,t22)) h fun zz y hy=>Hw lo n t21 w0 zz.1 zz.2 hy
end
def yt(a:waA)(lo:Int)(n:Nat)(k0:List ag):Option waA:=
 (wA a (a.length:Int) ([]:List ag) 0).bind fun o4=>
 (qE lo n (n:Int) k0 o4 0).bind fun o8=>
 some o8
theorem OF{a:waA}{lo:Int}{n:Nat}{k0:List ag}{r:waA}(h:yt a lo n k0=some r):C Pg GE 121 [sl cS a,.bsl 0 (lL Pg 9 lo) n] [] [.cells (pF cS k0) []] (sl cS r) [(0,9)] [.cells (pF cS k0) []]:=by
 obtain⟨o4,bo4,h⟩:=ay h
 obtain⟨o8,bo8,h⟩:=ay h
 obtain rfl:=lf h
 have z:=cm (bp.ln a)<|cW (IS a lo n (a.length:Int) k0 ([]:List ag) 0 bo4)<|cm (bp.lnR 0 (lL Pg 9 lo) n)<|cW (IT lo n (n:Int) k0 o4 0 bo8)<|en (aI (rP (sl cS o8))<|aI (up (n:=1) (aj dQ o8))<|aI (rL [.cells (pF cS k0) []])<|(aI (qeg 1 dQ k0) trivial))
 exact C.evGp (A:=Rh) mixed (m:=1) (c:=R3) rfl Tryz.call121 Tryz.func121 rfl z (by kernel_rfl)
end Go.Proofs.YtbaamopmfmpfaaaGreatDoor
