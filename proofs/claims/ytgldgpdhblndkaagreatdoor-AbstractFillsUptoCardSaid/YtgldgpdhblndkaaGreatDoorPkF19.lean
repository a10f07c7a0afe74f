/- WHAT IS PROVED: parts of the proof, put together by a program (G5). Conditions: none. -/
import Derived.Test.YtgldgpdhblndkaaGreatDoorPkF18
noncomputable section
namespace Go.Proofs.YtgldgpdhblndkaaGreatDoor
open Go
set_option linter.unusedVariables false
set_option maxRecDepth 100000
def qdy (R54:qbz) (t:tType) (c:waF) (c2:waD):Option (tType) :=
 (qja t.Names).bind fun r1 =>
 (qdB t.Pred c c2).bind fun r2 =>
 (qit t.Preds c c2).bind fun r3 =>
 (qhH R54 t.Args c c2).bind fun r4 =>
 some (⟨t.Op,t.Name,r4,r1,r2,r3⟩:tType)
theorem qn2 (R54:qbz) (hR54:qcS R54) {t:tType} {c:waF} {c2:waD} {r:tType} (h:qdy R54 t c c2 = some r):CC Pg GE 51 [.agg (qac t),.func (.func 53) [] [.eptr ((cL qaC) c),.eptr ((cL qas) c2)]] (.agg (qac r)) [(2,33)]:=by
 obtain ⟨r1,br1,h⟩:=bnd h
 obtain ⟨r2,br2,h⟩:=bnd h
 obtain ⟨r3,br3,h⟩:=bnd h
 obtain ⟨r4,br4,h⟩:=bnd h
 obtain rfl:=lf h
 have z:=se (qbj t) <| se (rfl:qaY (.func (.func 53) [] [.eptr ((cL qaC) c),.eptr ((cL qas) c2)]) = some [.func (.func 53) [] [.eptr ((cL qaC) c),.eptr ((cL qas) c2)]]) <| sx pz33 <| sdr [0,1,0,4,0,16,48,0,0,256,1008,0,2048,0,16368,32767,0,131071] <| sv (qam t) <| sv (qal t) <| sv (qbs t) <| sv (qbC t) <| sv (qaz t) <| sv (qay t) <| sca (qpJ br1) <| sv (qa9 qGe (.func (.func 53) [] [.eptr ((cL qaC) c),.eptr ((cL qas) c2)]) []) <| sv (qbg t) <| sv (qba t) <| sca (qk7 br2) <| sv (qaQ t) <| sv (qaP t) <| sv (qa9 qGe (.func (.func 53) [] [.eptr ((cL qaC) c),.eptr ((cL qas) c2)]) []) <| sca (qqx br3) <| sb (qha t.Op t.Name r1 r2 r3) (qhb t.Op t.Name r1 r2 r3) <| syx (qbI (⟨t.Op,t.Name,([]:List tType),r1,r2,r3⟩:tType)) <| sv (qaq t) <| sv (qap t) <| sca (qpo R54 hR54 br4) <| sz (qa3 (⟨t.Op,t.Name,r4,r1,r2,r3⟩:tType) []) <| sy (qaK (⟨t.Op,t.Name,r4,r1,r2,r3⟩:tType)) <| en (aI (qcB (⟨t.Op,t.Name,r4,r1,r2,r3⟩:tType)) <| aI (qaf (⟨t.Op,t.Name,r4,r1,r2,r3⟩:tType)) <| rT)
 exact cvZ A51 Tryz.call51 Tryz.func51 (c:=b51) rfl (aI (qaf t) (aI (aI trivial (aI (clLs qbA c) (aI (clLs qa4 c2) trivial))) trivial)) z (by kernel_rfl)
def qfF:((tType×waF×waD)→Option (tType))→(tType×waF×waD)→Option (tType):=fun (rec:(tType×waF×waD)→Option (tType)) (x:tType×waF×waD) => qdy (fun t c c2 => rec (t,c,c2)) x.1 x.2.1 x.2.2
def qhn (t:tType) (c:waF) (c2:waD):Option (tType):=fixE (qfF) (t,c,c2)
theorem qoh {t:tType} {c:waF} {c2:waD} {r:tType} (h:qhn t c c2 = some r):CC Pg GE 51 [.agg (qac t),.func (.func 53) [] [.eptr ((cL qaC) c),.eptr ((cL qas) c2)]] (.agg (qac r)) [(2,33)] :=
 qbo (F:=qfF) (M:=fun (x:tType×waF×waD) (r:tType) => CC Pg GE 51 [.agg (qac x.1),.func (.func 53) [] [.eptr ((cL qaC) x.2.1),.eptr ((cL qas) x.2.2)]] (.agg (qac r)) [(2,33)]) (fun rec hrec x r h => qn2 _ (fun t c c2 r h => hrec (t,c,c2) r h) h) h
noncomputable def b16:Code:=Tryz.f16.body.getD .skip
def A16:List Nat:=[17,38]
section
variable (t:tType) (abs:waF) (holes:waD) (t14:Int) (t15:Int) (t32:waE) (t33:Int) (m:waC) (m2:waA) (m3:Str) (m4:waE) (vars:waB) (t34:Int)
def qdk:PSt:=stt 50 [(3,.eptr (qac t)),(4,.eptr ((cL qaC) abs)),(5,.eptr ((cL qas) holes)),(6,.bptr 3 0),(7,sl cS vars),(14,.int .i64 t14),(15,.int .i64 t15),(32,sl qaI t32),(33,.int .i64 t33),(34,.int .i64 t34)] [.dead,.dead,.dead,.cells [.int .i64 0,.str ([]:Str),sl qac m,sl cS ([]:List Str),.int .i64 0,.str ([]:Str),.int .i64 0,sl qaa m2,sl qaa m2] [(2,33),(3,9),(7,31),(8,31)],.cells [.str m3,sl qaI m4] []] [((7,0),9)]
def qgL (o:waB):PSt:=stt 50 [(3,.eptr (qac t)),(4,.eptr ((cL qaC) abs)),(5,.eptr ((cL qas) holes)),(6,.bptr 3 0),(7,sl cS o),(14,.int .i64 t14),(15,.int .i64 t15)] [.dead,.dead,.dead,.cells [.int .i64 0,.str ([]:Str),sl qac m,sl cS ([]:List Str),.int .i64 0,.str ([]:Str),.int .i64 0,sl qaa m2,sl qaa m2] [(2,33),(3,9),(7,31),(8,31)],.cells [.str m3,sl qaI m4] []] [((7,0),9)]
def qk6:Option ((waB×Int)⊕((waB))) :=
 if (decide (t34 < t33)) = true then
  (idx t32 t34).bind fun x8 =>
  (app vars ([x8.Name]:List Str)).bind fun l9 =>
  some (.inl (l9,w64 (t34 + 1)))
 else
  some (.inr vars)
def qeg:Option ((waB)):=loop (fun (zz:waB×Int) => qk6 t32 t33 zz.1 zz.2) (vars,t34)
theorem qqg {y:(waB×Int)⊕((waB))} (h:qk6 t32 t33 vars t34 = some y) :
  Sat Pg GE 0 (cA b16 122751) (LQ (fun (zz:waB×Int) => qdk t abs holes t14 t15 t32 t33 m m2 m3 m4 zz.1 zz.2) (fun _ => .exit 2) (qgL t abs holes t14 t15 m m2 m3 m4) y) (qdk t abs holes t14 t15 t32 t33 m m2 m3 m4 vars t34):=by
 rcases ifs h with ⟨c7,h⟩ | ⟨c7,h⟩
 ·obtain ⟨x8,bx8,h⟩:=bnd h
  obtain ⟨l9,bl9,h⟩:=bnd h
  obtain rfl:=lf h
  have z:=sg 0 c7 <| sv (sT36.ia (k := .i64) bx8) <| sv (qBx x8) <| sx pz88 <| sx (qAj x8) <| ss <| sv (sT22.mk' (v:=PVal.str) pcS ([x8.Name]:List Str) 1 (by kernel_rfl)) <| sv (sT22.ap bl9) <| eFx 0 .normal (qdk t abs holes t14 t15 t32 t33 m m2 m3 m4 l9 (w64 (t34 + 1))) rfl (qbn (aI (qbw (qaf t)) (aI (qbw (clLs qbA abs)) (aI (qbw (clLs qa4 holes)) (aI (qcH rfl) (aI (up (qad clS l9)) (aI trivial (aI trivial (aI (up (qad qbx t32)) (aI trivial (aI trivial trivial))))))))))) (aI trivial (aI trivial (aI trivial (aI (aI trivial (aI trivial (aI (up (qad qaf m)) (aI (up (qad clS ([]:List Str))) (aI trivial (aI trivial (aI trivial (aI (up (qad qab m2)) (aI (up (qad qab m2)) trivial))))))))) (aI (aI trivial (aI (up (qad qbx m4)) trivial)) trivial)))))
  exact qa5 (A:=A16) mixed z (by kernel_rfl)
 ·obtain rfl:=lf h
  have z:=sg 0 c7 <| eF (.exit 2) (qgL t abs holes t14 t15 m m2 m3 m4 vars)
  exact ovZ A16 (by intro hx; cases hx) z (by kernel_rfl)
theorem qrM {x:(waB)} (h:qeg t32 t33 vars t34 = some x) :
  Sat Pg GE 0 (.loop (cA b16 122751)) (EX (.exit 2) (qgL t abs holes t14 t15 m m2 m3 m4 x)) (qdk t abs holes t14 t15 t32 t33 m m2 m3 m4 vars t34) :=
 Sat.loop (S:=fun (zz:waB×Int) => qdk t abs holes t14 t15 t32 t33 m m2 m3 m4 zz.1 zz.2) (ex:=(fun _ => .exit 2)) (s:=(vars,t34)) h fun zz y hy => qqg t abs holes t14 t15 t32 t33 m m2 m3 m4 zz.1 zz.2 hy
end
section
variable (t:tType) (abs:waF) (holes:waD) (t14:Int) (m:waC) (m2:waA) (vars:waB) (t15:Int)
def qcN:PSt:=stt 50 [(3,.eptr (qac t)),(4,.eptr ((cL qaC) abs)),(5,.eptr ((cL qas) holes)),(6,.bptr 3 0),(7,sl cS vars),(14,.int .i64 t14),(15,.int .i64 t15)] [.dead,.dead,.dead,.cells [.int .i64 0,.str ([]:Str),sl qac m,sl cS ([]:List Str),.int .i64 0,.str ([]:Str),.int .i64 0,sl qaa m2,sl qaa m2] [(2,33),(3,9),(7,31),(8,31)]] [((7,0),9)]
def qgW (o:waB):PSt:=stt 50 [(3,.eptr (qac t)),(4,.eptr ((cL qaC) abs)),(5,.eptr ((cL qas) holes)),(6,.bptr 3 0),(7,sl cS o)] [.dead,.dead,.dead,.cells [.int .i64 0,.str ([]:Str),sl qac m,sl cS ([]:List Str),.int .i64 0,.str ([]:Str),.int .i64 0,sl qaa m2,sl qaa m2] [(2,33),(3,9),(7,31),(8,31)]] [((7,0),9)]
def qlo:Option ((waB×Int)⊕((waB))) :=
 if (decide (t15 < t14)) = true then
  (idx abs t15).bind fun x2 =>
  (qcK abs holes x2.Name).bind fun r3 =>
  if (!r3.2) = true then
   some (.inl (vars,w64 (t15 + 1)))
  else
   (qen r3.1).bind fun r6 =>
   (qeg r6 (r6.length:Int) vars 0).bind fun o10 =>
   some (.inl (o10,w64 (t15 + 1)))
 else
  some (.inr vars)
def qgk:Option ((waB)):=loop (fun (zz:waB×Int) => qlo abs holes t14 zz.1 zz.2) (vars,t15)
theorem qqj {y:(waB×Int)⊕((waB))} (h:qlo abs holes t14 vars t15 = some y) :
  Sat Pg GE 0 (cA b16 119) (LQ (fun (zz:waB×Int) => qcN t abs holes t14 m m2 zz.1 zz.2) (fun _ => .exit 0) (qgW t abs holes m m2) y) (qcN t abs holes t14 m m2 vars t15):=by
 rcases ifs h with ⟨c1,h⟩ | ⟨c1,h⟩
 ·obtain ⟨x2,bx2,h⟩:=bnd h
  obtain ⟨r3,br3,h⟩:=bnd h
  have p5:=fun {sc F} (r:PS sc F) => sg 0 c1 <| sdr [0,0,0,0,12,28,60,127,255,511,511,0,3071,8191] <| sv (qa9 sc24 (sl qaC abs) []) <| sv (qa9 sc38 (sl qas holes) []) <| sv (qa9 sc24 (sl qaC abs) []) <| sv (sT24.ia (k := .i64) bx2) <| sv (qoZ x2) <| sv (qrB x2) <| sca (qi9 br3) <| sx (qpr r3.1) <| r
  rcases ifs h with ⟨c4,h⟩ | ⟨c4,h⟩
  ·obtain rfl:=lf h
   have z:=p5 <| sg 0 c4 <| eFx 0 .normal (qcN t abs holes t14 m m2 vars (w64 (t15 + 1))) rfl (qbn (aI (qbw (qaf t)) (aI (qbw (clLs qbA abs)) (aI (qbw (clLs qa4 holes)) (aI (qcH rfl) (aI (up (qad clS vars)) (aI trivial (aI trivial trivial)))))))) (aI trivial (aI trivial (aI trivial (aI (aI trivial (aI trivial (aI (up (qad qaf m)) (aI (up (qad clS ([]:List Str))) (aI trivial (aI trivial (aI trivial (aI (up (qad qab m2)) (aI (up (qad qab m2)) trivial))))))))) trivial))))
   exact qa5 (A:=A16) mixed z (by kernel_rfl)
  ·obtain ⟨r6,br6,h⟩:=bnd h
   obtain ⟨o10,bo10,h⟩:=bnd h
   obtain rfl:=lf h
   have z:=p5 <| sg 0 c4 <| sv (qC0 r3.1 []) <| sca (qmc br6) <| svn (sT36.ln r6) <| spc (qrM t abs holes t14 t15 r6 (r6.length:Int) m m2 r3.1.Name r3.1.Params vars 0 bo10) <| eFx 0 .normal (qcN t abs holes t14 m m2 o10 (w64 (t15 + 1))) rfl (qbn (aI (qbw (qaf t)) (aI (qbw (clLs qbA abs)) (aI (qbw (clLs qa4 holes)) (aI (qcH rfl) (aI (up (qad clS o10)) (aI trivial (aI trivial trivial)))))))) (aI trivial (aI trivial (aI trivial (aI (aI trivial (aI trivial (aI (up (qad qaf m)) (aI (up (qad clS ([]:List Str))) (aI trivial (aI trivial (aI trivial (aI (up (qad qab m2)) (aI (up (qad qab m2)) trivial))))))))) trivial))))
   exact qa5 (A:=A16) mixed z (by kernel_rfl)
 ·obtain rfl:=lf h
  have z:=sg 0 c1 <| eF (.exit 0) (qgW t abs holes m m2 vars)
  exact ovZ A16 (by intro hx; cases hx) z (by kernel_rfl)
theorem qss {x:(waB)} (h:qgk abs holes t14 vars t15 = some x) :
  Sat Pg GE 0 (.loop (cA b16 119)) (EX (.exit 0) (qgW t abs holes m m2 x)) (qcN t abs holes t14 m m2 vars t15) :=
 Sat.loop (S:=fun (zz:waB×Int) => qcN t abs holes t14 m m2 zz.1 zz.2) (ex:=(fun _ => .exit 0)) (s:=(vars,t15)) h fun zz y hy => qqj t abs holes t14 m m2 zz.1 zz.2 hy
end
def qfp (t:tType) (abs:waF) (holes:waD):Option (tType) :=
 (qgk abs holes (abs.length:Int) ([]:List Str) 0).bind fun o11 =>
 (qlA t o11).bind fun r12 =>
 (qhn r12 abs holes).bind fun r13 =>
 some r13
theorem qnM {t:tType} {abs:waF} {holes:waD} {r:tType} (h:qfp t abs holes = some r):CC Pg GE 16 [.agg (qac t),sl qaC abs,sl qas holes] (.agg (qac r)) [(2,33)]:=by
 obtain ⟨o11,bo11,h⟩:=bnd h
 obtain ⟨r12,br12,h⟩:=bnd h
 obtain ⟨r13,br13,h⟩:=bnd h
 obtain rfl:=lf h
 have z:=se (qbj t) <| se (pcL qaC abs) <| se (pcL qas holes) <| sx pz33 <| sv (qa9 sc24 (sl qaC abs) []) <| svn (sT24.ln abs) <| spc (qss t abs holes (abs.length:Int) ([]:List tType) ([]:List tPred) ([]:List Str) 0 bo11) <| sv (qaN t) <| sca (quc br12) <| sca (qoh br13) <| sy (qaK r13) <| en (aI (qcB r13) <| aI (qaf r13) <| rT)
 exact cvZ A16 Tryz.call16 Tryz.func16 (c:=b16) rfl (aI (qaf t) (aI (qad qbA abs) (aI (qad qa4 holes) trivial))) z (by kernel_rfl)
abbrev qpB:=(tType→tType→Option (Bool))
abbrev quK (R:qpB):Prop := ∀ (a:tType) (a2:tType) (r:Bool),R a a2 = some r→CC Pg GE 15 [.agg (qac a),.agg (qac a2)] (.bool r) []
noncomputable def b47:Code:=Tryz.f47.body.getD .skip
def A47:List Nat:=[15]
section
variable (v:waB) (v2:waB) (t12:Int) (t13:Int)
def qhJ:PSt:=stt 26 [(0,sl cS v),(1,sl cS v2),(12,.int .i64 t12),(13,.int .i64 t13)] [] []
def qgT (o:(Unit)⊕(Unit)):Exit:=match o with
 | (.inl _) => .ret
 | (.inr _) => .exit 0
def qfn (o:(Unit)⊕(Unit)):PSt:=match o with
 | (.inl o) => stt 26 [(4,.bool false)] [] []
 | (.inr o) => stt 26 [] [] []
def qnz:Option ((Int)⊕((Unit)⊕(Unit))) :=
 if (decide (t13 < t12)) = true then
  (idx v t13).bind fun x4 =>
  (idx v2 t13).bind fun x5 =>
  if (!(x4 == x5)) = true then
   some (.inr (.inl ()))
  else
   some (.inl (w64 (t13 + 1)))
 else
  some (.inr (.inr ()))
def qrf:Option ((Unit)⊕(Unit)):=loop (fun (zz:Int) => qnz v v2 t12 zz) t13
theorem qxo {y:(Int)⊕((Unit)⊕(Unit))} (h:qnz v v2 t12 t13 = some y) :
  Sat Pg GE 0 (cA b47 119) (LQ (fun (zz:Int) => qhJ v v2 t12 zz) qgT (qfn) y) (qhJ v v2 t12 t13):=by
 rcases ifs h with ⟨c3,h⟩ | ⟨c3,h⟩
 ·obtain ⟨x4,bx4,h⟩:=bnd h
  obtain ⟨x5,bx5,h⟩:=bnd h
  have p7:=fun {sc F} (r:PS sc F) => sg 0 c3 <| sdr [0,0,3,7,0,0,48,112,255] <| sv (sT22.ia (k := .i64) bx4) <| sv (qa9 sc9 (.str x4) []) <| sv (sT22.ia (k := .i64) bx5) <| sv (qa9 sc9 (.str x5) []) <| r
  rcases ifs h with ⟨c6,h⟩ | ⟨c6,h⟩
  ·obtain rfl:=lf h
   have z:=p7 <| sg 0 c6 <| eF (qgT (.inl ())) (qfn (.inl ()))
   exact ovZ A47 (by intro hx; cases hx) z (by kernel_rfl)
  ·obtain rfl:=lf h
   have z:=p7 <| sg 0 c6 <| eF .normal (qhJ v v2 t12 (w64 (t13 + 1)))
   exact nxZ A47 z (by kernel_rfl)
 ·obtain rfl:=lf h
  have z:=sg 0 c3 <| eF (qgT (.inr ())) (qfn (.inr ()))
  exact ovZ A47 (by intro hx; cases hx) z (by kernel_rfl)
theorem qq1 {x:(Unit)⊕(Unit)} (h:qrf v v2 t12 t13 = some x) :
  Sat Pg GE 0 (.loop (cA b47 119)) (EX (qgT x) (qfn x)) (qhJ v v2 t12 t13) :=
 Sat.loop (S:=fun (zz:Int) => qhJ v v2 t12 zz) (ex:=qgT) (s:=t13) h fun zz y hy => qxo v v2 t12 zz hy
end
def qww (a:waB) (a2:waB):Option (Bool) :=
 if ((a.length:Int) != (a2.length:Int)) = true then
  some false
 else
  (qrf a a2 (a.length:Int) 0).bind fun o8 => match o8 with
  | (.inl o8) =>
   some false
  | (.inr o8) =>
   some true
theorem qDP {a:waB} {a2:waB} {r:Bool} (h:qww a a2 = some r):CC Pg GE 47 [sl cS a,sl cS a2] (.bool r) []:=by
 have p2:=fun {sc F} (r:PS sc F) => svn (sT22.ln a) <| svn (sT22.ln a2) <| r
 rcases ifs h with ⟨c1,h⟩ | ⟨c1,h⟩
 ·obtain rfl:=lf h
  have z:=p2 <| sg 0 c1 <| en (aI (rP (.bool false)) <| trivial)
  exact cvZ A47 Tryz.call47 Tryz.func47 (c:=b47) rfl (aI (qad clS a) (aI (qad clS a2) trivial)) z (by kernel_rfl)
 ·obtain ⟨o8,bo8,h⟩:=bnd h
  rcases o8 with o8 | o8
  ·obtain rfl:=lf h
   have z:=p2 <| sg 0 c1 <| svn (sT22.ln a) <| spc (e := .ret) (s1:=qfn (.inl o8)) (qq1 a a2 (a.length:Int) 0 bo8) <| en (aI (rP (.bool false)) <| trivial)
   exact cvZ A47 Tryz.call47 Tryz.func47 (c:=b47) rfl (aI (qad clS a) (aI (qad clS a2) trivial)) z (by kernel_rfl)
  ·obtain rfl:=lf h
   have z:=p2 <| sg 0 c1 <| svn (sT22.ln a) <| spc (e := .exit 0) (s1:=qfn (.inr o8)) (qq1 a a2 (a.length:Int) 0 bo8) <| en (aI (rP (.bool true)) <| trivial)
   exact cvZ A47 Tryz.call47 Tryz.func47 (c:=b47) rfl (aI (qad clS a) (aI (qad clS a2) trivial)) z (by kernel_rfl)
noncomputable def b84:Code:=Tryz.f84.body.getD .skip
def A84:List Nat:=[]
def qkP:Option (tPred) :=
 some (⟨2,([]:Str),1,([]:List tPred)⟩:tPred)
theorem qkA {r:tPred} (h:qkP = some r):CC Pg GE 84 [] (.agg (qaa r)) [(3,31)]:=by
 obtain rfl:=lf h
 have z:=sx pz31 <| sb (qoa 2 1) (qo6 2 1) <| sy (qao (⟨2,([]:Str),1,([]:List tPred)⟩:tPred)) <| en (aI (qaT (⟨2,([]:Str),1,([]:List tPred)⟩:tPred)) <| aI (qab (⟨2,([]:Str),1,([]:List tPred)⟩:tPred)) <| rT)
 exact cvZ A84 Tryz.call84 Tryz.func84 (c:=b84) rfl trivial z (by kernel_rfl)
abbrev qp9:=(tPred→tPred→Option (Bool))
abbrev qvf (R:qp9):Prop := ∀ (a:tPred) (a2:tPred) (r:Bool),R a a2 = some r→CC Pg GE 18 [.agg (qaa a),.agg (qaa a2)] (.bool r) []
noncomputable def b18:Code:=Tryz.f18.body.getD .skip
def A18:List Nat:=[39]
section
variable (v:tPred) (v2:tPred)
def qAG:PSt:=stt 53 [(2,.eptr (qaa v)),(3,.eptr (qaa v2))] [.dead,.dead] []
def qg6 (o:Bool):PSt:=stt 53 [(2,.eptr (qaa v)),(3,.eptr (qaa v2)),(33,.bool o)] [.dead,.dead] []
def qsj:Option ((Bool)) :=
 if (v.Op != v2.Op) = true then
  some true
 else
  if (!(v.Name == v2.Name)) = true then
   some true
  else
   if (v.N != v2.N) = true then
    some true
   else
    some ((v.Kids.length:Int) != (v2.Kids.length:Int))
theorem qy4 {x:(Bool)} (h:qsj v v2 = some x) :
  Sat Pg GE 0 (cA b18 12) (EX .normal (qg6 v v2 x)) (qAG v v2):=by
 have p2:=fun {sc F} (r:PS sc F) => sv (qaw v) <| sv (qau v) <| sv (qaw v2) <| sv (qau v2) <| r
 rcases ifs h with ⟨c1,h⟩ | ⟨c1,h⟩
 ·obtain rfl:=lf h
  have z:=p2 <| sg 6 c1 <| eF .normal (qg6 v v2 true)
  exact pcZ A18 z (by kernel_rfl)
 ·have p4:=fun {sc F} (r:PS sc F) => p2 <| sg 6 c1 <| sv (qaH v) <| sv (qaO v) <| sv (qaH v2) <| sv (qaO v2) <| r
  rcases ifs h with ⟨c3,h⟩ | ⟨c3,h⟩
  ·obtain rfl:=lf h
   have z:=p4 <| sg 13 c3 <| eF .normal (qg6 v v2 true)
   exact pcZ A18 z (by kernel_rfl)
  ·have p6:=fun {sc F} (r:PS sc F) => p4 <| sg 13 c3 <| sv (qbc v) <| sv (qbq v) <| sv (qbc v2) <| sv (qbq v2) <| r
   rcases ifs h with ⟨c5,h⟩ | ⟨c5,h⟩
   ·obtain rfl:=lf h
    have z:=p6 <| sg 20 c5 <| eF .normal (qg6 v v2 true)
    exact pcZ A18 z (by kernel_rfl)
   ·obtain rfl:=lf h
    have z:=p6 <| sg 20 c5 <| sv (qat v) <| sv (qav v) <| svn (sT29.ln v.Kids) <| sv (qat v2) <| sv (qav v2) <| svn (sT29.ln v2.Kids) <| eF .normal (qg6 v v2 ((v.Kids.length:Int) != (v2.Kids.length:Int)))
    exact pcZ A18 z (by kernel_rfl)
end
section
variable (R70:qp9) (v:tPred) (v2:tPred) (t36:Int) (t37:Int)
def qhs:PSt:=stt 53 [(2,.eptr (qaa v)),(3,.eptr (qaa v2)),(36,.int .i64 t36),(37,.int .i64 t37)] [.dead,.dead] []
def qhx (o:(Unit)⊕(Unit)):Exit:=match o with
 | (.inl _) => .ret
 | (.inr _) => .exit 0
def qfj (o:(Unit)⊕(Unit)):PSt:=match o with
 | (.inl o) => stt 53 [(4,.bool false)] [.dead,.dead] []
 | (.inr o) => stt 53 [] [.dead,.dead] []
def qjI:Option ((Int)⊕((Unit)⊕(Unit))) :=
 if (decide (t37 < t36)) = true then
  (idx v.Kids t37).bind fun x11 =>
  (idx v2.Kids t37).bind fun x12 =>
  (R70 x11 x12).bind fun r13 =>
  if (!r13) = true then
   some (.inr (.inl ()))
  else
   some (.inl (w64 (t37 + 1)))
 else
  some (.inr (.inr ()))
def qsr:Option ((Unit)⊕(Unit)):=loop (fun (zz:Int) => qjI R70 v v2 t36 zz) t37
theorem qxO (hR70:qvf R70) {y:(Int)⊕((Unit)⊕(Unit))} (h:qjI R70 v v2 t36 t37 = some y) :
  Sat Pg GE 0 (cA b18 119) (LQ (fun (zz:Int) => qhs v v2 t36 zz) qhx (qfj) y) (qhs v v2 t36 t37):=by
 rcases ifs h with ⟨c10,h⟩ | ⟨c10,h⟩
 ·obtain ⟨x11,bx11,h⟩:=bnd h
  obtain ⟨x12,bx12,h⟩:=bnd h
  obtain ⟨r13,br13,h⟩:=bnd h
  have p15:=fun {sc F} (r:PS sc F) => sg 0 c10 <| sdr [0,1,0,7,15,0,32,0,224,480,1023,2047] <| sv (qat v) <| sv (qav v) <| sv (sT29.ia (k := .i64) bx11) <| sv (qaj x11) <| sv (qat v2) <| sv (qav v2) <| sv (sT29.ia (k := .i64) bx12) <| sv (qaj x12) <| sca (hR70 _ _ _ br13) <| r
  rcases ifs h with ⟨c14,h⟩ | ⟨c14,h⟩
  ·obtain rfl:=lf h
   have z:=p15 <| sg 0 c14 <| eF (qhx (.inl ())) (qfj (.inl ()))
   exact ovZ A18 (by intro hx; cases hx) z (by kernel_rfl)
  ·obtain rfl:=lf h
   have z:=p15 <| sg 0 c14 <| eF .normal (qhs v v2 t36 (w64 (t37 + 1)))
   exact nxZ A18 z (by kernel_rfl)
 ·obtain rfl:=lf h
  have z:=sg 0 c10 <| eF (qhx (.inr ())) (qfj (.inr ()))
  exact ovZ A18 (by intro hx; cases hx) z (by kernel_rfl)
theorem qqz (hR70:qvf R70) {x:(Unit)⊕(Unit)} (h:qsr R70 v v2 t36 t37 = some x) :
  Sat Pg GE 0 (.loop (cA b18 119)) (EX (qhx x) (qfj x)) (qhs v v2 t36 t37) :=
 Sat.loop (S:=fun (zz:Int) => qhs v v2 t36 zz) (ex:=qhx) (s:=t37) h fun zz y hy => qxO R70 v v2 t36 zz hR70 hy
end
def qpD (R70:qp9) (a:tPred) (a2:tPred):Option (Bool) :=
 (qsj a a2).bind fun o7 =>
 if o7 = true then
  some false
 else
  (qsr R70 a a2 (a.Kids.length:Int) 0).bind fun o16 => match o16 with
  | (.inl o16) =>
   some false
  | (.inr o16) =>
   some true
theorem qDy (R70:qp9) (hR70:qvf R70) {a:tPred} {a2:tPred} {r:Bool} (h:qpD R70 a a2 = some r):CC Pg GE 18 [.agg (qaa a),.agg (qaa a2)] (.bool r) []:=by
 obtain ⟨o7,bo7,h⟩:=bnd h
 have p9:=fun {sc F} (r:PS sc F) => se (qaE a) <| se (qaE a2) <| spa 1 <| spc (qy4 a a2 bo7) <| r
 rcases ifs h with ⟨c8,h⟩ | ⟨c8,h⟩
 ·obtain rfl:=lf h
  have z:=p9 <| sg 0 c8 <| en (aI (rP (.bool false)) <| trivial)
  exact cvZ A18 Tryz.call18 Tryz.func18 (c:=b18) rfl (aI (qab a) (aI (qab a2) trivial)) z (by kernel_rfl)
 ·obtain ⟨o16,bo16,h⟩:=bnd h
  rcases o16 with o16 | o16
  ·obtain rfl:=lf h
   have z:=p9 <| sg 0 c8 <| sv (qat a) <| sv (qav a) <| svn (sT29.ln a.Kids) <| spc (e := .ret) (s1:=qfj (.inl o16)) (qqz R70 a a2 (a.Kids.length:Int) 0 hR70 bo16) <| en (aI (rP (.bool false)) <| trivial)
   exact cvZ A18 Tryz.call18 Tryz.func18 (c:=b18) rfl (aI (qab a) (aI (qab a2) trivial)) z (by kernel_rfl)
  ·obtain rfl:=lf h
   have z:=p9 <| sg 0 c8 <| sv (qat a) <| sv (qav a) <| svn (sT29.ln a.Kids) <| spc (e := .exit 0) (s1:=qfj (.inr o16)) (qqz R70 a a2 (a.Kids.length:Int) 0 hR70 bo16) <| en (aI (rP (.bool true)) <| trivial)
   exact cvZ A18 Tryz.call18 Tryz.func18 (c:=b18) rfl (aI (qab a) (aI (qab a2) trivial)) z (by kernel_rfl)
def qu7:((tPred×tPred)→Option (Bool))→(tPred×tPred)→Option (Bool):=fun (rec:(tPred×tPred)→Option (Bool)) (x:tPred×tPred) => qpD (fun a a2 => rec (a,a2)) x.1 x.2
def qgg (a:tPred) (a2:tPred):Option (Bool):=fixE (qu7) (a,a2)
theorem qgm {a:tPred} {a2:tPred} {r:Bool} (h:qgg a a2 = some r):CC Pg GE 18 [.agg (qaa a),.agg (qaa a2)] (.bool r) [] :=
 qbo (F:=qu7) (M:=fun (x:tPred×tPred) (r:Bool) => CC Pg GE 18 [.agg (qaa x.1),.agg (qaa x.2)] (.bool r) []) (fun rec hrec x r h => qDy _ (fun a a2 r h => hrec (a,a2) r h) h) h
noncomputable def b44:Code:=Tryz.f44.body.getD .skip
def A44:List Nat:=[]
def qlm (p:tPred):Option (Bool) :=
 (qkP).bind fun r1 =>
 (qgg p r1).bind fun r2 =>
 if r2 = true then
  some true
 else
  (qgg p (⟨0,([]:Str),0,([]:List tPred)⟩:tPred)).bind fun r5 =>
  some r5
theorem qkh {p:tPred} {r:Bool} (h:qlm p = some r):CC Pg GE 44 [.agg (qaa p)] (.bool r) []:=by
 obtain ⟨r1,br1,h⟩:=bnd h
 obtain ⟨r2,br2,h⟩:=bnd h
 have p4:=fun {sc F} (r:PS sc F) => se (qaE p) <| sdr [0,0,3,7,15,15,63,127,255] <| sv (qaj p) <| sca (qkA br1) <| sca (qgm br2) <| r
 rcases ifs h with ⟨c3,h⟩ | ⟨c3,h⟩
 ·obtain rfl:=lf h
  have z:=p4 <| sg 4 c3 <| en (aI (rP (.bool true)) <| trivial)
  exact cvZ A44 Tryz.call44 Tryz.func44 (c:=b44) rfl (aI (qab p) trivial) z (by kernel_rfl)
 ·obtain ⟨r5,br5,h⟩:=bnd h
  obtain rfl:=lf h
  have z:=p4 <| sg 4 c3 <| sv (qaj p) <| sb (qpH ) (qpL ) <| sca (qgm br5) <| en (aI (rP (.bool r5)) <| trivial)
  exact cvZ A44 Tryz.call44 Tryz.func44 (c:=b44) rfl (aI (qab p) trivial) z (by kernel_rfl)
noncomputable def b48:Code:=Tryz.f48.body.getD .skip
def A48:List Nat:=[]
def qpT (a:tPred) (a2:tPred):Option (Bool) :=
 (qlm a).bind fun r1 =>
 if r1 = true then
  (qlm a2).bind fun r4 =>
  if r4 = true then
   some true
  else
   (qgg a a2).bind fun r7 =>
   some r7
 else
  (qgg a a2).bind fun r8 =>
  some r8
theorem qxk {a:tPred} {a2:tPred} {r:Bool} (h:qpT a a2 = some r):CC Pg GE 48 [.agg (qaa a),.agg (qaa a2)] (.bool r) []:=by
 obtain ⟨r1,br1,h⟩:=bnd h
 have p3:=fun {sc F} (r:PS sc F) => se (qaE a) <| se (qaE a2) <| sv (qaj a) <| sca (qkh br1) <| r
 rcases ifs h with ⟨c2,h⟩ | ⟨c2,h⟩
 ·obtain ⟨r4,br4,h⟩:=bnd h
  have p6:=fun {sc F} (r:PS sc F) => p3 <| sg 3 c2 <| sv (qaj a2) <| sca (qkh br4) <| r
  rcases ifs h with ⟨c5,h⟩ | ⟨c5,h⟩
  ·obtain rfl:=lf h
   have z:=p6 <| sg 7 c5 <| en (aI (rP (.bool true)) <| trivial)
   exact cvZ A48 Tryz.call48 Tryz.func48 (c:=b48) rfl (aI (qab a) (aI (qab a2) trivial)) z (by kernel_rfl)
  ·obtain ⟨r7,br7,h⟩:=bnd h
   obtain rfl:=lf h
   have z:=p6 <| sg 7 c5 <| sv (qaj a) <| sv (qaj a2) <| sca (qgm br7) <| en (aI (rP (.bool r7)) <| trivial)
   exact cvZ A48 Tryz.call48 Tryz.func48 (c:=b48) rfl (aI (qab a) (aI (qab a2) trivial)) z (by kernel_rfl)
 ·obtain ⟨r8,br8,h⟩:=bnd h
  obtain rfl:=lf h
  have z:=p3 <| sg 3 c2 <| sv (qaj a) <| sv (qaj a2) <| sca (qgm br8) <| en (aI (rP (.bool r8)) <| trivial)
  exact cvZ A48 Tryz.call48 Tryz.func48 (c:=b48) rfl (aI (qab a) (aI (qab a2) trivial)) z (by kernel_rfl)
noncomputable def b15:Code:=Tryz.f15.body.getD .skip
def A15:List Nat:=[58,77]
section
variable (v:tType) (v2:tType)
def qBE:PSt:=stt 91 [(2,.eptr (qac v)),(3,.eptr (qac v2))] [.dead,.dead] []
def qd0 (o:Bool):PSt:=stt 91 [(2,.eptr (qac v)),(3,.eptr (qac v2)),(52,.bool o)] [.dead,.dead] []
def qrx:Option ((Bool)) :=
 if (v.Op != v2.Op) = true then
  some true
 else
  if (!(v.Name == v2.Name)) = true then
   some true
  else
   if ((v.Args.length:Int) != (v2.Args.length:Int)) = true then
    some true
   else
    if ((v.Preds.length:Int) != (v2.Preds.length:Int)) = true then
     some true
    else
     (qww v.Names v2.Names).bind fun r9 =>
     if (!r9) = true then
      some true
     else
      (qpT v.Pred v2.Pred).bind fun r12 =>
      some (!r12)
theorem qyw {x:(Bool)} (h:qrx v v2 = some x) :
  Sat Pg GE 0 (cA b15 12) (EX .normal (qd0 v v2 x)) (qBE v v2):=by
 have p2:=fun {sc F} (r:PS sc F) => sv (qam v) <| sv (qal v) <| sv (qam v2) <| sv (qal v2) <| r
 rcases ifs h with ⟨c1,h⟩ | ⟨c1,h⟩
 ·obtain rfl:=lf h
  have z:=p2 <| sg 6 c1 <| eF .normal (qd0 v v2 true)
  exact pcZ A15 z (by kernel_rfl)
 ·have p4:=fun {sc F} (r:PS sc F) => p2 <| sg 6 c1 <| sv (qbs v) <| sv (qbC v) <| sv (qbs v2) <| sv (qbC v2) <| r
  rcases ifs h with ⟨c3,h⟩ | ⟨c3,h⟩
  ·obtain rfl:=lf h
   have z:=p4 <| sg 13 c3 <| eF .normal (qd0 v v2 true)
   exact pcZ A15 z (by kernel_rfl)
  ·have p6:=fun {sc F} (r:PS sc F) => p4 <| sg 13 c3 <| sv (qaq v) <| sv (qap v) <| svn (sT27.ln v.Args) <| sv (qaq v2) <| sv (qap v2) <| svn (sT27.ln v2.Args) <| r
   rcases ifs h with ⟨c5,h⟩ | ⟨c5,h⟩
   ·obtain rfl:=lf h
    have z:=p6 <| sg 22 c5 <| eF .normal (qd0 v v2 true)
    exact pcZ A15 z (by kernel_rfl)
   ·have p8:=fun {sc F} (r:PS sc F) => p6 <| sg 22 c5 <| sv (qaQ v) <| sv (qaP v) <| svn (sT29.ln v.Preds) <| sv (qaQ v2) <| sv (qaP v2) <| svn (sT29.ln v2.Preds) <| r
    rcases ifs h with ⟨c7,h⟩ | ⟨c7,h⟩
    ·obtain rfl:=lf h
     have z:=p8 <| sg 31 c7 <| eF .normal (qd0 v v2 true)
     exact pcZ A15 z (by kernel_rfl)
    ·obtain ⟨r9,br9,h⟩:=bnd h
     have p11:=fun {sc F} (r:PS sc F) => p8 <| sg 31 c7 <| sv (qaz v) <| sv (qay v) <| sv (qaz v2) <| sv (qay v2) <| sca (qDP br9) <| r
     rcases ifs h with ⟨c10,h⟩ | ⟨c10,h⟩
     ·obtain rfl:=lf h
      have z:=p11 <| sg 39 c10 <| eF .normal (qd0 v v2 true)
      exact pcZ A15 z (by kernel_rfl)
     ·obtain ⟨r12,br12,h⟩:=bnd h
      obtain rfl:=lf h
      have z:=p11 <| sg 39 c10 <| sv (qbg v) <| sv (qba v) <| sv (qbg v2) <| sv (qba v2) <| sca (qxk br12) <| eF .normal (qd0 v v2 (!r12))
      exact pcZ A15 z (by kernel_rfl)
end
section
variable (v:tType) (v2:tType) (t55:Int) (t56:Int)
def qhc:PSt:=stt 91 [(2,.eptr (qac v)),(3,.eptr (qac v2)),(55,.int .i64 t55),(56,.int .i64 t56)] [.dead,.dead] []
def qg4 (o:(Unit)⊕(Unit)):Exit:=match o with
 | (.inl _) => .ret
 | (.inr _) => .exit 0
def qd5 (o:(Unit)⊕(Unit)):PSt:=match o with
 | (.inl o) => stt 91 [(4,.bool false)] [.dead,.dead] []
 | (.inr o) => stt 91 [(2,.eptr (qac v)),(3,.eptr (qac v2))] [.dead,.dead] []
def qmE:Option ((Int)⊕((Unit)⊕(Unit))) :=
 if (decide (t56 < t55)) = true then
  (idx v.Preds t56).bind fun x17 =>
  (idx v2.Preds t56).bind fun x18 =>
  (qpT x17 x18).bind fun r19 =>
  if (!r19) = true then
   some (.inr (.inl ()))
  else
   some (.inl (w64 (t56 + 1)))
 else
  some (.inr (.inr ()))
def qri:Option ((Unit)⊕(Unit)):=loop (fun (zz:Int) => qmE v v2 t55 zz) t56
theorem qxz {y:(Int)⊕((Unit)⊕(Unit))} (h:qmE v v2 t55 t56 = some y) :
  Sat Pg GE 0 (cA b15 119) (LQ (fun (zz:Int) => qhc v v2 t55 zz) qg4 (qd5 v v2) y) (qhc v v2 t55 t56):=by
 rcases ifs h with ⟨c16,h⟩ | ⟨c16,h⟩
 ·obtain ⟨x17,bx17,h⟩:=bnd h
  obtain ⟨x18,bx18,h⟩:=bnd h
  obtain ⟨r19,br19,h⟩:=bnd h
  have p21:=fun {sc F} (r:PS sc F) => sg 0 c16 <| sdr [0,1,0,7,15,0,32,0,224,480,1023,2047] <| sv (qaQ v) <| sv (qaP v) <| sv (sT29.ia (k := .i64) bx17) <| sv (qaj x17) <| sv (qaQ v2) <| sv (qaP v2) <| sv (sT29.ia (k := .i64) bx18) <| sv (qaj x18) <| sca (qxk br19) <| r
  rcases ifs h with ⟨c20,h⟩ | ⟨c20,h⟩
  ·obtain rfl:=lf h
   have z:=p21 <| sg 0 c20 <| eF (qg4 (.inl ())) (qd5 v v2 (.inl ()))
   exact ovZ A15 (by intro hx; cases hx) z (by kernel_rfl)
  ·obtain rfl:=lf h
   have z:=p21 <| sg 0 c20 <| eF .normal (qhc v v2 t55 (w64 (t56 + 1)))
   exact nxZ A15 z (by kernel_rfl)
 ·obtain rfl:=lf h
  have z:=sg 0 c16 <| eF (qg4 (.inr ())) (qd5 v v2 (.inr ()))
  exact ovZ A15 (by intro hx; cases hx) z (by kernel_rfl)
theorem qlG {x:(Unit)⊕(Unit)} (h:qri v v2 t55 t56 = some x) :
  Sat Pg GE 0 (.loop (cA b15 119)) (EX (qg4 x) (qd5 v v2 x)) (qhc v v2 t55 t56) :=
 Sat.loop (S:=fun (zz:Int) => qhc v v2 t55 zz) (ex:=qg4) (s:=t56) h fun zz y hy => qxz v v2 t55 zz hy
end
section
variable (R65:qpB) (v:tType) (v2:tType) (t74:Int) (t75:Int)
def qgV:PSt:=stt 91 [(2,.eptr (qac v)),(3,.eptr (qac v2)),(74,.int .i64 t74),(75,.int .i64 t75)] [.dead,.dead] []
def qhi (o:(Unit)⊕(Unit)):Exit:=match o with
 | (.inl _) => .ret
 | (.inr _) => .exit 2
def qfc (o:(Unit)⊕(Unit)):PSt:=match o with
 | (.inl o) => stt 91 [(4,.bool false)] [.dead,.dead] []
 | (.inr o) => stt 91 [] [.dead,.dead] []
def qnF:Option ((Int)⊕((Unit)⊕(Unit))) :=
 if (decide (t75 < t74)) = true then
  (idx v.Args t75).bind fun x24 =>
  (idx v2.Args t75).bind fun x25 =>
  (R65 x24 x25).bind fun r26 =>
  if (!r26) = true then
   some (.inr (.inl ()))
  else
   some (.inl (w64 (t75 + 1)))
 else
  some (.inr (.inr ()))
def qrW:Option ((Unit)⊕(Unit)):=loop (fun (zz:Int) => qnF R65 v v2 t74 zz) t75
theorem qxw (hR65:quK R65) {y:(Int)⊕((Unit)⊕(Unit))} (h:qnF R65 v v2 t74 t75 = some y) :
  Sat Pg GE 0 (cA b15 247) (LQ (fun (zz:Int) => qgV v v2 t74 zz) qhi (qfc) y) (qgV v v2 t74 t75):=by
 rcases ifs h with ⟨c23,h⟩ | ⟨c23,h⟩
 ·obtain ⟨x24,bx24,h⟩:=bnd h
  obtain ⟨x25,bx25,h⟩:=bnd h
  obtain ⟨r26,br26,h⟩:=bnd h
  have p28:=fun {sc F} (r:PS sc F) => sg 0 c23 <| sdr [0,1,0,7,15,0,32,0,224,480,1023,2047] <| sv (qaq v) <| sv (qap v) <| sv (sT27.ia (k := .i64) bx24) <| sv (qaN x24) <| sv (qaq v2) <| sv (qap v2) <| sv (sT27.ia (k := .i64) bx25) <| sv (qaN x25) <| sca (hR65 _ _ _ br26) <| r
  rcases ifs h with ⟨c27,h⟩ | ⟨c27,h⟩
  ·obtain rfl:=lf h
   have z:=p28 <| sg 0 c27 <| eF (qhi (.inl ())) (qfc (.inl ()))
   exact ovZ A15 (by intro hx; cases hx) z (by kernel_rfl)
  ·obtain rfl:=lf h
   have z:=p28 <| sg 0 c27 <| eF .normal (qgV v v2 t74 (w64 (t75 + 1)))
   exact nxZ A15 z (by kernel_rfl)
 ·obtain rfl:=lf h
  have z:=sg 0 c23 <| eF (qhi (.inr ())) (qfc (.inr ()))
  exact ovZ A15 (by intro hx; cases hx) z (by kernel_rfl)
theorem qqU (hR65:quK R65) {x:(Unit)⊕(Unit)} (h:qrW R65 v v2 t74 t75 = some x) :
  Sat Pg GE 0 (.loop (cA b15 247)) (EX (qhi x) (qfc x)) (qgV v v2 t74 t75) :=
 Sat.loop (S:=fun (zz:Int) => qgV v v2 t74 zz) (ex:=qhi) (s:=t75) h fun zz y hy => qxw R65 v v2 t74 zz hR65 hy
end
def qpz (R65:qpB) (a:tType) (a2:tType):Option (Bool) :=
 (qrx a a2).bind fun o13 =>
 if o13 = true then
  some false
 else
  (qri a a2 (a.Preds.length:Int) 0).bind fun o22 => match o22 with
  | (.inl o22) =>
   some false
  | (.inr o22) =>
   (qrW R65 a a2 (a.Args.length:Int) 0).bind fun o29 => match o29 with
   | (.inl o29) =>
    some false
   | (.inr o29) =>
    some true
theorem qDe (R65:qpB) (hR65:quK R65) {a:tType} {a2:tType} {r:Bool} (h:qpz R65 a a2 = some r):CC Pg GE 15 [.agg (qac a),.agg (qac a2)] (.bool r) []:=by
 obtain ⟨o13,bo13,h⟩:=bnd h
 have p15:=fun {sc F} (r:PS sc F) => se (qbj a) <| se (qbj a2) <| spa 1 <| spc (qyw a a2 bo13) <| r
 rcases ifs h with ⟨c14,h⟩ | ⟨c14,h⟩
 ·obtain rfl:=lf h
  have z:=p15 <| sg 0 c14 <| en (aI (rP (.bool false)) <| trivial)
  exact cvZ A15 Tryz.call15 Tryz.func15 (c:=b15) rfl (aI (qaf a) (aI (qaf a2) trivial)) z (by kernel_rfl)
 ·obtain ⟨o22,bo22,h⟩:=bnd h
  rcases o22 with o22 | o22
  ·obtain rfl:=lf h
   have z:=p15 <| sg 0 c14 <| sv (qaQ a) <| sv (qaP a) <| svn (sT29.ln a.Preds) <| spc (e := .ret) (s1:=qd5 a a2 (.inl o22)) (qlG a a2 (a.Preds.length:Int) 0 bo22) <| en (aI (rP (.bool false)) <| trivial)
   exact cvZ A15 Tryz.call15 Tryz.func15 (c:=b15) rfl (aI (qaf a) (aI (qaf a2) trivial)) z (by kernel_rfl)
  ·obtain ⟨o29,bo29,h⟩:=bnd h
   rcases o29 with o29 | o29
   ·obtain rfl:=lf h
    have z:=p15 <| sg 0 c14 <| sv (qaQ a) <| sv (qaP a) <| svn (sT29.ln a.Preds) <| spc (e := .exit 0) (s1:=qd5 a a2 (.inr o22)) (qlG a a2 (a.Preds.length:Int) 0 bo22) <| sv (qaq a) <| sv (qap a) <| svn (sT27.ln a.Args) <| spc (e := .ret) (s1:=qfc (.inl o29)) (qqU R65 a a2 (a.Args.length:Int) 0 hR65 bo29) <| en (aI (rP (.bool false)) <| trivial)
    exact cvZ A15 Tryz.call15 Tryz.func15 (c:=b15) rfl (aI (qaf a) (aI (qaf a2) trivial)) z (by kernel_rfl)
   ·obtain rfl:=lf h
    have z:=p15 <| sg 0 c14 <| sv (qaQ a) <| sv (qaP a) <| svn (sT29.ln a.Preds) <| spc (e := .exit 0) (s1:=qd5 a a2 (.inr o22)) (qlG a a2 (a.Preds.length:Int) 0 bo22) <| sv (qaq a) <| sv (qap a) <| svn (sT27.ln a.Args) <| spc (e := .exit 2) (s1:=qfc (.inr o29)) (qqU R65 a a2 (a.Args.length:Int) 0 hR65 bo29) <| en (aI (rP (.bool true)) <| trivial)
    exact cvZ A15 Tryz.call15 Tryz.func15 (c:=b15) rfl (aI (qaf a) (aI (qaf a2) trivial)) z (by kernel_rfl)
def quH:((tType×tType)→Option (Bool))→(tType×tType)→Option (Bool):=fun (rec:(tType×tType)→Option (Bool)) (x:tType×tType) => qpz (fun a a2 => rec (a,a2)) x.1 x.2
def qlc (a:tType) (a2:tType):Option (Bool):=fixE (quH) (a,a2)
theorem qku {a:tType} {a2:tType} {r:Bool} (h:qlc a a2 = some r):CC Pg GE 15 [.agg (qac a),.agg (qac a2)] (.bool r) [] :=
 qbo (F:=quH) (M:=fun (x:tType×tType) (r:Bool) => CC Pg GE 15 [.agg (qac x.1),.agg (qac x.2)] (.bool r) []) (fun rec hrec x r h => qDe _ (fun a a2 r h => hrec (a,a2) r h) h) h
abbrev qoL:=(tPred→Option (waA))
abbrev qDd (R:qoL):Prop := ∀ (p:tPred) (r:waA),R p = some r→CC Pg GE 68 [.agg (qaa p)] (sl qaa r) [(0,31)]
noncomputable def b109:Code:=Tryz.f109.body.getD .skip
def A109:List Nat:=[]
def qgO (is:Bool):Option (tPred) :=
 if is = true then
  some (⟨2,([]:Str),1,([]:List tPred)⟩:tPred)
 else
  some (⟨2,([]:Str),0,([]:List tPred)⟩:tPred)
theorem qeh {is:Bool} {r:tPred} (h:qgO is = some r):CC Pg GE 109 [.bool is] (.agg (qaa r)) [(3,31)]:=by
 rcases ifs h with ⟨c1,h⟩ | ⟨c1,h⟩
 ·obtain rfl:=lf h
  have z:=sx pz31 <| sg 0 c1 <| sb (qoa 2 1) (qo6 2 1) <| sy (qao (⟨2,([]:Str),1,([]:List tPred)⟩:tPred)) <| en (aI (qaT (⟨2,([]:Str),1,([]:List tPred)⟩:tPred)) <| aI (qab (⟨2,([]:Str),1,([]:List tPred)⟩:tPred)) <| rT)
  exact cvZ A109 Tryz.call109 Tryz.func109 (c:=b109) rfl (aI trivial trivial) z (by kernel_rfl)
 ·obtain rfl:=lf h
  have z:=sx pz31 <| sg 0 c1 <| sb (qzN 2) (qzn 2) <| sy (qao (⟨2,([]:Str),0,([]:List tPred)⟩:tPred)) <| en (aI (qaT (⟨2,([]:Str),0,([]:List tPred)⟩:tPred)) <| aI (qab (⟨2,([]:Str),0,([]:List tPred)⟩:tPred)) <| rT)
  exact cvZ A109 Tryz.call109 Tryz.func109 (c:=b109) rfl (aI trivial trivial) z (by kernel_rfl)
noncomputable def b104:Code:=Tryz.f104.body.getD .skip
def A104:List Nat:=[]
def qxi (p:tPred):Option (Bool) :=
 (qmh p (⟨0,([]:Str),0,([]:List tPred)⟩:tPred)).bind fun r1 =>
 if r1 = true then
  some true
 else
  (qgO true).bind fun r4 =>
  (qmh p r4).bind fun r5 =>
  some r5
theorem qvj {p:tPred} {r:Bool} (h:qxi p = some r):CC Pg GE 104 [.agg (qaa p)] (.bool r) []:=by
 obtain ⟨r1,br1,h⟩:=bnd h
 have p3:=fun {sc F} (r:PS sc F) => se (qaE p) <| sdr [0,0,3,7,15,15,63,127,255] <| sv (qaj p) <| sb (qpH ) (qpL ) <| sca (qi1 br1) <| r
 rcases ifs h with ⟨c2,h⟩ | ⟨c2,h⟩
 ·obtain rfl:=lf h
  have z:=p3 <| sg 4 c2 <| en (aI (rP (.bool true)) <| trivial)
  exact cvZ A104 Tryz.call104 Tryz.func104 (c:=b104) rfl (aI (qab p) trivial) z (by kernel_rfl)
 ·obtain ⟨r4,br4,h⟩:=bnd h
  obtain ⟨r5,br5,h⟩:=bnd h
  obtain rfl:=lf h
  have z:=p3 <| sg 4 c2 <| sv (qaj p) <| sca (qeh br4) <| sca (qi1 br5) <| en (aI (rP (.bool r5)) <| trivial)
  exact cvZ A104 Tryz.call104 Tryz.func104 (c:=b104) rfl (aI (qab p) trivial) z (by kernel_rfl)
noncomputable def b68:Code:=Tryz.f68.body.getD .skip
def A68:List Nat:=[]
section
variable (p:tPred)
def qxL:PSt:=stt 28 [(1,.eptr (qaa p))] [.dead] []
def qkC (o:Bool):PSt:=stt 28 [(1,.eptr (qaa p)),(11,.bool o)] [.dead] []
def qty:Option ((Bool)) :=
 if (p.Op == 15) = true then
  some ((p.Kids.length:Int) == 2)
 else
  some false
theorem qvZ {x:(Bool)} (h:qty p = some x) :
  Sat Pg GE 0 (cA b68 12) (EX .normal (qkC p x)) (qxL p):=by
 have p2:=fun {sc F} (r:PS sc F) => sv (qaw p) <| sv (qau p) <| r
 rcases ifs h with ⟨c1,h⟩ | ⟨c1,h⟩
 ·obtain rfl:=lf h
  have z:=p2 <| sg 4 c1 <| sv (qat p) <| sv (qav p) <| svn (sT29.ln p.Kids) <| eF .normal (qkC p ((p.Kids.length:Int) == 2))
  exact pcZ A68 z (by kernel_rfl)
 ·obtain rfl:=lf h
  have z:=p2 <| sg 4 c1 <| eF .normal (qkC p false)
  exact pcZ A68 z (by kernel_rfl)
end
def qvD (R72:qoL) (p:tPred):Option (waA) :=
 (qty p).bind fun o3 =>
 if o3 = true then
  (idx p.Kids 0).bind fun x6 =>
  (R72 x6).bind fun r7 =>
  (idx p.Kids 1).bind fun x8 =>
  (R72 x8).bind fun r9 =>
  (app r7 r9).bind fun l10 =>
  some l10
 else
  (qxi p).bind fun r11 =>
  if r11 = true then
   some ([]:List tPred)
  else
   (qgr p).bind fun r14 =>
   some ([r14]:List tPred)
theorem qyB (R72:qoL) (hR72:qDd R72) {p:tPred} {r:waA} (h:qvD R72 p = some r):CC Pg GE 68 [.agg (qaa p)] (sl qaa r) [(0,31)]:=by
 obtain ⟨o3,bo3,h⟩:=bnd h
 have p5:=fun {sc F} (r:PS sc F) => se (qaE p) <| spa 1 <| spc (qvZ p bo3) <| r
 rcases ifs h with ⟨c4,h⟩ | ⟨c4,h⟩
 ·obtain ⟨x6,bx6,h⟩:=bnd h
  obtain ⟨r7,br7,h⟩:=bnd h
  obtain ⟨x8,bx8,h⟩:=bnd h
  obtain ⟨r9,br9,h⟩:=bnd h
  obtain ⟨l10,bl10,h⟩:=bnd h
  obtain rfl:=lf h
  have z:=p5 <| sg 0 c4 <| sdr [0,1,3,7,15,0,32,96,224,511,1023,2047] <| sv (qat p) <| sv (qav p) <| sv (sT29.ia (k := .i64) bx6) <| sv (qaj x6) <| sca (hR72 _ _ br7) <| sv (qat p) <| sv (qav p) <| sv (sT29.ia (k := .i64) bx8) <| sv (qaj x8) <| sca (hR72 _ _ br9) <| sv (sT29.ap bl10) <| en (aI (rP (sl qaa l10)) <| (qad qab l10))
  exact cvZ A68 Tryz.call68 Tryz.func68 (c:=b68) rfl (aI (qab p) trivial) z (by kernel_rfl)
 ·obtain ⟨r11,br11,h⟩:=bnd h
  have p13:=fun {sc F} (r:PS sc F) => p5 <| sg 0 c4 <| sv (qaj p) <| sca (qvj br11) <| r
  rcases ifs h with ⟨c12,h⟩ | ⟨c12,h⟩
  ·obtain rfl:=lf h
   have z:=p13 <| sg 0 c12 <| en (aI (rP (sl qaa ([]:List tPred))) <| (qad qab ([]:List tPred)))
   exact cvZ A68 Tryz.call68 Tryz.func68 (c:=b68) rfl (aI (qab p) trivial) z (by kernel_rfl)
  ·obtain ⟨r14,br14,h⟩:=bnd h
   obtain rfl:=lf h
   have z:=p13 <| sg 0 c12 <| sv (qaj p) <| sca (qf2 br14) <| sv (sT29.mk' (v:=qbk) qaL ([r14]:List tPred) 1 (by kernel_rfl)) <| en (aI (rP (sl qaa ([r14]:List tPred))) <| (qad qab ([r14]:List tPred)))
   exact cvZ A68 Tryz.call68 Tryz.func68 (c:=b68) rfl (aI (qab p) trivial) z (by kernel_rfl)
def qvq:((tPred)→Option (waA))→(tPred)→Option (waA):=fun (rec:tPred→Option (waA)) (x:tPred) => qvD (fun p => rec p) x
def qzR (p:tPred):Option (waA):=fixE (qvq) p
theorem qz1 {p:tPred} {r:waA} (h:qzR p = some r):CC Pg GE 68 [.agg (qaa p)] (sl qaa r) [(0,31)] :=
 qbo (F:=qvq) (M:=fun (x:tPred) (r:waA) => CC Pg GE 68 [.agg (qaa x)] (sl qaa r) [(0,31)]) (fun rec hrec x r h => qyB _ (fun p r h => hrec p r h) h) h
abbrev qkV:=(tPred→Int→waA→Option (waA))
abbrev qoN (R:qkV):Prop := ∀ (p:tPred) (op:Int) (a:waA) (r:waA),R p op a = some r→C Pg GE 107 [.agg (qaa p),.int .i64 op,sl qaa a] [((2,0),31)] [] (sl qaa r) [(0,31)] []
noncomputable def b129:Code:=Tryz.f129.body.getD .skip
def A129:List Nat:=[]
section
variable (v:tPred) (t9:waA) (t10:Int) (t11:Int)
def qhg:PSt:=stt 20 [(2,.func (.func 101) [] []),(4,.eptr (qaa v)),(9,sl qaa t9),(10,.int .i64 t10),(11,.int .i64 t11)] [.dead] []
def qhe (o:(Unit)⊕(Unit)):Exit:=match o with
 | (.inl _) => .ret
 | (.inr _) => .exit 0
def qfa (o:(Unit)⊕(Unit)):PSt:=match o with
 | (.inl o) => stt 20 [(6,.bool true)] [.dead] []
 | (.inr o) => stt 20 [] [.dead] []
def qs4:Option ((Int)⊕((Unit)⊕(Unit))) :=
 if (decide (t11 < t10)) = true then
  (idx t9 t11).bind fun x2 =>
  (qmh v x2).bind fun r3 =>
  if r3 = true then
   some (.inr (.inl ()))
  else
   some (.inl (w64 (t11 + 1)))
 else
  some (.inr (.inr ()))
def qyb:Option ((Unit)⊕(Unit)):=loop (fun (zz:Int) => qs4 v t9 t10 zz) t11
theorem qwK {y:(Int)⊕((Unit)⊕(Unit))} (h:qs4 v t9 t10 t11 = some y) :
  Sat Pg GE 0 (cA b129 55) (LQ (fun (zz:Int) => qhg v t9 t10 zz) qhe (qfa) y) (qhg v t9 t10 t11):=by
 rcases ifs h with ⟨c1,h⟩ | ⟨c1,h⟩
 ·obtain ⟨x2,bx2,h⟩:=bnd h
  obtain ⟨r3,br3,h⟩:=bnd h
  have p5:=fun {sc F} (r:PS sc F) => sg 0 c1 <| sv (sT29.ia (k := .i64) bx2) <| sv (qaj x2) <| sx pz31 <| sx (qaB x2) <| sv (qaj v) <| sv (qax x2 []) <| sca (qi1 br3) <| r
  rcases ifs h with ⟨c4,h⟩ | ⟨c4,h⟩
  ·obtain rfl:=lf h
   have z:=p5 <| sg 0 c4 <| eFx 0 (qhe (.inl ())) (qfa (.inl ())) rfl (qbn (aI trivial trivial)) (aI trivial trivial)
   exact qhP (A:=A129) mixed (by intro hx; cases hx) z (by kernel_rfl)
  ·obtain rfl:=lf h
   have z:=p5 <| sg 0 c4 <| eFx 0 .normal (qhg v t9 t10 (w64 (t11 + 1))) rfl (qbn (aI (aI trivial trivial) (aI (qbw (qab v)) (aI (up (qad qab t9)) (aI trivial (aI trivial trivial)))))) (aI trivial trivial)
   exact qa5 (A:=A129) mixed z (by kernel_rfl)
 ·obtain rfl:=lf h
  have z:=sg 0 c1 <| eF (qhe (.inr ())) (qfa (.inr ()))
  exact ovZ A129 (by intro hx; cases hx) z (by kernel_rfl)
theorem qqV {x:(Unit)⊕(Unit)} (h:qyb v t9 t10 t11 = some x) :
  Sat Pg GE 0 (.loop (cA b129 55)) (EX (qhe x) (qfa x)) (qhg v t9 t10 t11) :=
 Sat.loop (S:=fun (zz:Int) => qhg v t9 t10 zz) (ex:=qhe) (s:=t11) h fun zz y hy => qwK v t9 t10 zz hy
end
def qEZ (a:waA) (a2:tPred):Option (Bool) :=
 (qyb a2 a (a.length:Int) 0).bind fun o6 => match o6 with
 | (.inl o6) =>
  some true
 | (.inr o6) =>
  some false
theorem qDX {a:waA} {a2:tPred} {r:Bool} (h:qEZ a a2 = some r):CC Pg GE 129 [sl qaa a,.agg (qaa a2),.func (.func 101) [] []] (.bool r) []:=by
 obtain ⟨o6,bo6,h⟩:=bnd h
 rcases o6 with o6 | o6
 ·obtain rfl:=lf h
  have z:=se (qaE a2) <| svn (sT29.ln a) <| spc (e := .ret) (s1:=qfa (.inl o6)) (qqV a2 a (a.length:Int) 0 bo6) <| en (aI (rP (.bool true)) <| trivial)
  exact cvZ A129 Tryz.call129 Tryz.func129 (c:=b129) rfl (aI (qad qab a) (aI (qab a2) (aI (aI trivial trivial) trivial))) z (by kernel_rfl)
 ·obtain rfl:=lf h
  have z:=se (qaE a2) <| svn (sT29.ln a) <| spc (e := .exit 0) (s1:=qfa (.inr o6)) (qqV a2 a (a.length:Int) 0 bo6) <| en (aI (rP (.bool false)) <| trivial)
  exact cvZ A129 Tryz.call129 Tryz.func129 (c:=b129) rfl (aI (qad qab a) (aI (qab a2) (aI (aI trivial trivial) trivial))) z (by kernel_rfl)
noncomputable def b107:Code:=Tryz.f107.body.getD .skip
def A107:List Nat:=[18,31,36]
section
variable (R76:qkV) (op:Int) (p:tPred) (t10:waA) (t11:Int) (v:waA) (t12:Int)
def qeV:PSt:=stt 37 [(1,.int .i64 op),(2,sl qaa v),(3,.eptr (qaa p)),(10,sl qaa t10),(11,.int .i64 t11),(12,.int .i64 t12)] [.dead] [((2,0),31)]
def qkF (o:waA):PSt:=stt 37 [(1,.int .i64 op),(2,sl qaa o),(3,.eptr (qaa p))] [.dead] [((2,0),31)]
def qpp:Option ((waA×Int)⊕((waA))) :=
 if (decide (t12 < t11)) = true then
  (idx t10 t12).bind fun x2 =>
  (R76 x2 op v).bind fun r3 =>
  some (.inl (r3,w64 (t12 + 1)))
 else
  some (.inr v)
def qsX:Option ((waA)):=loop (fun (zz:waA×Int) => qpp R76 op t10 t11 zz.1 zz.2) (v,t12)
theorem qum (hR76:qoN R76) {y:(waA×Int)⊕((waA))} (h:qpp R76 op t10 t11 v t12 = some y) :
  Sat Pg GE 1000 (cA b107 55) (LQ (fun (zz:waA×Int) => qeV op p t10 t11 zz.1 zz.2) (fun _ => .exit 0) (qkF op p) y) (qeV op p t10 t11 v t12):=by
 rcases ifs h with ⟨c1,h⟩ | ⟨c1,h⟩
 ·obtain ⟨x2,bx2,h⟩:=bnd h
  obtain ⟨r3,br3,h⟩:=bnd h
  obtain rfl:=lf h
  have z:=sg 0 c1 <| sv (sT29.ia (k := .i64) bx2) <| sv (qaj x2) <| sx pz31 <| sx (qaB x2) <| sv (qax x2 []) <| si (.cg ⟨[],[.agg (qaa x2),.int .i64 op,sl qaa v],[⟨2,18,0,31⟩],[],[],[],[],sl qaa r3,sl qaa r3,[(0,31)]⟩) (hR76 _ _ _ _ br3) <| sf (aI (xR [] (.agg (qaa x2)) (qab x2)) (aI (xR [] (.int .i64 op) trivial) (aI (xR [] (sl qaa v) (qad qab v)) trivial))) <| sf trivial <| sf trivial <| sf (xR [] (sl qaa r3) (qad qab r3)) <| eFx 1000 .normal (qeV op p t10 t11 r3 (w64 (t12 + 1))) rfl (qbn (aI trivial (aI (up (qad qab r3)) (aI (qbw (qab p)) (aI (up (qad qab t10)) (aI trivial (aI trivial trivial))))))) (aI trivial trivial)
  exact qa5 (A:=A107) mixed z (by kernel_rfl)
 ·obtain rfl:=lf h
  have z:=sg 0 c1 <| eF (.exit 0) (qkF op p v)
  exact ovZ A107 (by intro hx; cases hx) z (by kernel_rfl)
theorem qvS (hR76:qoN R76) {x:(waA)} (h:qsX R76 op t10 t11 v t12 = some x) :
  Sat Pg GE 1000 (.loop (cA b107 55)) (EX (.exit 0) (qkF op p x)) (qeV op p t10 t11 v t12) :=
 Sat.loop (S:=fun (zz:waA×Int) => qeV op p t10 t11 zz.1 zz.2) (ex:=(fun _ => .exit 0)) (s:=(v,t12)) h fun zz y hy => qum R76 op p t10 t11 zz.1 zz.2 hR76 hy
end
section
variable (op:Int) (v:waA) (p:tPred)
def qx9:PSt:=stt 37 [(1,.int .i64 op),(2,sl qaa v),(3,.eptr (qaa p))] [.dead] [((2,0),31)]
def qkj (o:Bool):PSt:=stt 37 [(2,sl qaa v),(3,.eptr (qaa p)),(30,.bool o)] [.dead] [((2,0),31)]
def qt4:Option ((Bool)) :=
 if (p.Op == op) = true then
  (qEZ v p).bind fun r7 =>
  some (!r7)
 else
  some false
theorem qvR {x:(Bool)} (h:qt4 op v p = some x) :
  Sat Pg GE 1000 (cA b107 28) (EX .normal (qkj v p x)) (qx9 op v p):=by
 have p6:=fun {sc F} (r:PS sc F) => sv (qaw p) <| sv (qau p) <| r
 rcases ifs h with ⟨c5,h⟩ | ⟨c5,h⟩
 ·obtain ⟨r7,br7,h⟩:=bnd h
  obtain rfl:=lf h
  have z:=p6 <| sg 5 c5 <| sv (qaj p) <| sca (qDX br7) <| eF .normal (qkj v p (!r7))
  exact pcZ A107 z (by kernel_rfl)
 ·obtain rfl:=lf h
  have z:=p6 <| sg 5 c5 <| eF .normal (qkj v p false)
  exact pcZ A107 z (by kernel_rfl)
end
def qvN (R76:qkV) (p:tPred) (op:Int) (a:waA):Option (waA) :=
 (qsX R76 op p.Kids (p.Kids.length:Int) a 0).bind fun o4 =>
 (qt4 op o4 p).bind fun o8 =>
 if o8 = true then
  (qgr p).bind fun r11 =>
  (app o4 ([r11]:List tPred)).bind fun l12 =>
  some l12
 else
  some o4
theorem qyr (R76:qkV) (hR76:qoN R76) {p:tPred} {op:Int} {a:waA} {r:waA} (h:qvN R76 p op a = some r):C Pg GE 107 [.agg (qaa p),.int .i64 op,sl qaa a] [((2,0),31)] [] (sl qaa r) [(0,31)] []:=by
 obtain ⟨o4,bo4,h⟩:=bnd h
 obtain ⟨o8,bo8,h⟩:=bnd h
 have p10:=fun {sc F} (r:PS sc F) => se (qaE p) <| sv (qat p) <| sv (qav p) <| svn (sT29.ln p.Kids) <| spc (qvS R76 op p p.Kids (p.Kids.length:Int) a 0 hR76 bo4) <| spa 1 <| spc (qvR op o4 p bo8) <| r
 rcases ifs h with ⟨c9,h⟩ | ⟨c9,h⟩
 ·obtain ⟨r11,br11,h⟩:=bnd h
  obtain ⟨l12,bl12,h⟩:=bnd h
  obtain rfl:=lf h
  have z:=p10 <| sg 0 c9 <| sv (qaj p) <| sca (qf2 br11) <| sv (sT29.mk' (v:=qbk) qaL ([r11]:List tPred) 1 (by kernel_rfl)) <| sv (sT29.ap bl12) <| en (aI (rP (sl qaa l12)) <| aI (up (n:=0) (qad qab l12)) <| aI (rL []) <| trivial)
  exact C.evGp (A:=A107) mixed (m:=1000) (c:=b107) rfl Tryz.call107 Tryz.func107 rfl z (by kernel_rfl)
 ·obtain rfl:=lf h
  have z:=p10 <| sg 0 c9 <| en (aI (rP (sl qaa o4)) <| aI (up (n:=0) (qad qab o4)) <| aI (rL []) <| trivial)
  exact C.evGp (A:=A107) mixed (m:=1000) (c:=b107) rfl Tryz.call107 Tryz.func107 rfl z (by kernel_rfl)
def qvt:((tPred×Int×waA)→Option (waA))→(tPred×Int×waA)→Option (waA):=fun (rec:(tPred×Int×waA)→Option (waA)) (x:tPred×Int×waA) => qvN (fun p op a => rec (p,op,a)) x.1 x.2.1 x.2.2
def qzs (p:tPred) (op:Int) (a:waA):Option (waA):=fixE (qvt) (p,op,a)
theorem qAs {p:tPred} {op:Int} {a:waA} {r:waA} (h:qzs p op a = some r):C Pg GE 107 [.agg (qaa p),.int .i64 op,sl qaa a] [((2,0),31)] [] (sl qaa r) [(0,31)] [] :=
 qbo (F:=qvt) (M:=fun (x:tPred×Int×waA) (r:waA) => C Pg GE 107 [.agg (qaa x.1),.int .i64 x.2.1,sl qaa x.2.2] [((2,0),31)] [] (sl qaa r) [(0,31)] []) (fun rec hrec x r h => qyr _ (fun p op a r h => hrec (p,op,a) r h) h) h
end Go.Proofs.YtgldgpdhblndkaaGreatDoor
