/- WHAT IS PROVED: parts of the proof, put together by a program (G3). Conditions: none. -/
import Derived.Test.YtgldgpdhblndkaaGreatDoorPkF16
noncomputable section
namespace Go.Proofs.YtgldgpdhblndkaaGreatDoor
open Go
set_option linter.unusedVariables false
set_option maxRecDepth 100000
noncomputable def b91:Code:=Tryz.f91.body.getD .skip
def A91:List Nat:=[33,44,61]
section
variable (t:tType) (t18:waA) (t19:Int) (t20:Int) (t25:waB) (t26:Int) (m:Int) (m2:Str) (m3:Int) (m4:waA) (out:waB) (t27:Int)
def qc4:PSt:=stt 69 [(1,.eptr (qac t)),(3,sl cS out),(18,sl qaa t18),(19,.int .i64 t19),(20,.int .i64 t20),(25,sl cS t25),(26,.int .i64 t26),(27,.int .i64 t27)] [.dead,.cells [.int .i64 m,.str m2,.int .i64 m3,sl qaa m4] []] [((25,0),9),((18,0),31),((3,0),9)]
def qik (o:waB):PSt:=stt 69 [(1,.eptr (qac t)),(3,sl cS o),(18,sl qaa t18),(19,.int .i64 t19),(20,.int .i64 t20)] [.dead,.cells [.int .i64 m,.str m2,.int .i64 m3,sl qaa m4] []] [((18,0),31),((3,0),9)]
def ql5:Option ((waB×Int)⊕((waB))) :=
 if (decide (t27 < t26)) = true then
  (idx t25 t27).bind fun x6 =>
  if (!(x6 == ([118]:Str))) = true then
   (app out ([x6]:List Str)).bind fun l9 =>
   some (.inl (l9,w64 (t27 + 1)))
  else
   some (.inl (out,w64 (t27 + 1)))
 else
  some (.inr out)
def qeR:Option ((waB)):=loop (fun (zz:waB×Int) => ql5 t25 t26 zz.1 zz.2) (out,t27)
theorem qrt {y:(waB×Int)⊕((waB))} (h:ql5 t25 t26 out t27 = some y) :
  Sat Pg GE 0 (cA b91 30687) (LQ (fun (zz:waB×Int) => qc4 t t18 t19 t20 t25 t26 m m2 m3 m4 zz.1 zz.2) (fun _ => .exit 2) (qik t t18 t19 t20 m m2 m3 m4) y) (qc4 t t18 t19 t20 t25 t26 m m2 m3 m4 out t27):=by
 rcases ifs h with ⟨c5,h⟩ | ⟨c5,h⟩
 ·obtain ⟨x6,bx6,h⟩:=bnd h
  have p8:=fun {sc F} (r:PS sc F) => sg 0 c5 <| sv (sT22.ia (k := .i64) bx6) <| sv (qa9 sc9 (.str x6) []) <| r
  rcases ifs h with ⟨c7,h⟩ | ⟨c7,h⟩
  ·obtain ⟨l9,bl9,h⟩:=bnd h
   obtain rfl:=lf h
   have z:=p8 <| sg 0 c7 <| sv (sT22.mk' (v:=PVal.str) pcS ([x6]:List Str) 1 (by kernel_rfl)) <| sv (sT22.ap bl9) <| eF .normal (qc4 t t18 t19 t20 t25 t26 m m2 m3 m4 l9 (w64 (t27 + 1)))
   exact nxZ A91 z (by kernel_rfl)
  ·obtain rfl:=lf h
   have z:=p8 <| sg 0 c7 <| eF .normal (qc4 t t18 t19 t20 t25 t26 m m2 m3 m4 out (w64 (t27 + 1)))
   exact nxZ A91 z (by kernel_rfl)
 ·obtain rfl:=lf h
  have z:=sg 0 c5 <| eF (.exit 2) (qik t t18 t19 t20 m m2 m3 m4 out)
  exact ovZ A91 (by intro hx; cases hx) z (by kernel_rfl)
theorem qsP {x:(waB)} (h:qeR t25 t26 out t27 = some x) :
  Sat Pg GE 0 (.loop (cA b91 30687)) (EX (.exit 2) (qik t t18 t19 t20 m m2 m3 m4 x)) (qc4 t t18 t19 t20 t25 t26 m m2 m3 m4 out t27) :=
 Sat.loop (S:=fun (zz:waB×Int) => qc4 t t18 t19 t20 t25 t26 m m2 m3 m4 zz.1 zz.2) (ex:=(fun _ => .exit 2)) (s:=(out,t27)) h fun zz y hy => qrt t t18 t19 t20 t25 t26 m m2 m3 m4 zz.1 zz.2 hy
end
section
variable (t:tType) (t18:waA) (t19:Int) (out:waB) (t20:Int)
def qdN:PSt:=stt 69 [(1,.eptr (qac t)),(3,sl cS out),(18,sl qaa t18),(19,.int .i64 t19),(20,.int .i64 t20)] [.dead] [((18,0),31),((3,0),9)]
def qir (o:waB):PSt:=stt 69 [(1,.eptr (qac t)),(3,sl cS o)] [.dead] [((3,0),9)]
def qlX:Option ((waB×Int)⊕((waB))) :=
 if (decide (t20 < t19)) = true then
  (idx t18 t20).bind fun x3 =>
  (qj6 x3).bind fun r4 =>
  (qeR r4 (r4.length:Int) out 0).bind fun o10 =>
  some (.inl (o10,w64 (t20 + 1)))
 else
  some (.inr out)
def qj5:Option ((waB)):=loop (fun (zz:waB×Int) => qlX t18 t19 zz.1 zz.2) (out,t20)
theorem qrY {y:(waB×Int)⊕((waB))} (h:qlX t18 t19 out t20 = some y) :
  Sat Pg GE 0 (cA b91 119) (LQ (fun (zz:waB×Int) => qdN t t18 t19 zz.1 zz.2) (fun _ => .exit 0) (qir t) y) (qdN t t18 t19 out t20):=by
 rcases ifs h with ⟨c2,h⟩ | ⟨c2,h⟩
 ·obtain ⟨x3,bx3,h⟩:=bnd h
  obtain ⟨r4,br4,h⟩:=bnd h
  obtain ⟨o10,bo10,h⟩:=bnd h
  obtain rfl:=lf h
  have z:=sg 0 c2 <| sv (sT29.ia (k := .i64) bx3) <| sv (qaj x3) <| sx pz31 <| sx (qaB x3) <| sv (qax x3 []) <| sca (qvB br4) <| svn (sT22.ln r4) <| spc (qsP t t18 t19 t20 r4 (r4.length:Int) x3.Op x3.Name x3.N x3.Kids out 0 bo10) <| eFx 0 .normal (qdN t t18 t19 o10 (w64 (t20 + 1))) rfl (qbn (aI (qbw (qaf t)) (aI (up (qad clS o10)) (aI (up (qad qab t18)) (aI trivial (aI trivial trivial)))))) (aI trivial trivial)
  exact qa5 (A:=A91) mixed z (by kernel_rfl)
 ·obtain rfl:=lf h
  have z:=sg 0 c2 <| eF (.exit 0) (qir t out)
  exact ovZ A91 (by intro hx; cases hx) z (by kernel_rfl)
theorem qsQ {x:(waB)} (h:qj5 t18 t19 out t20 = some x) :
  Sat Pg GE 0 (.loop (cA b91 119)) (EX (.exit 0) (qir t x)) (qdN t t18 t19 out t20) :=
 Sat.loop (S:=fun (zz:waB×Int) => qdN t t18 t19 zz.1 zz.2) (ex:=(fun _ => .exit 0)) (s:=(out,t20)) h fun zz y hy => qrY t t18 t19 zz.1 zz.2 hy
end
section
variable (t:tType) (bound:waB) (t40:waC) (t41:Int) (t42:Int) (t51:waB) (t52:Int) (m:Int) (m2:Str) (m3:waC) (m4:waB) (m5:Int) (m6:Str) (m7:Int) (m8:waA) (m9:waA) (out:waB) (t53:Int)
def qc3:PSt:=stt 69 [(1,.eptr (qac t)),(3,sl cS out),(10,sl cS bound),(40,sl qac t40),(41,.int .i64 t41),(42,.int .i64 t42),(51,sl cS t51),(52,.int .i64 t52),(53,.int .i64 t53)] [.dead,.cells [.int .i64 m,.str m2,sl qac m3,sl cS m4,.int .i64 m5,.str m6,.int .i64 m7,sl qaa m8,sl qaa m9] []] [((51,0),9),((3,0),9)]
def qie (o:waB):PSt:=stt 69 [(1,.eptr (qac t)),(3,sl cS o),(40,sl qac t40),(41,.int .i64 t41),(42,.int .i64 t42)] [.dead,.cells [.int .i64 m,.str m2,sl qac m3,sl cS m4,.int .i64 m5,.str m6,.int .i64 m7,sl qaa m8,sl qaa m9] []] [((3,0),9)]
def qms:Option ((waB×Int)⊕((waB))) :=
 if (decide (t53 < t52)) = true then
  (idx t51 t53).bind fun x17 =>
  (qbQ bound x17).bind fun r18 =>
  if (!r18) = true then
   (app out ([x17]:List Str)).bind fun l21 =>
   some (.inl (l21,w64 (t53 + 1)))
  else
   some (.inl (out,w64 (t53 + 1)))
 else
  some (.inr out)
def qe1:Option ((waB)):=loop (fun (zz:waB×Int) => qms bound t51 t52 zz.1 zz.2) (out,t53)
theorem qrN {y:(waB×Int)⊕((waB))} (h:qms bound t51 t52 out t53 = some y) :
  Sat Pg GE 0 (cA b91 126911) (LQ (fun (zz:waB×Int) => qc3 t bound t40 t41 t42 t51 t52 m m2 m3 m4 m5 m6 m7 m8 m9 zz.1 zz.2) (fun _ => .exit 6) (qie t t40 t41 t42 m m2 m3 m4 m5 m6 m7 m8 m9) y) (qc3 t bound t40 t41 t42 t51 t52 m m2 m3 m4 m5 m6 m7 m8 m9 out t53):=by
 rcases ifs h with ⟨c16,h⟩ | ⟨c16,h⟩
 ·obtain ⟨x17,bx17,h⟩:=bnd h
  obtain ⟨r18,br18,h⟩:=bnd h
  have p20:=fun {sc F} (r:PS sc F) => sg 0 c16 <| sv (sT22.ia (k := .i64) bx17) <| sv (qa9 sc9 (.str x17) []) <| sca (qb1 br18) <| r
  rcases ifs h with ⟨c19,h⟩ | ⟨c19,h⟩
  ·obtain ⟨l21,bl21,h⟩:=bnd h
   obtain rfl:=lf h
   have z:=p20 <| sg 0 c19 <| sv (sT22.mk' (v:=PVal.str) pcS ([x17]:List Str) 1 (by kernel_rfl)) <| sv (sT22.ap bl21) <| eF .normal (qc3 t bound t40 t41 t42 t51 t52 m m2 m3 m4 m5 m6 m7 m8 m9 l21 (w64 (t53 + 1)))
   exact nxZ A91 z (by kernel_rfl)
  ·obtain rfl:=lf h
   have z:=p20 <| sg 0 c19 <| eF .normal (qc3 t bound t40 t41 t42 t51 t52 m m2 m3 m4 m5 m6 m7 m8 m9 out (w64 (t53 + 1)))
   exact nxZ A91 z (by kernel_rfl)
 ·obtain rfl:=lf h
  have z:=sg 0 c16 <| eF (.exit 6) (qie t t40 t41 t42 m m2 m3 m4 m5 m6 m7 m8 m9 out)
  exact ovZ A91 (by intro hx; cases hx) z (by kernel_rfl)
theorem qsZ {x:(waB)} (h:qe1 bound t51 t52 out t53 = some x) :
  Sat Pg GE 0 (.loop (cA b91 126911)) (EX (.exit 6) (qie t t40 t41 t42 m m2 m3 m4 m5 m6 m7 m8 m9 x)) (qc3 t bound t40 t41 t42 t51 t52 m m2 m3 m4 m5 m6 m7 m8 m9 out t53) :=
 Sat.loop (S:=fun (zz:waB×Int) => qc3 t bound t40 t41 t42 t51 t52 m m2 m3 m4 m5 m6 m7 m8 m9 zz.1 zz.2) (ex:=(fun _ => .exit 6)) (s:=(out,t53)) h fun zz y hy => qrN t bound t40 t41 t42 t51 t52 m m2 m3 m4 m5 m6 m7 m8 m9 zz.1 zz.2 hy
end
section
variable (R37:qiE) (t:tType) (t40:waC) (t41:Int) (out:waB) (t42:Int)
def qdP:PSt:=stt 69 [(1,.eptr (qac t)),(3,sl cS out),(40,sl qac t40),(41,.int .i64 t41),(42,.int .i64 t42)] [.dead] [((3,0),9)]
def qil (o:waB):PSt:=stt 69 [(3,sl cS o)] [.dead] [((3,0),9)]
def qmr:Option ((waB×Int)⊕((waB))) :=
 if (decide (t42 < t41)) = true then
  (idx t40 t42).bind fun x13 =>
  (qfR t t42).bind fun r14 =>
  (R37 x13).bind fun r15 =>
  (qe1 r14 r15 (r15.length:Int) out 0).bind fun o22 =>
  some (.inl (o22,w64 (t42 + 1)))
 else
  some (.inr out)
def qke:Option ((waB)):=loop (fun (zz:waB×Int) => qmr R37 t t40 t41 zz.1 zz.2) (out,t42)
theorem qsn (hR37:qlO R37) {y:(waB×Int)⊕((waB))} (h:qmr R37 t t40 t41 out t42 = some y) :
  Sat Pg GE 0 (cA b91 247) (LQ (fun (zz:waB×Int) => qdP t t40 t41 zz.1 zz.2) (fun _ => .exit 4) (qil) y) (qdP t t40 t41 out t42):=by
 rcases ifs h with ⟨c12,h⟩ | ⟨c12,h⟩
 ·obtain ⟨x13,bx13,h⟩:=bnd h
  obtain ⟨r14,br14,h⟩:=bnd h
  obtain ⟨r15,br15,h⟩:=bnd h
  obtain ⟨o22,bo22,h⟩:=bnd h
  obtain rfl:=lf h
  have z:=sg 0 c12 <| sv (sT27.ia (k := .i64) bx13) <| sv (qaN x13) <| sx pz33 <| sx (qbI x13) <| sv (qaN t) <| sca (qvd br14) <| sv (qa3 x13 []) <| sca (hR37 _ _ br15) <| svn (sT22.ln r15) <| spc (qsZ t r14 t40 t41 t42 r15 (r15.length:Int) x13.Op x13.Name x13.Args x13.Names x13.Pred.Op x13.Pred.Name x13.Pred.N x13.Pred.Kids x13.Preds out 0 bo22) <| eFx 0 .normal (qdP t t40 t41 o22 (w64 (t42 + 1))) rfl (qbn (aI (qbw (qaf t)) (aI (up (qad clS o22)) (aI (up (qad qaf t40)) (aI trivial (aI trivial trivial)))))) (aI trivial trivial)
  exact qa5 (A:=A91) mixed z (by kernel_rfl)
 ·obtain rfl:=lf h
  have z:=sg 0 c12 <| eF (.exit 4) (qil out)
  exact ovZ A91 (by intro hx; cases hx) z (by kernel_rfl)
theorem qsH (hR37:qlO R37) {x:(waB)} (h:qke R37 t t40 t41 out t42 = some x) :
  Sat Pg GE 0 (.loop (cA b91 247)) (EX (.exit 4) (qil x)) (qdP t t40 t41 out t42) :=
 Sat.loop (S:=fun (zz:waB×Int) => qdP t t40 t41 zz.1 zz.2) (ex:=(fun _ => .exit 4)) (s:=(out,t42)) h fun zz y hy => qsn R37 t t40 t41 zz.1 zz.2 hR37 hy
end
def qiO (R37:qiE) (t:tType):Option (waB) :=
 (app ([t.Pred]:List tPred) t.Preds).bind fun l1 =>
 (qj5 l1 (l1.length:Int) ([]:List Str) 0).bind fun o11 =>
 (qke R37 t t.Args (t.Args.length:Int) o11 0).bind fun o23 =>
 (qiy o23 ([]:List Str)).bind fun r24 =>
 some r24
theorem qv9 (R37:qiE) (hR37:qlO R37) {t:tType} {r:waB} (h:qiO R37 t = some r):CC Pg GE 91 [.agg (qac t)] (sl cS r) [(0,9)]:=by
 obtain ⟨l1,bl1,h⟩:=bnd h
 obtain ⟨o11,bo11,h⟩:=bnd h
 obtain ⟨o23,bo23,h⟩:=bnd h
 obtain ⟨r24,br24,h⟩:=bnd h
 obtain rfl:=lf h
 have z:=se (qbj t) <| sv (qbg t) <| sv (qba t) <| sv (sT29.mk' (v:=qbk) qaL ([t.Pred]:List tPred) 1 (by kernel_rfl)) <| sv (qaQ t) <| sv (qaP t) <| sv (sT29.ap bl1) <| svn (sT29.ln l1) <| spc (qsQ t l1 (l1.length:Int) ([]:List Str) 0 bo11) <| sv (qaq t) <| sv (qap t) <| svn (sT27.ln t.Args) <| spc (qsH R37 t t.Args (t.Args.length:Int) o11 0 hR37 bo23) <| sca (qra br24) <| en (aI (rP (sl cS r24)) <| (qad clS r24))
 exact cvZ A91 Tryz.call91 Tryz.func91 (c:=b91) rfl (aI (qaf t) trivial) z (by kernel_rfl)
def qlE:((tType)→Option (waB))→(tType)→Option (waB):=fun (rec:tType→Option (waB)) (x:tType) => qiO (fun t => rec t) x
def qld (t:tType):Option (waB):=fixE (qlE) t
theorem qoV {t:tType} {r:waB} (h:qld t = some r):CC Pg GE 91 [.agg (qac t)] (sl cS r) [(0,9)] :=
 qbo (F:=qlE) (M:=fun (x:tType) (r:waB) => CC Pg GE 91 [.agg (qac x)] (sl cS r) [(0,9)]) (fun rec hrec x r h => qv9 _ (fun t r h => hrec t r h) h) h
noncomputable def b92:Code:=Tryz.f92.body.getD .skip
def A92:List Nat:=[24,35]
section
variable (base:Str) (t11:waB) (t12:Int) (t13:Int) (m0:(List (Str×Bool)))
def qea:PSt:=stt 36 [(1,.str base),(5,.mapr 0),(11,sl cS t11),(12,.int .i64 t12),(13,.int .i64 t13)] [.map (encM PVal.bool m0)] []
def qjw (o:(List (Str×Bool))):PSt:=stt 36 [(1,.str base),(5,.mapr 0)] [.map (encM PVal.bool o)] []
def qd8:Option ((Int×(List (Str×Bool)))⊕(((List (Str×Bool))))) :=
 if (decide (t13 < t12)) = true then
  (idx t11 t13).bind fun x2 =>
  some (.inl (w64 (t13 + 1),mput m0 x2 true))
 else
  some (.inr m0)
def qiN:Option (((List (Str×Bool)))):=loop (fun (zz:Int×(List (Str×Bool))) => qd8 t11 t12 zz.1 zz.2) (t13,m0)
theorem qsU {y:(Int×(List (Str×Bool)))⊕(((List (Str×Bool))))} (h:qd8 t11 t12 t13 m0 = some y) :
  Sat Pg GE 0 (cA b92 119) (LQ (fun (zz:Int×(List (Str×Bool))) => qea base t11 t12 zz.1 zz.2) (fun _ => .exit 0) (qjw base) y) (qea base t11 t12 t13 m0):=by
 rcases ifs h with ⟨c1,h⟩ | ⟨c1,h⟩
 ·obtain ⟨x2,bx2,h⟩:=bnd h
  obtain rfl:=lf h
  have z:=sg 0 c1 <| sv (sT22.ia (k := .i64) bx2) <| sv (qa9 sc9 (.str x2) []) <| swm (qMx (f:=PVal.bool) Tryz.underlying143 Tryz.underlying9 m0 x2 true) <| eF .normal (qea base t11 t12 (w64 (t13 + 1)) (mput m0 x2 true))
  exact nxZ A92 z (by kernel_rfl)
 ·obtain rfl:=lf h
  have z:=sg 0 c1 <| eF (.exit 0) (qjw base m0)
  exact ovZ A92 (by intro hx; cases hx) z (by kernel_rfl)
theorem quT {x:((List (Str×Bool)))} (h:qiN t11 t12 t13 m0 = some x) :
  Sat Pg GE 0 (.loop (cA b92 119)) (EX (.exit 0) (qjw base x)) (qea base t11 t12 t13 m0) :=
 Sat.loop (S:=fun (zz:Int×(List (Str×Bool))) => qea base t11 t12 zz.1 zz.2) (ex:=(fun _ => .exit 0)) (s:=(t13,m0)) h fun zz y hy => qsU base t11 t12 zz.1 zz.2 hy
end
section
variable (base:Str) (m0:(List (Str×Bool))) (n:Int)
def qei:PSt:=stt 36 [(1,.str base),(5,.mapr 0),(8,.int .i64 n)] [.map (encM PVal.bool m0)] []
def qjp (o:Str):PSt:=stt 36 [(4,.str o)] [.map (encM PVal.bool m0)] []
def qdi:Option ((Int)⊕((Str))) :=
 (qJR n).bind fun r6 =>
 (cat base r6).bind fun s7 =>
 if (!((mget m0 s7).getD false)) = true then
  some (.inr s7)
 else
  some (.inl (w64 (n + 1)))
def qf4:Option ((Str)):=loop (fun (zz:Int) => qdi base m0 zz) n
theorem qtZ {y:(Int)⊕((Str))} (h:qdi base m0 n = some y) :
  Sat Pg GE 0 (cA b92 255) (LQ (fun (zz:Int) => qei base m0 zz) (fun _ => .ret) (qjp m0) y) (qei base m0 n):=by
 obtain ⟨r6,br6,h⟩:=bnd h
 obtain ⟨s7,bs7,h⟩:=bnd h
 have p9:=fun {sc F} (r:PS sc F) => sca (qKN br6) <| sv (qH7 (P:=Pg) (t:=9) bs7) <| sv (qKy (f:=PVal.bool) Tryz.underlying143 Tryz.underlying9 zv4 m0 s7) <| r
 rcases ifs h with ⟨c8,h⟩ | ⟨c8,h⟩
 ·obtain rfl:=lf h
  have z:=p9 <| sg 0 c8 <| eF .ret (qjp m0 s7)
  exact ovZ A92 (by intro hx; cases hx) z (by kernel_rfl)
 ·obtain rfl:=lf h
  have z:=p9 <| sg 0 c8 <| eF .normal (qei base m0 (w64 (n + 1)))
  exact nxZ A92 z (by kernel_rfl)
theorem qvb {x:(Str)} (h:qf4 base m0 n = some x) :
  Sat Pg GE 0 (.loop (cA b92 255)) (EX .ret (qjp m0 x)) (qei base m0 n) :=
 Sat.loop (S:=fun (zz:Int) => qei base m0 zz) (ex:=(fun _ => .ret)) (s:=n) h fun zz y hy => qtZ base m0 zz hy
end
def qkc (used:waB) (base:Str):Option (Str) :=
 (qiN used (used.length:Int) 0 ([]:List (Str×Bool))).bind fun o3 =>
 if (!((mget o3 base).getD false)) = true then
  some base
 else
  (qf4 base o3 1).bind fun o10 =>
  some o10
theorem qqC {used:waB} {base:Str} {r:Str} (h:qkc used base = some r):CC Pg GE 92 [sl cS used,.str base] (.str r) []:=by
 obtain ⟨o3,bo3,h⟩:=bnd h
 have p5:=fun {sc F} (r:PS sc F) => svn (sT22.ln used) <| spc (quT base used (used.length:Int) 0 ([]:List (Str×Bool)) bo3) <| sv (qKy (f:=PVal.bool) Tryz.underlying143 Tryz.underlying9 zv4 o3 base) <| r
 rcases ifs h with ⟨c4,h⟩ | ⟨c4,h⟩
 ·obtain rfl:=lf h
  have z:=p5 <| sg 0 c4 <| en (aI (rP (.str base)) <| trivial)
  exact cvZ A92 Tryz.call92 Tryz.func92 (c:=b92) rfl (aI (qad clS used) (aI trivial trivial)) z (by kernel_rfl)
 ·obtain ⟨o10,bo10,h⟩:=bnd h
  obtain rfl:=lf h
  have z:=p5 <| sg 0 c4 <| spc (qvb base o3 1 bo10) <| en (aI (rP (.str o10)) <| trivial)
  exact cvZ A92 Tryz.call92 Tryz.func92 (c:=b92) rfl (aI (qad clS used) (aI trivial trivial)) z (by kernel_rfl)
noncomputable def b154:Code:=Tryz.f154.body.getD .skip
def A154:List Nat:=[13,28,34]
section
variable (hidden:waB) (s:reftype_substitution) (i:Int) (n:Str) (t9:waB) (t10:Int) (m:waA) (m2:waB) (m3:waA)
def qg9:PSt:=stt 45 [(1,sl cS hidden),(2,.eptr (qah s)),(4,.bptr 1 0),(5,.bptr 2 0),(6,.int .i64 i),(7,.str n),(9,sl cS t9),(10,.int .i64 t10),(11,.int .i64 i)] [.dead,.cells [sl cS ([]:List Str),sl qaa m] [(0,9),(1,31)],.cells [sl cS m2,sl qaa m3] [(0,9),(1,31)]] []
def qbX (o:Bool):PSt:=stt 45 [(1,sl cS hidden),(2,.eptr (qah s)),(4,.bptr 1 0),(5,.bptr 2 0),(6,.int .i64 i),(7,.str n),(9,sl cS t9),(10,.int .i64 t10),(11,.int .i64 i),(26,.bool o)] [.dead,.cells [sl cS ([]:List Str),sl qaa m] [(0,9),(1,31)],.cells [sl cS m2,sl qaa m3] [(0,9),(1,31)]] []
def qck:Option ((Bool)) :=
 (qbQ hidden n).bind fun r3 =>
 if (!r3) = true then
  (qbQ m2 n).bind fun r5 =>
  some (!r5)
 else
  some false
theorem qgJ {x:(Bool)} (h:qck hidden n m2 = some x) :
  Sat Pg GE 0 (cA b154 7670) (EX .normal (qbX hidden s i n t9 t10 m m2 m3 x)) (qg9 hidden s i n t9 t10 m m2 m3):=by
 obtain ⟨r3,br3,h⟩:=bnd h
 rcases ifs h with ⟨c4,h⟩ | ⟨c4,h⟩
 ·obtain ⟨r5,br5,h⟩:=bnd h
  obtain rfl:=lf h
  have z:=sca (qb1 br3) <| sg 5 c4 <| ss <| sca (qb1 br5) <| eF .normal (qbX hidden s i n t9 t10 m m2 m3 (!r5))
  exact pcZ A154 z (by kernel_rfl)
 ·obtain rfl:=lf h
  have z:=sca (qb1 br3) <| sg 5 c4 <| eF .normal (qbX hidden s i n t9 t10 m m2 m3 false)
  exact pcZ A154 z (by kernel_rfl)
end
section
variable (hidden:waB) (s:reftype_substitution) (t9:waB) (t10:Int) (m:waA) (t11:Int) (m2:waB) (m3:waA)
def qaW:PSt:=stt 45 [(1,sl cS hidden),(2,.eptr (qah s)),(4,.bptr 1 0),(5,.bptr 2 0),(9,sl cS t9),(10,.int .i64 t10),(11,.int .i64 t11)] [.dead,.cells [sl cS ([]:List Str),sl qaa m] [(0,9),(1,31)],.cells [sl cS m2,sl qaa m3] [(0,9),(1,31)]] []
def qbW (o:waB×waA):PSt:=stt 45 [(4,.bptr 1 0),(5,.bptr 2 0)] [.dead,.cells [sl cS ([]:List Str),sl qaa m] [(0,9),(1,31)],.cells [sl cS o.1,sl qaa o.2] [(0,9),(1,31)]] []
def qaR:Option ((Int×waB×waA)⊕((waB×waA))) :=
 if (decide (t11 < t10)) = true then
  (idx t9 t11).bind fun x2 =>
  (qck hidden x2 m2).bind fun o6 =>
  if o6 = true then
   (app m2 ([x2]:List Str)).bind fun l9 =>
   (idx s.by_ t11).bind fun x10 =>
   (app m3 ([x10]:List tPred)).bind fun l11 =>
   some (.inl (w64 (t11 + 1),l9,l11))
  else
   some (.inl (w64 (t11 + 1),m2,m3))
 else
  some (.inr (m2,m3))
def qco:Option ((waB×waA)):=loop (fun (zz:Int×waB×waA) => qaR hidden s t9 t10 zz.1 zz.2.1 zz.2.2) (t11,m2,m3)
theorem qgt {y:(Int×waB×waA)⊕((waB×waA))} (h:qaR hidden s t9 t10 t11 m2 m3 = some y) :
  Sat Pg GE 0 (cA b154 119) (LQ (fun (zz:Int×waB×waA) => qaW hidden s t9 t10 m zz.1 zz.2.1 zz.2.2) (fun _ => .exit 0) (qbW m) y) (qaW hidden s t9 t10 m t11 m2 m3):=by
 rcases ifs h with ⟨c1,h⟩ | ⟨c1,h⟩
 ·obtain ⟨x2,bx2,h⟩:=bnd h
  obtain ⟨o6,bo6,h⟩:=bnd h
  have p8:=fun {sc F} (r:PS sc F) => sg 0 c1 <| sv (sT22.ia (k := .i64) bx2) <| sv (qa9 sc9 (.str x2) []) <| spa 0 <| spc (qgJ hidden s t11 x2 t9 t10 m m2 m3 bo6) <| r
  rcases ifs h with ⟨c7,h⟩ | ⟨c7,h⟩
  ·obtain ⟨l9,bl9,h⟩:=bnd h
   obtain ⟨x10,bx10,h⟩:=bnd h
   obtain ⟨l11,bl11,h⟩:=bnd h
   obtain rfl:=lf h
   have z:=p8 <| sg 0 c7 <| sv (sT22.mk' (v:=PVal.str) pcS ([x2]:List Str) 1 (by kernel_rfl)) <| sv (sT22.ap bl9) <| sdr [0,1,0,4,0,28,60,124,255,511,1023] <| sv (qcP s) <| sv (qc0 s) <| sv (sT29.ia (k := .i64) bx10) <| sv (qaj x10) <| sv (sT29.mk' (v:=qbk) qaL ([x10]:List tPred) 1 (by kernel_rfl)) <| sv (sT29.ap bl11) <| ssf (rfl:qaY (sl qaa l11) = some [sl qaa l11]) <| eF .normal (qaW hidden s t9 t10 m (w64 (t11 + 1)) l9 l11)
   exact nxZ A154 z (by kernel_rfl)
  ·obtain rfl:=lf h
   have z:=p8 <| sg 0 c7 <| eF .normal (qaW hidden s t9 t10 m (w64 (t11 + 1)) m2 m3)
   exact nxZ A154 z (by kernel_rfl)
 ·obtain rfl:=lf h
  have z:=sg 0 c1 <| eF (.exit 0) (qbW m (m2,m3))
  exact ovZ A154 (by intro hx; cases hx) z (by kernel_rfl)
theorem qgK {x:(waB×waA)} (h:qco hidden s t9 t10 t11 m2 m3 = some x) :
  Sat Pg GE 0 (.loop (cA b154 119)) (EX (.exit 0) (qbW m x)) (qaW hidden s t9 t10 m t11 m2 m3) :=
 Sat.loop (S:=fun (zz:Int×waB×waA) => qaW hidden s t9 t10 m zz.1 zz.2.1 zz.2.2) (ex:=(fun _ => .exit 0)) (s:=(t11,m2,m3)) h fun zz y hy => qgt hidden s t9 t10 m zz.1 zz.2.1 zz.2.2 hy
end
def qaU (s:reftype_substitution) (hidden:waB):Option (reftype_substitution) :=
 (qco hidden s s.names (s.names.length:Int) 0 ([]:List Str) ([]:List tPred)).bind fun o12 =>
 some (⟨o12.1,o12.2⟩:reftype_substitution)
theorem qcl {s:reftype_substitution} {hidden:waB} {r:reftype_substitution} (h:qaU s hidden = some r):CC Pg GE 154 [.agg (qah s),sl cS hidden] (.agg (qah r)) [(0,9),(1,31)]:=by
 obtain ⟨o12,bo12,h⟩:=bnd h
 obtain rfl:=lf h
 have z:=se (qbF s) <| sx qGA <| sx qGA <| sv (qef s) <| sv (qeG s) <| svn (sT22.ln s.names) <| spc (qgK hidden s s.names (s.names.length:Int) ([]:List tPred) 0 ([]:List Str) ([]:List tPred) bo12) <| sz (qa6 (⟨o12.1,o12.2⟩:reftype_substitution) []) <| sy (qbf (⟨o12.1,o12.2⟩:reftype_substitution)) <| en (aI (qgB (⟨o12.1,o12.2⟩:reftype_substitution)) <| aI (qaF (⟨o12.1,o12.2⟩:reftype_substitution)) <| rT)
 exact cvZ A154 Tryz.call154 Tryz.func154 (c:=b154) rfl (aI (qaF s) (aI (qad clS hidden) trivial)) z (by kernel_rfl)
abbrev qaS:=(reftype_substitution→tType→Option (tType))
abbrev qa8 (R:qaS):Prop := ∀ (s:reftype_substitution) (t:tType) (r:tType),R s t = some r→CC Pg GE 155 [.agg (qah s),.agg (qac t)] (.agg (qac r)) [(2,33)]
noncomputable def b176:Code:=Tryz.f176.body.getD .skip
def A176:List Nat:=[]
def qbh (s:reftype_substitution) (p:tPred):Option (tPred) :=
 (qjK p s.names s.by_).bind fun r1 =>
 some r1
theorem qcY {s:reftype_substitution} {p:tPred} {r:tPred} (h:qbh s p = some r):CC Pg GE 176 [.agg (qah s),.agg (qaa p)] (.agg (qaa r)) [(3,31)]:=by
 obtain ⟨r1,br1,h⟩:=bnd h
 obtain rfl:=lf h
 have z:=se (qbF s) <| se (qaE p) <| sx pz31 <| sv (qaj p) <| sv (qef s) <| sv (qeG s) <| sv (qcP s) <| sv (qc0 s) <| sca (qnS br1) <| sy (qao r1) <| en (aI (qaT r1) <| aI (qab r1) <| rT)
 exact cvZ A176 Tryz.call176 Tryz.func176 (c:=b176) rfl (aI (qaF s) (aI (qab p) trivial)) z (by kernel_rfl)
noncomputable def b177:Code:=Tryz.f177.body.getD .skip
def A177:List Nat:=[14,21]
section
variable (v:reftype_substitution) (t8:waA) (t9:Int) (out:waA) (t10:Int)
def qdc:PSt:=stt 22 [(1,.func (.func 176) [.agg (qah v)] []),(5,sl qaa out),(8,sl qaa t8),(9,.int .i64 t9),(10,.int .i64 t10)] [] [((5,0),31)]
def qgo (o:waA):PSt:=stt 22 [(5,sl qaa o)] [] [((5,0),31)]
def qkw:Option ((waA×Int)⊕((waA))) :=
 if (decide (t10 < t9)) = true then
  (idx t8 t10).bind fun x2 =>
  (qbh v x2).bind fun r3 =>
  (app out ([r3]:List tPred)).bind fun l4 =>
  some (.inl (l4,w64 (t10 + 1)))
 else
  some (.inr out)
def qiv:Option ((waA)):=loop (fun (zz:waA×Int) => qkw v t8 t9 zz.1 zz.2) (out,t10)
theorem qop {y:(waA×Int)⊕((waA))} (h:qkw v t8 t9 out t10 = some y) :
  Sat Pg GE 0 (cA b177 119) (LQ (fun (zz:waA×Int) => qdc v t8 t9 zz.1 zz.2) (fun _ => .exit 0) (qgo) y) (qdc v t8 t9 out t10):=by
 rcases ifs h with ⟨c1,h⟩ | ⟨c1,h⟩
 ·obtain ⟨x2,bx2,h⟩:=bnd h
  obtain ⟨r3,br3,h⟩:=bnd h
  obtain ⟨l4,bl4,h⟩:=bnd h
  obtain rfl:=lf h
  have z:=sg 0 c1 <| sv (sT29.ia (k := .i64) bx2) <| sv (qaj x2) <| sx pz31 <| sx (qaB x2) <| sv (qax x2 []) <| sca (qcY br3) <| sv (sT29.mk' (v:=qbk) qaL ([r3]:List tPred) 1 (by kernel_rfl)) <| sv (sT29.ap bl4) <| eFx 0 .normal (qdc v t8 t9 l4 (w64 (t10 + 1))) rfl (qbn (aI (aI (aI (up (qaF v)) trivial) trivial) (aI (up (qad qab l4)) (aI (up (qad qab t8)) (aI trivial (aI trivial trivial)))))) trivial
  exact qa5 (A:=A177) mixed z (by kernel_rfl)
 ·obtain rfl:=lf h
  have z:=sg 0 c1 <| eF (.exit 0) (qgo out)
  exact ovZ A177 (by intro hx; cases hx) z (by kernel_rfl)
theorem qqw {x:(waA)} (h:qiv v t8 t9 out t10 = some x) :
  Sat Pg GE 0 (.loop (cA b177 119)) (EX (.exit 0) (qgo x)) (qdc v t8 t9 out t10) :=
 Sat.loop (S:=fun (zz:waA×Int) => qdc v t8 t9 zz.1 zz.2) (ex:=(fun _ => .exit 0)) (s:=(out,t10)) h fun zz y hy => qop v t8 t9 zz.1 zz.2 hy
end
def qfJ (a:waA) (c:reftype_substitution):Option (waA) :=
 (qiv c a (a.length:Int) ([]:List tPred) 0).bind fun o5 =>
 some o5
theorem ql1 {a:waA} {c:reftype_substitution} {r:waA} (h:qfJ a c = some r):CC Pg GE 177 [sl qaa a,.func (.func 176) [.agg (qah c)] []] (sl qaa r) [(0,31)]:=by
 obtain ⟨o5,bo5,h⟩:=bnd h
 obtain rfl:=lf h
 have z:=svn (sT29.ln a) <| spc (qqw c a (a.length:Int) ([]:List tPred) 0 bo5) <| en (aI (rP (sl qaa o5)) <| (qad qab o5))
 exact cvZ A177 Tryz.call177 Tryz.func177 (c:=b177) rfl (aI (qad qab a) (aI (aI (aI (qaF c) trivial) trivial) trivial)) z (by kernel_rfl)
noncomputable def b199:Code:=Tryz.f199.body.getD .skip
def A199:List Nat:=[13,18]
section
variable (t7:waA) (t8:Int) (out:waB) (t9:Int)
def qbr:PSt:=stt 19 [(3,sl cS out),(7,sl qaa t7),(8,.int .i64 t8),(9,.int .i64 t9)] [.dead] [((3,0),9)]
def qcw (o:waB):PSt:=stt 19 [(3,sl cS o)] [.dead] [((3,0),9)]
def qcF:Option ((waB×Int)⊕((waB))) :=
 if (decide (t9 < t8)) = true then
  (idx t7 t9).bind fun x2 =>
  (qj6 x2).bind fun r3 =>
  (app out r3).bind fun l4 =>
  some (.inl (l4,w64 (t9 + 1)))
 else
  some (.inr out)
def qcZ:Option ((waB)):=loop (fun (zz:waB×Int) => qcF t7 t8 zz.1 zz.2) (out,t9)
theorem qhY {y:(waB×Int)⊕((waB))} (h:qcF t7 t8 out t9 = some y) :
  Sat Pg GE 0 (cA b199 119) (LQ (fun (zz:waB×Int) => qbr t7 t8 zz.1 zz.2) (fun _ => .exit 0) (qcw) y) (qbr t7 t8 out t9):=by
 rcases ifs h with ⟨c1,h⟩ | ⟨c1,h⟩
 ·obtain ⟨x2,bx2,h⟩:=bnd h
  obtain ⟨r3,br3,h⟩:=bnd h
  obtain ⟨l4,bl4,h⟩:=bnd h
  obtain rfl:=lf h
  have z:=sg 0 c1 <| sv (sT29.ia (k := .i64) bx2) <| sv (qaj x2) <| sx pz31 <| sx (qaB x2) <| sv (qax x2 []) <| sca (qvB br3) <| sv (sT22.ap bl4) <| eFx 0 .normal (qbr t7 t8 l4 (w64 (t9 + 1))) rfl (qbn (aI (up (qad clS l4)) (aI (up (qad qab t7)) (aI trivial (aI trivial trivial))))) (aI trivial trivial)
  exact qa5 (A:=A199) mixed z (by kernel_rfl)
 ·obtain rfl:=lf h
  have z:=sg 0 c1 <| eF (.exit 0) (qcw out)
  exact ovZ A199 (by intro hx; cases hx) z (by kernel_rfl)
theorem qio {x:(waB)} (h:qcZ t7 t8 out t9 = some x) :
  Sat Pg GE 0 (.loop (cA b199 119)) (EX (.exit 0) (qcw x)) (qbr t7 t8 out t9) :=
 Sat.loop (S:=fun (zz:waB×Int) => qbr t7 t8 zz.1 zz.2) (ex:=(fun _ => .exit 0)) (s:=(out,t9)) h fun zz y hy => qhY t7 t8 zz.1 zz.2 hy
end
def qbP (s:reftype_substitution):Option (waB) :=
 (qcZ s.by_ (s.by_.length:Int) ([]:List Str) 0).bind fun o5 =>
 some o5
theorem qeF {s:reftype_substitution} {r:waB} (h:qbP s = some r):CC Pg GE 199 [.agg (qah s)] (sl cS r) [(0,9)]:=by
 obtain ⟨o5,bo5,h⟩:=bnd h
 obtain rfl:=lf h
 have z:=se (qbF s) <| sv (qcP s) <| sv (qc0 s) <| svn (sT29.ln s.by_) <| spc (qio s.by_ (s.by_.length:Int) ([]:List Str) 0 bo5) <| en (aI (rP (sl cS o5)) <| (qad clS o5))
 exact cvZ A199 Tryz.call199 Tryz.func199 (c:=b199) rfl (aI (qaF s) trivial) z (by kernel_rfl)
noncomputable def b200:Code:=Tryz.f200.body.getD .skip
def A200:List Nat:=[13,19]
def qct (s:reftype_substitution) (name:Str) (a:tPred):Option (reftype_substitution) :=
 (qaU s ([name]:List Str)).bind fun r1 =>
 (app r1.names ([name]:List Str)).bind fun l2 =>
 (app r1.by_ ([a]:List tPred)).bind fun l3 =>
 some (⟨l2,l3⟩:reftype_substitution)
theorem qjN {s:reftype_substitution} {name:Str} {a:tPred} {r:reftype_substitution} (h:qct s name a = some r):CC Pg GE 200 [.agg (qah s),.str name,.agg (qaa a)] (.agg (qah r)) [(0,9),(1,31)]:=by
 obtain ⟨r1,br1,h⟩:=bnd h
 obtain ⟨l2,bl2,h⟩:=bnd h
 obtain ⟨l3,bl3,h⟩:=bnd h
 obtain rfl:=lf h
 have z:=se (qbF s) <| se (qaE a) <| sx qGA <| sv (qaZ s) <| sv (sT22.mk' (v:=PVal.str) pcS ([name]:List Str) 1 (by kernel_rfl)) <| sca (qcl br1) <| sx qGA <| sy (qbf r1) <| sv (sT22.mk' (v:=PVal.str) pcS ([name]:List Str) 1 (by kernel_rfl)) <| sv (sT22.ap bl2) <| sv (qaj a) <| sv (sT29.mk' (v:=qbk) qaL ([a]:List tPred) 1 (by kernel_rfl)) <| sv (sT29.ap bl3) <| sz (qa6 (⟨l2,l3⟩:reftype_substitution) []) <| sy (qbf (⟨l2,l3⟩:reftype_substitution)) <| en (aI (qgB (⟨l2,l3⟩:reftype_substitution)) <| aI (qaF (⟨l2,l3⟩:reftype_substitution)) <| rT)
 exact cvZ A200 Tryz.call200 Tryz.func200 (c:=b200) rfl (aI (qaF s) (aI trivial (aI (qab a) trivial))) z (by kernel_rfl)
noncomputable def b175:Code:=Tryz.f175.body.getD .skip
def A175:List Nat:=[44,48,80]
section
variable (R45:qaS) (t:tType) (t40:waC) (t41:Int) (m:waC) (m2:waA) (m3:Int) (m4:Str) (n:Nat) (m6:Int) (m7:Str) (m8:Int) (m9:waA) (m10:waA) (m11:waB) (m12:waA) (used:waB) (t42:Int) (w3:List Str) (m5:waC) (m13:waB) (m14:waA)
def qaM:PSt:=stt 99 [(3,.eptr (qac t)),(4,.bptr 2 0),(5,.bptr 4 0),(7,sl cS used),(8,.bptr 6 0),(40,sl qac t40),(41,.int .i64 t41),(42,.int .i64 t42)] [.dead,.dead,.cells [.int .i64 0,.str ([]:Str),sl qac m,sl cS ([]:List Str),.int .i64 0,.str ([]:Str),.int .i64 0,sl qaa m2,sl qaa m2] [(2,33),(3,9),(7,31),(8,31)],.cells (flC cS w3) [],.cells [.int .i64 m3,.str m4,sl qac m5,.bsl 3 0 n,.int .i64 m6,.str m7,.int .i64 m8,sl qaa m9,sl qaa m10] [(2,33)],.cells [sl cS m11,sl qaa m12] [],.cells [sl cS m13,sl qaa m14] []] [((7,0),9)]
def qbU (o:List Str×waC×waB×waA):PSt:=stt 99 [(4,.bptr 2 0),(5,.bptr 4 0)] [.dead,.dead,.cells [.int .i64 0,.str ([]:Str),sl qac m,sl cS ([]:List Str),.int .i64 0,.str ([]:Str),.int .i64 0,sl qaa m2,sl qaa m2] [(2,33),(3,9),(7,31),(8,31)],.cells (flC cS o.1) [],.cells [.int .i64 m3,.str m4,sl qac o.2.1,.bsl 3 0 n,.int .i64 m6,.str m7,.int .i64 m8,sl qaa m9,sl qaa m10] [(2,33)],.cells [sl cS m11,sl qaa m12] [],.cells [sl cS o.2.2.1,sl qaa o.2.2.2] []] []
def qaG:Option ((waB×Int×List Str×waC×waB×waA)⊕((List Str×waC×waB×waA))) :=
 if (decide (t42 < t41)) = true then
  (idx t40 t42).bind fun x9 =>
  (R45 (⟨m13,m14⟩:reftype_substitution) x9).bind fun r10 =>
  (app m5 ([r10]:List tType)).bind fun l11 =>
  if (decide (t42 ≥ (t.Names.length:Int))) = true then
   some (.inl (used,w64 (t42 + 1),w3,l11,m13,m14))
  else
   (idx t.Names t42).bind fun x14 =>
   (qaU (⟨m13,m14⟩:reftype_substitution) ([x14]:List Str)).bind fun r15 =>
   (qbP r15).bind fun r16 =>
   (qbQ r16 x14).bind fun r17 =>
   if r17 = true then
    (qkc used x14).bind fun r20 =>
    (idn n w3 t42).bind fun x21 =>
    (upd w3 t42 r20).bind fun l22 =>
    (idn n l22 t42).bind fun x23 =>
    (app used ([x23]:List Str)).bind fun l24 =>
    (idn n l22 t42).bind fun x25 =>
    (qct r15 x14 (⟨3,x25,0,([]:List tPred)⟩:tPred)).bind fun r26 =>
    some (.inl (l24,w64 (t42 + 1),l22,l11,r26.names,r26.by_))
   else
    some (.inl (used,w64 (t42 + 1),w3,l11,r15.names,r15.by_))
 else
  some (.inr (w3,m5,m13,m14))
def qb4:Option ((List Str×waC×waB×waA)):=loop (fun (zz:waB×Int×List Str×waC×waB×waA) => qaG R45 t t40 t41 n zz.1 zz.2.1 zz.2.2.1 zz.2.2.2.1 zz.2.2.2.2.1 zz.2.2.2.2.2) (used,t42,w3,m5,m13,m14)
theorem qfH (hR45:qa8 R45) {y:(waB×Int×List Str×waC×waB×waA)⊕((List Str×waC×waB×waA))} (h:qaG R45 t t40 t41 n used t42 w3 m5 m13 m14 = some y) :
  Sat Pg GE 0 (cA b175 1015) (LQ (fun (zz:waB×Int×List Str×waC×waB×waA) => qaM t t40 t41 m m2 m3 m4 n m6 m7 m8 m9 m10 m11 m12 zz.1 zz.2.1 zz.2.2.1 zz.2.2.2.1 zz.2.2.2.2.1 zz.2.2.2.2.2) (fun _ => .exit 0) (qbU m m2 m3 m4 n m6 m7 m8 m9 m10 m11 m12) y) (qaM t t40 t41 m m2 m3 m4 n m6 m7 m8 m9 m10 m11 m12 used t42 w3 m5 m13 m14):=by
 rcases ifs h with ⟨c8,h⟩ | ⟨c8,h⟩
 ·obtain ⟨x9,bx9,h⟩:=bnd h
  obtain ⟨r10,br10,h⟩:=bnd h
  obtain ⟨l11,bl11,h⟩:=bnd h
  have p13:=fun {sc F} (r:PS sc F) => sg 0 c8 <| sv (sT27.ia (k := .i64) bx9) <| sv (qaN x9) <| sx pz33 <| sx (qbI x9) <| sdr [0,1,0,0,12,28,63,127,255] <| sv (qa6 (⟨m13,m14⟩:reftype_substitution) []) <| sv (qa3 x9 []) <| sca (hR45 _ _ _ br10) <| sv (sT27.mk' (v:=qiq) qdE ([r10]:List tType) 1 (by kernel_rfl)) <| sv (sT27.ap bl11) <| ssf (rfl:qaY (sl qac l11) = some [sl qac l11]) <| sv (qaz t) <| sv (qay t) <| svn (sT22.ln t.Names) <| r
  rcases ifs h with ⟨c12,h⟩ | ⟨c12,h⟩
  ·obtain rfl:=lf h
   have z:=p13 <| sg 0 c12 <| eFx 0 .normal (qaM t t40 t41 m m2 m3 m4 n m6 m7 m8 m9 m10 m11 m12 used (w64 (t42 + 1)) w3 l11 m13 m14) rfl (qbn (aI (qbw (qaf t)) (aI (qcH rfl) (aI (qcH rfl) (aI (up (qad clS used)) (aI (qcH rfl) (aI (up (qad qaf t40)) (aI trivial (aI trivial trivial))))))))) (aI trivial (aI trivial (aI (aI trivial (aI trivial (aI (up (qad qaf m)) (aI (up (qad clS ([]:List Str))) (aI trivial (aI trivial (aI trivial (aI (up (qad qab m2)) (aI (up (qad qab m2)) trivial))))))))) (aI (clF _ clS w3) (aI (aI trivial (aI trivial (aI (up (qad qaf l11)) (aI (qcH rfl) (aI trivial (aI trivial (aI trivial (aI (up (qad qab m9)) (aI (up (qad qab m10)) trivial))))))))) (aI (aI (up (qad clS m11)) (aI (up (qad qab m12)) trivial)) (aI (aI (up (qad clS m13)) (aI (up (qad qab m14)) trivial)) trivial)))))))
   exact qa5 (A:=A175) mixed z (by kernel_rfl)
  ·obtain ⟨x14,bx14,h⟩:=bnd h
   obtain ⟨r15,br15,h⟩:=bnd h
   obtain ⟨r16,br16,h⟩:=bnd h
   obtain ⟨r17,br17,h⟩:=bnd h
   have p19:=fun {sc F} (r:PS sc F) => p13 <| sg 0 c12 <| sv (qaz t) <| sv (qay t) <| sv (sT22.ia (k := .i64) bx14) <| sv (qa9 sc9 (.str x14) []) <| sv (qa6 (⟨m13,m14⟩:reftype_substitution) []) <| sv (sT22.mk' (v:=PVal.str) pcS ([x14]:List Str) 1 (by kernel_rfl)) <| sca (qcl br15) <| sy (qbf r15) <| sv (qa6 r15 []) <| sca (qeF br16) <| sca (qb1 br17) <| r
   rcases ifs h with ⟨c18,h⟩ | ⟨c18,h⟩
   ·obtain ⟨r20,br20,h⟩:=bnd h
    obtain ⟨x21,bx21,h⟩:=bnd h
    obtain ⟨l22,bl22,h⟩:=bnd h
    obtain ⟨x23,bx23,h⟩:=bnd h
    obtain ⟨l24,bl24,h⟩:=bnd h
    obtain ⟨x25,bx25,h⟩:=bnd h
    obtain ⟨r26,br26,h⟩:=bnd h
    obtain rfl:=lf h
    have z:=p19 <| sg 0 c18 <| si0 (.dx [0,1,0,0,0,24,63,127] [] [] [3]) <| ss <| sca (qqC br20) <| sv (sT22.iaN 3 (k := .i64) bx21) <| swr (sT22.stR (pcS r20) bl22) <| ss <| sv (sT22.iaN 3 (k := .i64) bx23) <| sv (sT22.ldN (fun r => qa9 sc9 (.str x23) r) bx23) <| sv (sT22.mk' (v:=PVal.str) pcS ([x23]:List Str) 1 (by kernel_rfl)) <| sv (sT22.ap bl24) <| sdr [0,0,0,4,0,28,60,124,255,511] <| sv (qa6 r15 []) <| ss <| sv (sT22.iaN 3 (k := .i64) bx25) <| sv (sT22.ldN (fun r => qa9 sc9 (.str x25) r) bx25) <| sb (qlh 3 x25) (qk1 3 x25) <| sca (qjN br26) <| syx (qcO r26) <| eFx 0 .normal (qaM t t40 t41 m m2 m3 m4 n m6 m7 m8 m9 m10 m11 m12 l24 (w64 (t42 + 1)) l22 l11 r26.names r26.by_) rfl (qbn (aI (qbw (qaf t)) (aI (qcH rfl) (aI (qcH rfl) (aI (up (qad clS l24)) (aI (qcH rfl) (aI (up (qad qaf t40)) (aI trivial (aI trivial trivial))))))))) (aI trivial (aI trivial (aI (aI trivial (aI trivial (aI (up (qad qaf m)) (aI (up (qad clS ([]:List Str))) (aI trivial (aI trivial (aI trivial (aI (up (qad qab m2)) (aI (up (qad qab m2)) trivial))))))))) (aI (clF _ clS l22) (aI (aI trivial (aI trivial (aI (up (qad qaf l11)) (aI (qcH rfl) (aI trivial (aI trivial (aI trivial (aI (up (qad qab m9)) (aI (up (qad qab m10)) trivial))))))))) (aI (aI (up (qad clS m11)) (aI (up (qad qab m12)) trivial)) (aI (aI (up (qad clS r26.names)) (aI (up (qad qab r26.by_)) trivial)) trivial)))))))
    exact qa5 (A:=A175) mixed z (by kernel_rfl)
   ·obtain rfl:=lf h
    have z:=p19 <| sg 0 c18 <| eFx 0 .normal (qaM t t40 t41 m m2 m3 m4 n m6 m7 m8 m9 m10 m11 m12 used (w64 (t42 + 1)) w3 l11 r15.names r15.by_) rfl (qbn (aI (qbw (qaf t)) (aI (qcH rfl) (aI (qcH rfl) (aI (up (qad clS used)) (aI (qcH rfl) (aI (up (qad qaf t40)) (aI trivial (aI trivial trivial))))))))) (aI trivial (aI trivial (aI (aI trivial (aI trivial (aI (up (qad qaf m)) (aI (up (qad clS ([]:List Str))) (aI trivial (aI trivial (aI trivial (aI (up (qad qab m2)) (aI (up (qad qab m2)) trivial))))))))) (aI (clF _ clS w3) (aI (aI trivial (aI trivial (aI (up (qad qaf l11)) (aI (qcH rfl) (aI trivial (aI trivial (aI trivial (aI (up (qad qab m9)) (aI (up (qad qab m10)) trivial))))))))) (aI (aI (up (qad clS m11)) (aI (up (qad qab m12)) trivial)) (aI (aI (up (qad clS r15.names)) (aI (up (qad qab r15.by_)) trivial)) trivial)))))))
    exact qa5 (A:=A175) mixed z (by kernel_rfl)
 ·obtain rfl:=lf h
  have z:=sg 0 c8 <| eF (.exit 0) (qbU m m2 m3 m4 n m6 m7 m8 m9 m10 m11 m12 (w3,m5,m13,m14))
  exact ovZ A175 (by intro hx; cases hx) z (by kernel_rfl)
theorem qgs (hR45:qa8 R45) {x:(List Str×waC×waB×waA)} (h:qb4 R45 t t40 t41 n used t42 w3 m5 m13 m14 = some x) :
  Sat Pg GE 0 (.loop (cA b175 1015)) (EX (.exit 0) (qbU m m2 m3 m4 n m6 m7 m8 m9 m10 m11 m12 x)) (qaM t t40 t41 m m2 m3 m4 n m6 m7 m8 m9 m10 m11 m12 used t42 w3 m5 m13 m14) :=
 Sat.loop (S:=fun (zz:waB×Int×List Str×waC×waB×waA) => qaM t t40 t41 m m2 m3 m4 n m6 m7 m8 m9 m10 m11 m12 zz.1 zz.2.1 zz.2.2.1 zz.2.2.2.1 zz.2.2.2.2.1 zz.2.2.2.2.2) (ex:=(fun _ => .exit 0)) (s:=(used,t42,w3,m5,m13,m14)) h fun zz y hy => qfH R45 t t40 t41 m m2 m3 m4 n m6 m7 m8 m9 m10 m11 m12 zz.1 zz.2.1 zz.2.2.1 zz.2.2.2.1 zz.2.2.2.2.1 zz.2.2.2.2.2 hR45 hy
end
def qcQ (R45:qaS) (s:reftype_substitution) (t:tType):Option (tType) :=
 (qja t.Names).bind fun r1 =>
 (qbh s t.Pred).bind fun r2 =>
 (qfJ t.Preds s).bind fun r3 =>
 (qbP s).bind fun r4 =>
 (qld t).bind fun r5 =>
 (app r4 r5).bind fun l6 =>
 (app l6 t.Names).bind fun l7 =>
 (qb4 R45 t t.Args (t.Args.length:Int) r1.length l7 0 r1 ([]:List tType) s.names s.by_).bind fun o27 =>
 (frz r1.length o27.1).bind fun l28 =>
 some (⟨t.Op,t.Name,o27.2.1,l28,r2,r3⟩:tType)
theorem qhT (R45:qaS) (hR45:qa8 R45) {s:reftype_substitution} {t:tType} {r:tType} (h:qcQ R45 s t = some r):CC Pg GE 175 [.agg (qah s),.agg (qac t)] (.agg (qac r)) [(2,33)]:=by
 obtain ⟨r1,br1,h⟩:=bnd h
 obtain ⟨r2,br2,h⟩:=bnd h
 obtain ⟨r3,br3,h⟩:=bnd h
 obtain ⟨r4,br4,h⟩:=bnd h
 obtain ⟨r5,br5,h⟩:=bnd h
 obtain ⟨l6,bl6,h⟩:=bnd h
 obtain ⟨l7,bl7,h⟩:=bnd h
 obtain ⟨o27,bo27,h⟩:=bnd h
 obtain ⟨l28,bl28,h⟩:=bnd h
 obtain rfl:=lf h
 have z:=se (qbF s) <| se (qbj t) <| sx pz33 <| si0 (.dx [0,1,0,4,0,16,48,0,0,256,1008,0,2048,0,8192,32752,65535,0,262143] [.cells (flC cS r1) []] [(6,3)] []) <| sv (qam t) <| sv (qal t) <| sv (qbs t) <| sv (qbC t) <| sv (qaz t) <| sv (qay t) <| sar 3 9 (sT22.cloneR qxp br1) <| sv (qaZ s) <| sv (qbg t) <| sv (qba t) <| sca (qcY br2) <| sv (qaQ t) <| sv (qaP t) <| sv (qaZ s) <| sca (ql1 br3) <| sb (qpd t.Op t.Name 3 r1.length r2 r3) (qo7 t.Op t.Name 3 r1.length r2 r3) <| syx (pcA [.int .i64 t.Op,.str t.Name,sl qac ([]:List tType),.bsl 3 0 r1.length,.int .i64 r2.Op,.str r2.Name,.int .i64 r2.N,sl qaa r2.Kids,sl qaa r3]) <| sv (qaZ s) <| sx qGA <| sx (qcO s) <| sdr [0,1,0,7,15,0,32,127,255] <| sv (qa6 s []) <| sca (qeF br4) <| sv (qaN t) <| sca (qoV br5) <| sv (sT22.ap bl6) <| sv (qaz t) <| sv (qay t) <| sv (sT22.ap bl7) <| sv (qaZ s) <| sx qGA <| sx (qcO s) <| sv (qaq t) <| sv (qap t) <| svn (sT27.ln t.Args) <| spc (qgs R45 t t.Args (t.Args.length:Int) ([]:List tType) ([]:List tPred) t.Op t.Name r1.length r2.Op r2.Name r2.N r2.Kids r3 s.names s.by_ l7 0 r1 ([]:List tType) s.names s.by_ hR45 bo27) <| sfz 3 (l28.map cS) [4,5] [] (sT22.fz1 (m:=0) (b:=3) rfl l28) (sT22.fz2 3 l28) (fz3 cS bl28) <| sf (nof 3 (p:=sl qac ([]:List tType)) (qad qaf ([]:List tType))) <| sf (nof 3 (p:=sl cS ([]:List Str)) (qad clS ([]:List Str))) <| sf (nof 3 (p:=sl qaa ([]:List tPred)) (qad qab ([]:List tPred))) <| sf (nof 3 (p:=sl qaa ([]:List tPred)) (qad qab ([]:List tPred))) <| sf (nof 3 (p:=sl qac o27.2.1) (qad qaf o27.2.1)) <| sf (fz4 cS bl28) <| sf (nof 3 (p:=sl qaa r2.Kids) (qad qab r2.Kids)) <| sf (nof 3 (p:=sl qaa r3) (qad qab r3)) <| sf (nof 3 (p:=sl cS s.names) (qad clS s.names)) <| sf (nof 3 (p:=sl qaa s.by_) (qad qab s.by_)) <| sf (nof 3 (p:=sl cS o27.2.2.1) (qad clS o27.2.2.1)) <| sf (nof 3 (p:=sl qaa o27.2.2.2) (qad qab o27.2.2.2)) <| sz (qa3 (⟨t.Op,t.Name,o27.2.1,l28,r2,r3⟩:tType) []) <| sy (qaK (⟨t.Op,t.Name,o27.2.1,l28,r2,r3⟩:tType)) <| en (aI (qcB (⟨t.Op,t.Name,o27.2.1,l28,r2,r3⟩:tType)) <| aI (qaf (⟨t.Op,t.Name,o27.2.1,l28,r2,r3⟩:tType)) <| rT)
 exact cvZ A175 Tryz.call175 Tryz.func175 (c:=b175) rfl (aI (qaF s) (aI (qaf t) trivial)) z (by kernel_rfl)
noncomputable def b178:Code:=Tryz.f178.body.getD .skip
def A178:List Nat:=[14,21]
section
variable (R45:qaS) (v:reftype_substitution) (t8:waC) (t9:Int) (out:waC) (t10:Int)
def qcv:PSt:=stt 22 [(1,.func (.func 155) [.agg (qah v)] []),(5,sl qac out),(8,sl qac t8),(9,.int .i64 t9),(10,.int .i64 t10)] [] [((5,0),33)]
def qeY (o:waC):PSt:=stt 22 [(5,sl qac o)] [] [((5,0),33)]
def qiV:Option ((waC×Int)⊕((waC))) :=
 if (decide (t10 < t9)) = true then
  (idx t8 t10).bind fun x2 =>
  (R45 v x2).bind fun r3 =>
  (app out ([r3]:List tType)).bind fun l4 =>
  some (.inl (l4,w64 (t10 + 1)))
 else
  some (.inr out)
def qgq:Option ((waC)):=loop (fun (zz:waC×Int) => qiV R45 v t8 t9 zz.1 zz.2) (out,t10)
theorem qnH (hR45:qa8 R45) {y:(waC×Int)⊕((waC))} (h:qiV R45 v t8 t9 out t10 = some y) :
  Sat Pg GE 0 (cA b178 119) (LQ (fun (zz:waC×Int) => qcv v t8 t9 zz.1 zz.2) (fun _ => .exit 0) (qeY) y) (qcv v t8 t9 out t10):=by
 rcases ifs h with ⟨c1,h⟩ | ⟨c1,h⟩
 ·obtain ⟨x2,bx2,h⟩:=bnd h
  obtain ⟨r3,br3,h⟩:=bnd h
  obtain ⟨l4,bl4,h⟩:=bnd h
  obtain rfl:=lf h
  have z:=sg 0 c1 <| sv (sT27.ia (k := .i64) bx2) <| sv (qaN x2) <| sx pz33 <| sx (qbI x2) <| sv (qa3 x2 []) <| sca (hR45 _ _ _ br3) <| sv (sT27.mk' (v:=qiq) qdE ([r3]:List tType) 1 (by kernel_rfl)) <| sv (sT27.ap bl4) <| eFx 0 .normal (qcv v t8 t9 l4 (w64 (t10 + 1))) rfl (qbn (aI (aI (aI (up (qaF v)) trivial) trivial) (aI (up (qad qaf l4)) (aI (up (qad qaf t8)) (aI trivial (aI trivial trivial)))))) trivial
  exact qa5 (A:=A178) mixed z (by kernel_rfl)
 ·obtain rfl:=lf h
  have z:=sg 0 c1 <| eF (.exit 0) (qeY out)
  exact ovZ A178 (by intro hx; cases hx) z (by kernel_rfl)
theorem qnW (hR45:qa8 R45) {x:(waC)} (h:qgq R45 v t8 t9 out t10 = some x) :
  Sat Pg GE 0 (.loop (cA b178 119)) (EX (.exit 0) (qeY x)) (qcv v t8 t9 out t10) :=
 Sat.loop (S:=fun (zz:waC×Int) => qcv v t8 t9 zz.1 zz.2) (ex:=(fun _ => .exit 0)) (s:=(out,t10)) h fun zz y hy => qnH R45 v t8 t9 zz.1 zz.2 hR45 hy
end
def qjy (R45:qaS) (a:waC) (c:reftype_substitution):Option (waC) :=
 (qgq R45 c a (a.length:Int) ([]:List tType) 0).bind fun o5 =>
 some o5
theorem qrQ (R45:qaS) (hR45:qa8 R45) {a:waC} {c:reftype_substitution} {r:waC} (h:qjy R45 a c = some r):CC Pg GE 178 [sl qac a,.func (.func 155) [.agg (qah c)] []] (sl qac r) [(0,33)]:=by
 obtain ⟨o5,bo5,h⟩:=bnd h
 obtain rfl:=lf h
 have z:=svn (sT27.ln a) <| spc (qnW R45 c a (a.length:Int) ([]:List tType) 0 hR45 bo5) <| en (aI (rP (sl qac o5)) <| (qad qaf o5))
 exact cvZ A178 Tryz.call178 Tryz.func178 (c:=b178) rfl (aI (qad qaf a) (aI (aI (aI (qaF c) trivial) trivial) trivial)) z (by kernel_rfl)
end Go.Proofs.YtgldgpdhblndkaaGreatDoor
