/- WHAT IS PROVED: parts of the proof, put together by a program (G3). Conditions: none. -/
import Derived.Test.YtgldgpdhblndkaaGreatDoorPkE30
noncomputable section
namespace Go.Proofs.YtgldgpdhblndkaaGreatDoor
open Go
set_option linter.unusedVariables false
set_option maxRecDepth 100000
noncomputable def b120:Code:=Tryz.f120.body.getD .skip
def A120:List Nat:=[]
def qgi (t:tType) (i:Int):Option (waB) :=
 if (t.Op != 6) = true then
  some ([]:List Str)
 else
  (slc t.Names none (some (if (t.Names.length:Int) < i then (t.Names.length:Int) else i))).bind fun l3 =>
  some l3
theorem qtr {t:tType} {i:Int} {r:waB} (h:qgi t i = some r):CC Pg GE 120 [.agg (qac t),.int .i64 i] (sl cS r) []:=by
 have p2:=fun {sc F} (r:PS sc F) => se (qbH t) <| sv (qbv t) <| sv (qbw t) <| r
 rcases ifs h with ⟨c1,h⟩ | ⟨c1,h⟩
 ·obtain rfl:=lf h
  have z:=p2 <| sg 0 c1 <| en (aI (rP (sl cS ([]:List Str))) <| (qad clS ([]:List Str)))
  exact cvZ A120 Tryz.call120 Tryz.func120 (c:=b120) rfl (aI (qaf t) (aI trivial trivial)) z (by kernel_rfl)
 ·obtain ⟨l3,bl3,h⟩:=bnd h
  obtain rfl:=lf h
  have z:=p2 <| sg 0 c1 <| sv (qan t) <| sv (qao t) <| sv (qan t) <| sv (qao t) <| svn (sT22.ln t.Names) <| sv (sT22.sc bl3) <| en (aI (rP (sl cS l3)) <| (qad clS l3))
  exact cvZ A120 Tryz.call120 Tryz.func120 (c:=b120) rfl (aI (qaf t) (aI trivial trivial)) z (by kernel_rfl)
noncomputable def b72:Code:=Tryz.f72.body.getD .skip
def A72:List Nat:=[]
def qbT (s:waB) (v:Str):Option (Bool) :=
 (qi7 s v).bind fun r1 =>
 some (decide (r1 ≥ 0))
theorem qb7 {s:waB} {v:Str} {r:Bool} (h:qbT s v = some r):CC Pg GE 72 [sl cS s,.str v] (.bool r) []:=by
 obtain ⟨r1,br1,h⟩:=bnd h
 obtain rfl:=lf h
 have z:=sca (qoA br1) <| en (aI (rP (.bool (decide (r1 ≥ 0)))) <| trivial)
 exact cvZ A72 Tryz.call72 Tryz.func72 (c:=b72) rfl (aI (qad clS s) (aI trivial trivial)) z (by kernel_rfl)
noncomputable def b91:Code:=Tryz.f91.body.getD .skip
def A91:List Nat:=[33,44,61]
def qec (t:tType) (out:waB) (t18:waA) (t19:Int) (t20:Int):PSt:=stt 69 [(1,.eptr (qac t)),(3,sl cS out),(18,sl qaa t18),(19,.int .i64 t19),(20,.int .i64 t20)] [.dead] [((18,0),31),((3,0),9)]
def qil (t:tType) (t18:waA) (t19:Int) (o:waB):PSt:=stt 69 [(1,.eptr (qac t)),(3,sl cS o)] [.dead] [((3,0),9)]
def qdj (t:tType) (out:waB) (t18:waA) (t19:Int) (t20:Int) (t25:waB) (t26:Int) (t27:Int) (m:Int) (m2:Str) (m3:Int) (m4:waA):PSt:=stt 69 [(1,.eptr (qac t)),(3,sl cS out),(18,sl qaa t18),(19,.int .i64 t19),(20,.int .i64 t20),(25,sl cS t25),(26,.int .i64 t26),(27,.int .i64 t27)] [.dead,.cells [.int .i64 m,.str m2,.int .i64 m3,sl qaa m4] []] [((25,0),9),((18,0),31),((3,0),9)]
def qiD (t:tType) (t18:waA) (t19:Int) (t20:Int) (t25:waB) (t26:Int) (m:Int) (m2:Str) (m3:Int) (m4:waA) (o:waB):PSt:=stt 69 [(1,.eptr (qac t)),(3,sl cS o),(18,sl qaa t18),(19,.int .i64 t19),(20,.int .i64 t20)] [.dead,.cells [.int .i64 m,.str m2,.int .i64 m3,sl qaa m4] []] [((18,0),31),((3,0),9)]
def qlE (R37:qaB) (t25:waB) (t26:Int) (out:waB) (t27:Int):Option ((waB×Int)⊕((waB))) :=
 if (decide (t27 < t26)) = true then
  (idx t25 t27).bind fun x6 =>
  if (!(x6 == ([118]:Str))) = true then
   (app out ([x6]:List Str)).bind fun l9 =>
   some (.inl (l9,w64 (t27 + 1)))
  else
   some (.inl (out,w64 (t27 + 1)))
 else
  some (.inr out)
def qfb (R37:qaB) (t25:waB) (t26:Int) (out:waB) (t27:Int):Option ((waB)):=loop (fun (zz:waB×Int) => qlE R37 t25 t26 zz.1 zz.2) (out,t27)
theorem qqY (R37:qaB) (hR37:qcy R37) (t:tType) (out:waB) (t18:waA) (t19:Int) (t20:Int) (t25:waB) (t26:Int) (t27:Int) (m:Int) (m2:Str) (m3:Int) (m4:waA) {y:(waB×Int)⊕((waB))} (h:qlE R37 t25 t26 out t27 = some y) :
  Sat Pg GE 0 (cA b91 30687) (LQ (fun (zz:waB×Int) => qdj t zz.1 t18 t19 t20 t25 t26 zz.2 m m2 m3 m4) (fun _ => .exit 2) (qiD t t18 t19 t20 t25 t26 m m2 m3 m4) y) (qdj t out t18 t19 t20 t25 t26 t27 m m2 m3 m4):=by
 rcases ifs h with ⟨c5,h⟩ | ⟨c5,h⟩
 ·obtain ⟨x6,bx6,h⟩:=bnd h
  have p8:=fun {sc F} (r:PS sc F) => sg 0 c5 <| sv (sT22.ia (k := .i64) bx6) <| sv (qaR sc9 (.str x6) []) <| r
  rcases ifs h with ⟨c7,h⟩ | ⟨c7,h⟩
  ·obtain ⟨l9,bl9,h⟩:=bnd h
   obtain rfl:=lf h
   have z:=p8 <| sg 0 c7 <| sv (sT22.mk' (v:=PVal.str) pcS ([x6]:List Str) 1 (by kernel_rfl)) <| sv (sT22.ap bl9) <| eF .normal (qdj t l9 t18 t19 t20 t25 t26 (w64 (t27 + 1)) m m2 m3 m4)
   exact nxZ A91 z (by kernel_rfl)
  ·obtain rfl:=lf h
   have z:=p8 <| sg 0 c7 <| eF .normal (qdj t out t18 t19 t20 t25 t26 (w64 (t27 + 1)) m m2 m3 m4)
   exact nxZ A91 z (by kernel_rfl)
 ·obtain rfl:=lf h
  have z:=sg 0 c5 <| eF (.exit 2) (qiD t t18 t19 t20 t25 t26 m m2 m3 m4 out)
  exact ovZ A91 (by intro hx; cases hx) z (by kernel_rfl)
theorem qsf (R37:qaB) (hR37:qcy R37) (t:tType) (out:waB) (t18:waA) (t19:Int) (t20:Int) (t25:waB) (t26:Int) (t27:Int) (m:Int) (m2:Str) (m3:Int) (m4:waA) {x:(waB)} (h:qfb R37 t25 t26 out t27 = some x) :
  Sat Pg GE 0 (.loop (cA b91 30687)) (EX (.exit 2) (qiD t t18 t19 t20 t25 t26 m m2 m3 m4 x)) (qdj t out t18 t19 t20 t25 t26 t27 m m2 m3 m4) :=
 Sat.loop (S:=fun (zz:waB×Int) => qdj t zz.1 t18 t19 t20 t25 t26 zz.2 m m2 m3 m4) (ex:=(fun _ => .exit 2)) (s:=(out,t27)) h fun zz y hy => qqY R37 hR37 t zz.1 t18 t19 t20 t25 t26 zz.2 m m2 m3 m4 hy
def ql5 (R37:qaB) (t18:waA) (t19:Int) (out:waB) (t20:Int):Option ((waB×Int)⊕((waB))) :=
 if (decide (t20 < t19)) = true then
  (idx t18 t20).bind fun x3 =>
  (qkA x3).bind fun r4 =>
  (qfb R37 r4 (r4.length:Int) out 0).bind fun o10 =>
  some (.inl (o10,w64 (t20 + 1)))
 else
  some (.inr out)
def qkw (R37:qaB) (t18:waA) (t19:Int) (out:waB) (t20:Int):Option ((waB)):=loop (fun (zz:waB×Int) => ql5 R37 t18 t19 zz.1 zz.2) (out,t20)
theorem qqc (R37:qaB) (hR37:qcy R37) (t:tType) (out:waB) (t18:waA) (t19:Int) (t20:Int) {y:(waB×Int)⊕((waB))} (h:ql5 R37 t18 t19 out t20 = some y) :
  Sat Pg GE 0 (cA b91 119) (LQ (fun (zz:waB×Int) => qec t zz.1 t18 t19 zz.2) (fun _ => .exit 0) (qil t t18 t19) y) (qec t out t18 t19 t20):=by
 rcases ifs h with ⟨c2,h⟩ | ⟨c2,h⟩
 ·obtain ⟨x3,bx3,h⟩:=bnd h
  obtain ⟨r4,br4,h⟩:=bnd h
  obtain ⟨o10,bo10,h⟩:=bnd h
  obtain rfl:=lf h
  have z:=sg 0 c2 <| sv (sT29.ia (k := .i64) bx3) <| sv (qaj x3) <| sx pz31 <| sx (qaw x3) <| sv (qar x3 []) <| sca (qtP br4) <| svn (sT22.ln r4) <| spc (qsf R37 hR37 t out t18 t19 t20 r4 (r4.length:Int) 0 x3.Op x3.Name x3.N x3.Kids bo10) <| eFx 0 .normal (qec t o10 t18 t19 (w64 (t20 + 1))) rfl (qbP (aI (qbO (qaf t)) (aI (up (qad clS o10)) (aI (up (qad qab t18)) (aI trivial (aI trivial trivial)))))) (aI trivial trivial)
  exact qbi (A:=A91) mixed z (by kernel_rfl)
 ·obtain rfl:=lf h
  have z:=sg 0 c2 <| eF (.exit 0) (qil t t18 t19 out)
  exact ovZ A91 (by intro hx; cases hx) z (by kernel_rfl)
theorem qr0 (R37:qaB) (hR37:qcy R37) (t:tType) (out:waB) (t18:waA) (t19:Int) (t20:Int) {x:(waB)} (h:qkw R37 t18 t19 out t20 = some x) :
  Sat Pg GE 0 (.loop (cA b91 119)) (EX (.exit 0) (qil t t18 t19 x)) (qec t out t18 t19 t20) :=
 Sat.loop (S:=fun (zz:waB×Int) => qec t zz.1 t18 t19 zz.2) (ex:=(fun _ => .exit 0)) (s:=(out,t20)) h fun zz y hy => qqc R37 hR37 t zz.1 t18 t19 zz.2 hy
def qd0 (t:tType) (out:waB) (t40:waC) (t41:Int) (t42:Int):PSt:=stt 69 [(1,.eptr (qac t)),(3,sl cS out),(40,sl qac t40),(41,.int .i64 t41),(42,.int .i64 t42)] [.dead] [((3,0),9)]
def qih (t:tType) (t40:waC) (t41:Int) (o:waB):PSt:=stt 69 [(3,sl cS o)] [.dead] [((3,0),9)]
def qdi (t:tType) (out:waB) (bound:waB) (t40:waC) (t41:Int) (t42:Int) (t51:waB) (t52:Int) (t53:Int) (m:Int) (m2:Str) (m3:waC) (m4:waB) (m5:Int) (m6:Str) (m7:Int) (m8:waA) (m9:waA):PSt:=stt 69 [(1,.eptr (qac t)),(3,sl cS out),(10,sl cS bound),(40,sl qac t40),(41,.int .i64 t41),(42,.int .i64 t42),(51,sl cS t51),(52,.int .i64 t52),(53,.int .i64 t53)] [.dead,.cells [.int .i64 m,.str m2,sl qac m3,sl cS m4,.int .i64 m5,.str m6,.int .i64 m7,sl qaa m8,sl qaa m9] []] [((51,0),9),((3,0),9)]
def qiB (t:tType) (bound:waB) (t40:waC) (t41:Int) (t42:Int) (t51:waB) (t52:Int) (m:Int) (m2:Str) (m3:waC) (m4:waB) (m5:Int) (m6:Str) (m7:Int) (m8:waA) (m9:waA) (o:waB):PSt:=stt 69 [(1,.eptr (qac t)),(3,sl cS o),(40,sl qac t40),(41,.int .i64 t41),(42,.int .i64 t42)] [.dead,.cells [.int .i64 m,.str m2,sl qac m3,sl cS m4,.int .i64 m5,.str m6,.int .i64 m7,sl qaa m8,sl qaa m9] []] [((3,0),9)]
def qlB (R37:qaB) (bound:waB) (t51:waB) (t52:Int) (out:waB) (t53:Int):Option ((waB×Int)⊕((waB))) :=
 if (decide (t53 < t52)) = true then
  (idx t51 t53).bind fun x17 =>
  (qbT bound x17).bind fun r18 =>
  if (!r18) = true then
   (app out ([x17]:List Str)).bind fun l21 =>
   some (.inl (l21,w64 (t53 + 1)))
  else
   some (.inl (out,w64 (t53 + 1)))
 else
  some (.inr out)
def qfc (R37:qaB) (bound:waB) (t51:waB) (t52:Int) (out:waB) (t53:Int):Option ((waB)):=loop (fun (zz:waB×Int) => qlB R37 bound t51 t52 zz.1 zz.2) (out,t53)
theorem qqi (R37:qaB) (hR37:qcy R37) (t:tType) (out:waB) (bound:waB) (t40:waC) (t41:Int) (t42:Int) (t51:waB) (t52:Int) (t53:Int) (m:Int) (m2:Str) (m3:waC) (m4:waB) (m5:Int) (m6:Str) (m7:Int) (m8:waA) (m9:waA) {y:(waB×Int)⊕((waB))} (h:qlB R37 bound t51 t52 out t53 = some y) :
  Sat Pg GE 0 (cA b91 126911) (LQ (fun (zz:waB×Int) => qdi t zz.1 bound t40 t41 t42 t51 t52 zz.2 m m2 m3 m4 m5 m6 m7 m8 m9) (fun _ => .exit 6) (qiB t bound t40 t41 t42 t51 t52 m m2 m3 m4 m5 m6 m7 m8 m9) y) (qdi t out bound t40 t41 t42 t51 t52 t53 m m2 m3 m4 m5 m6 m7 m8 m9):=by
 rcases ifs h with ⟨c16,h⟩ | ⟨c16,h⟩
 ·obtain ⟨x17,bx17,h⟩:=bnd h
  obtain ⟨r18,br18,h⟩:=bnd h
  have p20:=fun {sc F} (r:PS sc F) => sg 0 c16 <| sv (sT22.ia (k := .i64) bx17) <| sv (qaR sc9 (.str x17) []) <| sca (qb7 br18) <| r
  rcases ifs h with ⟨c19,h⟩ | ⟨c19,h⟩
  ·obtain ⟨l21,bl21,h⟩:=bnd h
   obtain rfl:=lf h
   have z:=p20 <| sg 0 c19 <| sv (sT22.mk' (v:=PVal.str) pcS ([x17]:List Str) 1 (by kernel_rfl)) <| sv (sT22.ap bl21) <| eF .normal (qdi t l21 bound t40 t41 t42 t51 t52 (w64 (t53 + 1)) m m2 m3 m4 m5 m6 m7 m8 m9)
   exact nxZ A91 z (by kernel_rfl)
  ·obtain rfl:=lf h
   have z:=p20 <| sg 0 c19 <| eF .normal (qdi t out bound t40 t41 t42 t51 t52 (w64 (t53 + 1)) m m2 m3 m4 m5 m6 m7 m8 m9)
   exact nxZ A91 z (by kernel_rfl)
 ·obtain rfl:=lf h
  have z:=sg 0 c16 <| eF (.exit 6) (qiB t bound t40 t41 t42 t51 t52 m m2 m3 m4 m5 m6 m7 m8 m9 out)
  exact ovZ A91 (by intro hx; cases hx) z (by kernel_rfl)
theorem qst (R37:qaB) (hR37:qcy R37) (t:tType) (out:waB) (bound:waB) (t40:waC) (t41:Int) (t42:Int) (t51:waB) (t52:Int) (t53:Int) (m:Int) (m2:Str) (m3:waC) (m4:waB) (m5:Int) (m6:Str) (m7:Int) (m8:waA) (m9:waA) {x:(waB)} (h:qfc R37 bound t51 t52 out t53 = some x) :
  Sat Pg GE 0 (.loop (cA b91 126911)) (EX (.exit 6) (qiB t bound t40 t41 t42 t51 t52 m m2 m3 m4 m5 m6 m7 m8 m9 x)) (qdi t out bound t40 t41 t42 t51 t52 t53 m m2 m3 m4 m5 m6 m7 m8 m9) :=
 Sat.loop (S:=fun (zz:waB×Int) => qdi t zz.1 bound t40 t41 t42 t51 t52 zz.2 m m2 m3 m4 m5 m6 m7 m8 m9) (ex:=(fun _ => .exit 6)) (s:=(out,t53)) h fun zz y hy => qqi R37 hR37 t zz.1 bound t40 t41 t42 t51 t52 zz.2 m m2 m3 m4 m5 m6 m7 m8 m9 hy
def qlN (R37:qaB) (t:tType) (t40:waC) (t41:Int) (out:waB) (t42:Int):Option ((waB×Int)⊕((waB))) :=
 if (decide (t42 < t41)) = true then
  (idx t40 t42).bind fun x13 =>
  (qgi t t42).bind fun r14 =>
  (R37 x13).bind fun r15 =>
  (qfc R37 r14 r15 (r15.length:Int) out 0).bind fun o22 =>
  some (.inl (o22,w64 (t42 + 1)))
 else
  some (.inr out)
def qj3 (R37:qaB) (t:tType) (t40:waC) (t41:Int) (out:waB) (t42:Int):Option ((waB)):=loop (fun (zz:waB×Int) => qlN R37 t t40 t41 zz.1 zz.2) (out,t42)
theorem qqX (R37:qaB) (hR37:qcy R37) (t:tType) (out:waB) (t40:waC) (t41:Int) (t42:Int) {y:(waB×Int)⊕((waB))} (h:qlN R37 t t40 t41 out t42 = some y) :
  Sat Pg GE 0 (cA b91 247) (LQ (fun (zz:waB×Int) => qd0 t zz.1 t40 t41 zz.2) (fun _ => .exit 4) (qih t t40 t41) y) (qd0 t out t40 t41 t42):=by
 rcases ifs h with ⟨c12,h⟩ | ⟨c12,h⟩
 ·obtain ⟨x13,bx13,h⟩:=bnd h
  obtain ⟨r14,br14,h⟩:=bnd h
  obtain ⟨r15,br15,h⟩:=bnd h
  obtain ⟨o22,bo22,h⟩:=bnd h
  obtain rfl:=lf h
  have z:=sg 0 c12 <| sv (sT27.ia (k := .i64) bx13) <| sv (qaW x13) <| sx pz33 <| sx (qbA x13) <| sv (qaW t) <| sca (qtr br14) <| sv (qbn x13 []) <| sca (hR37 _ _ br15) <| svn (sT22.ln r15) <| spc (qst R37 hR37 t out r14 t40 t41 t42 r15 (r15.length:Int) 0 x13.Op x13.Name x13.Args x13.Names x13.Pred.Op x13.Pred.Name x13.Pred.N x13.Pred.Kids x13.Preds bo22) <| eFx 0 .normal (qd0 t o22 t40 t41 (w64 (t42 + 1))) rfl (qbP (aI (qbO (qaf t)) (aI (up (qad clS o22)) (aI (up (qad qaf t40)) (aI trivial (aI trivial trivial)))))) (aI trivial trivial)
  exact qbi (A:=A91) mixed z (by kernel_rfl)
 ·obtain rfl:=lf h
  have z:=sg 0 c12 <| eF (.exit 4) (qih t t40 t41 out)
  exact ovZ A91 (by intro hx; cases hx) z (by kernel_rfl)
theorem qrZ (R37:qaB) (hR37:qcy R37) (t:tType) (out:waB) (t40:waC) (t41:Int) (t42:Int) {x:(waB)} (h:qj3 R37 t t40 t41 out t42 = some x) :
  Sat Pg GE 0 (.loop (cA b91 247)) (EX (.exit 4) (qih t t40 t41 x)) (qd0 t out t40 t41 t42) :=
 Sat.loop (S:=fun (zz:waB×Int) => qd0 t zz.1 t40 t41 zz.2) (ex:=(fun _ => .exit 4)) (s:=(out,t42)) h fun zz y hy => qqX R37 hR37 t zz.1 t40 t41 zz.2 hy
def qiH (R37:qaB) (t:tType):Option (waB) :=
 (app ([t.Pred]:List tPred) t.Preds).bind fun l1 =>
 (qkw R37 l1 (l1.length:Int) ([]:List Str) 0).bind fun o11 =>
 (qj3 R37 t t.Args (t.Args.length:Int) o11 0).bind fun o23 =>
 (qif o23 ([]:List Str)).bind fun r24 =>
 some r24
theorem quE (R37:qaB) (hR37:qcy R37) {t:tType} {r:waB} (h:qiH R37 t = some r):CC Pg GE 91 [.agg (qac t)] (sl cS r) [(0,9)]:=by
 obtain ⟨l1,bl1,h⟩:=bnd h
 obtain ⟨o11,bo11,h⟩:=bnd h
 obtain ⟨o23,bo23,h⟩:=bnd h
 obtain ⟨r24,br24,h⟩:=bnd h
 obtain rfl:=lf h
 have z:=se (qbH t) <| sv (qbV t) <| sv (qbY t) <| sv (sT29.mk' (v:=qbq) qaE ([t.Pred]:List tPred) 1 (by kernel_rfl)) <| sv (qbp t) <| sv (qbo t) <| sv (sT29.ap bl1) <| svn (sT29.ln l1) <| spc (qr0 R37 hR37 t ([]:List Str) l1 (l1.length:Int) 0 bo11) <| sv (qaH t) <| sv (qaI t) <| svn (sT27.ln t.Args) <| spc (qrZ R37 hR37 t o11 t.Args (t.Args.length:Int) 0 bo23) <| sca (qpO br24) <| en (aI (rP (sl cS r24)) <| (qad clS r24))
 exact cvZ A91 Tryz.call91 Tryz.func91 (c:=b91) rfl (aI (qaf t) trivial) z (by kernel_rfl)
def qlw:((tType)→Option (waB))→(tType)→Option (waB):=fun (rec:tType→Option (waB)) (x:tType) => qiH (fun t => rec t) x
def qkS (t:tType):Option (waB):=fixE (qlw) t
theorem qnI {t:tType} {r:waB} (h:qkS t = some r):CC Pg GE 91 [.agg (qac t)] (sl cS r) [(0,9)] :=
 qbX (F:=qlw) (M:=fun (x:tType) (r:waB) => CC Pg GE 91 [.agg (qac x)] (sl cS r) [(0,9)]) (fun rec hrec x r h => quE _ (fun t r h => hrec t r h) h) h
noncomputable def b92:Code:=Tryz.f92.body.getD .skip
def A92:List Nat:=[24,35]
def qet (base:Str) (t11:waB) (t12:Int) (t13:Int) (m0:(List (Str×Bool))):PSt:=stt 36 [(1,.str base),(5,.mapr 0),(11,sl cS t11),(12,.int .i64 t12),(13,.int .i64 t13)] [.map (encM PVal.bool m0)] []
def qjr (base:Str) (t11:waB) (t12:Int) (o:(List (Str×Bool))):PSt:=stt 36 [(1,.str base),(5,.mapr 0)] [.map (encM PVal.bool o)] []
def qes (t11:waB) (t12:Int) (t13:Int) (m0:(List (Str×Bool))):Option ((Int×(List (Str×Bool)))⊕(((List (Str×Bool))))) :=
 if (decide (t13 < t12)) = true then
  (idx t11 t13).bind fun x2 =>
  some (.inl (w64 (t13 + 1),mput m0 x2 true))
 else
  some (.inr m0)
def qiP (t11:waB) (t12:Int) (t13:Int) (m0:(List (Str×Bool))):Option (((List (Str×Bool)))):=loop (fun (zz:Int×(List (Str×Bool))) => qes t11 t12 zz.1 zz.2) (t13,m0)
theorem qrs (base:Str) (t11:waB) (t12:Int) (t13:Int) (m0:(List (Str×Bool))) {y:(Int×(List (Str×Bool)))⊕(((List (Str×Bool))))} (h:qes t11 t12 t13 m0 = some y) :
  Sat Pg GE 0 (cA b92 119) (LQ (fun (zz:Int×(List (Str×Bool))) => qet base t11 t12 zz.1 zz.2) (fun _ => .exit 0) (qjr base t11 t12) y) (qet base t11 t12 t13 m0):=by
 rcases ifs h with ⟨c1,h⟩ | ⟨c1,h⟩
 ·obtain ⟨x2,bx2,h⟩:=bnd h
  obtain rfl:=lf h
  have z:=sg 0 c1 <| sv (sT22.ia (k := .i64) bx2) <| sv (qaR sc9 (.str x2) []) <| swm (qIu (f:=PVal.bool) Tryz.underlying143 Tryz.underlying9 m0 x2 true) <| eF .normal (qet base t11 t12 (w64 (t13 + 1)) (mput m0 x2 true))
  exact nxZ A92 z (by kernel_rfl)
 ·obtain rfl:=lf h
  have z:=sg 0 c1 <| eF (.exit 0) (qjr base t11 t12 m0)
  exact ovZ A92 (by intro hx; cases hx) z (by kernel_rfl)
theorem qto (base:Str) (t11:waB) (t12:Int) (t13:Int) (m0:(List (Str×Bool))) {x:((List (Str×Bool)))} (h:qiP t11 t12 t13 m0 = some x) :
  Sat Pg GE 0 (.loop (cA b92 119)) (EX (.exit 0) (qjr base t11 t12 x)) (qet base t11 t12 t13 m0) :=
 Sat.loop (S:=fun (zz:Int×(List (Str×Bool))) => qet base t11 t12 zz.1 zz.2) (ex:=(fun _ => .exit 0)) (s:=(t13,m0)) h fun zz y hy => qrs base t11 t12 zz.1 zz.2 hy
def qeC (base:Str) (n:Int) (m0:(List (Str×Bool))):PSt:=stt 36 [(1,.str base),(5,.mapr 0),(8,.int .i64 n)] [.map (encM PVal.bool m0)] []
def qjh (base:Str) (m0:(List (Str×Bool))) (o:Str):PSt:=stt 36 [(4,.str o)] [.map (encM PVal.bool m0)] []
def qdw (base:Str) (m0:(List (Str×Bool))) (n:Int):Option ((Int)⊕((Str))) :=
 (qGi n).bind fun r6 =>
 (cat base r6).bind fun s7 =>
 if (!((mget m0 s7).getD false)) = true then
  some (.inr s7)
 else
  some (.inl (w64 (n + 1)))
def qf6 (base:Str) (m0:(List (Str×Bool))) (n:Int):Option ((Str)):=loop (fun (zz:Int) => qdw base m0 zz) n
theorem qrP (base:Str) (n:Int) (m0:(List (Str×Bool))) {y:(Int)⊕((Str))} (h:qdw base m0 n = some y) :
  Sat Pg GE 0 (cA b92 255) (LQ (fun (zz:Int) => qeC base zz m0) (fun _ => .ret) (qjh base m0) y) (qeC base n m0):=by
 obtain ⟨r6,br6,h⟩:=bnd h
 obtain ⟨s7,bs7,h⟩:=bnd h
 have p9:=fun {sc F} (r:PS sc F) => sca (qHF br6) <| sv (qxj (P:=Pg) (t:=9) bs7) <| sv (qG1 (f:=PVal.bool) Tryz.underlying143 Tryz.underlying9 zv4 m0 s7) <| r
 rcases ifs h with ⟨c8,h⟩ | ⟨c8,h⟩
 ·obtain rfl:=lf h
  have z:=p9 <| sg 0 c8 <| eF .ret (qjh base m0 s7)
  exact ovZ A92 (by intro hx; cases hx) z (by kernel_rfl)
 ·obtain rfl:=lf h
  have z:=p9 <| sg 0 c8 <| eF .normal (qeC base (w64 (n + 1)) m0)
  exact nxZ A92 z (by kernel_rfl)
theorem qsQ (base:Str) (n:Int) (m0:(List (Str×Bool))) {x:(Str)} (h:qf6 base m0 n = some x) :
  Sat Pg GE 0 (.loop (cA b92 255)) (EX .ret (qjh base m0 x)) (qeC base n m0) :=
 Sat.loop (S:=fun (zz:Int) => qeC base zz m0) (ex:=(fun _ => .ret)) (s:=n) h fun zz y hy => qrP base zz m0 hy
def qkx (used:waB) (base:Str):Option (Str) :=
 (qiP used (used.length:Int) 0 ([]:List (Str×Bool))).bind fun o3 =>
 if (!((mget o3 base).getD false)) = true then
  some base
 else
  (qf6 base o3 1).bind fun o10 =>
  some o10
theorem qpU {used:waB} {base:Str} {r:Str} (h:qkx used base = some r):CC Pg GE 92 [sl cS used,.str base] (.str r) []:=by
 obtain ⟨o3,bo3,h⟩:=bnd h
 have p5:=fun {sc F} (r:PS sc F) => svn (sT22.ln used) <| spc (qto base used (used.length:Int) 0 ([]:List (Str×Bool)) bo3) <| sv (qG1 (f:=PVal.bool) Tryz.underlying143 Tryz.underlying9 zv4 o3 base) <| r
 rcases ifs h with ⟨c4,h⟩ | ⟨c4,h⟩
 ·obtain rfl:=lf h
  have z:=p5 <| sg 0 c4 <| en (aI (rP (.str base)) <| trivial)
  exact cvZ A92 Tryz.call92 Tryz.func92 (c:=b92) rfl (aI (qad clS used) (aI trivial trivial)) z (by kernel_rfl)
 ·obtain ⟨o10,bo10,h⟩:=bnd h
  obtain rfl:=lf h
  have z:=p5 <| sg 0 c4 <| spc (qsQ base 1 o3 bo10) <| en (aI (rP (.str o10)) <| trivial)
  exact cvZ A92 Tryz.call92 Tryz.func92 (c:=b92) rfl (aI (qad clS used) (aI trivial trivial)) z (by kernel_rfl)
noncomputable def b154:Code:=Tryz.f154.body.getD .skip
def A154:List Nat:=[13,28,34]
def qaN (hidden:waB) (s:reftype_substitution) (t9:waB) (t10:Int) (t11:Int) (m:waA) (m2:waB) (m3:waA):PSt:=stt 45 [(1,sl cS hidden),(2,.eptr (qag s)),(4,.bptr 1 0),(5,.bptr 2 0),(9,sl cS t9),(10,.int .i64 t10),(11,.int .i64 t11)] [.dead,.cells [sl cS ([]:List Str),sl qaa m] [(0,9),(1,31)],.cells [sl cS m2,sl qaa m3] [(0,9),(1,31)]] []
def qca (hidden:waB) (s:reftype_substitution) (t9:waB) (t10:Int) (m:waA) (o:waB×waA):PSt:=stt 45 [(4,.bptr 1 0),(5,.bptr 2 0)] [.dead,.cells [sl cS ([]:List Str),sl qaa m] [(0,9),(1,31)],.cells [sl cS o.1,sl qaa o.2] [(0,9),(1,31)]] []
def qg7 (hidden:waB) (s:reftype_substitution) (i:Int) (n:Str) (t9:waB) (t10:Int) (m:waA) (m2:waB) (m3:waA):PSt:=stt 45 [(1,sl cS hidden),(2,.eptr (qag s)),(4,.bptr 1 0),(5,.bptr 2 0),(6,.int .i64 i),(7,.str n),(9,sl cS t9),(10,.int .i64 t10),(11,.int .i64 i)] [.dead,.cells [sl cS ([]:List Str),sl qaa m] [(0,9),(1,31)],.cells [sl cS m2,sl qaa m3] [(0,9),(1,31)]] []
def qb6 (hidden:waB) (s:reftype_substitution) (i:Int) (n:Str) (t9:waB) (t10:Int) (m:waA) (m2:waB) (m3:waA) (o:Bool):PSt:=stt 45 [(1,sl cS hidden),(2,.eptr (qag s)),(4,.bptr 1 0),(5,.bptr 2 0),(6,.int .i64 i),(7,.str n),(9,sl cS t9),(10,.int .i64 t10),(11,.int .i64 i),(26,.bool o)] [.dead,.cells [sl cS ([]:List Str),sl qaa m] [(0,9),(1,31)],.cells [sl cS m2,sl qaa m3] [(0,9),(1,31)]] []
def qct (hidden:waB) (n:Str) (m2:waB):Option ((Bool)) :=
 (qbT hidden n).bind fun r3 =>
 if (!r3) = true then
  (qbT m2 n).bind fun r5 =>
  some (!r5)
 else
  some false
theorem qgW (hidden:waB) (s:reftype_substitution) (i:Int) (n:Str) (t9:waB) (t10:Int) (m:waA) (m2:waB) (m3:waA) {x:(Bool)} (h:qct hidden n m2 = some x) :
  Sat Pg GE 0 (cA b154 7670) (EX .normal (qb6 hidden s i n t9 t10 m m2 m3 x)) (qg7 hidden s i n t9 t10 m m2 m3):=by
 obtain ⟨r3,br3,h⟩:=bnd h
 rcases ifs h with ⟨c4,h⟩ | ⟨c4,h⟩
 ·obtain ⟨r5,br5,h⟩:=bnd h
  obtain rfl:=lf h
  have z:=sca (qb7 br3) <| sg 5 c4 <| ss <| sca (qb7 br5) <| eF .normal (qb6 hidden s i n t9 t10 m m2 m3 (!r5))
  exact pcZ A154 z (by kernel_rfl)
 ·obtain rfl:=lf h
  have z:=sca (qb7 br3) <| sg 5 c4 <| eF .normal (qb6 hidden s i n t9 t10 m m2 m3 false)
  exact pcZ A154 z (by kernel_rfl)
def qaC (hidden:waB) (s:reftype_substitution) (t9:waB) (t10:Int) (t11:Int) (m2:waB) (m3:waA):Option ((Int×waB×waA)⊕((waB×waA))) :=
 if (decide (t11 < t10)) = true then
  (idx t9 t11).bind fun x2 =>
  (qct hidden x2 m2).bind fun o6 =>
  if o6 = true then
   (app m2 ([x2]:List Str)).bind fun l9 =>
   (idx s.by_ t11).bind fun x10 =>
   (app m3 ([x10]:List tPred)).bind fun l11 =>
   some (.inl (w64 (t11 + 1),l9,l11))
  else
   some (.inl (w64 (t11 + 1),m2,m3))
 else
  some (.inr (m2,m3))
def qcv (hidden:waB) (s:reftype_substitution) (t9:waB) (t10:Int) (t11:Int) (m2:waB) (m3:waA):Option ((waB×waA)):=loop (fun (zz:Int×waB×waA) => qaC hidden s t9 t10 zz.1 zz.2.1 zz.2.2) (t11,m2,m3)
theorem qgG (hidden:waB) (s:reftype_substitution) (t9:waB) (t10:Int) (t11:Int) (m:waA) (m2:waB) (m3:waA) {y:(Int×waB×waA)⊕((waB×waA))} (h:qaC hidden s t9 t10 t11 m2 m3 = some y) :
  Sat Pg GE 0 (cA b154 119) (LQ (fun (zz:Int×waB×waA) => qaN hidden s t9 t10 zz.1 m zz.2.1 zz.2.2) (fun _ => .exit 0) (qca hidden s t9 t10 m) y) (qaN hidden s t9 t10 t11 m m2 m3):=by
 rcases ifs h with ⟨c1,h⟩ | ⟨c1,h⟩
 ·obtain ⟨x2,bx2,h⟩:=bnd h
  obtain ⟨o6,bo6,h⟩:=bnd h
  have p8:=fun {sc F} (r:PS sc F) => sg 0 c1 <| sv (sT22.ia (k := .i64) bx2) <| sv (qaR sc9 (.str x2) []) <| spa 0 <| spc (qgW hidden s t11 x2 t9 t10 m m2 m3 bo6) <| r
  rcases ifs h with ⟨c7,h⟩ | ⟨c7,h⟩
  ·obtain ⟨l9,bl9,h⟩:=bnd h
   obtain ⟨x10,bx10,h⟩:=bnd h
   obtain ⟨l11,bl11,h⟩:=bnd h
   obtain rfl:=lf h
   have z:=p8 <| sg 0 c7 <| sv (sT22.mk' (v:=PVal.str) pcS ([x2]:List Str) 1 (by kernel_rfl)) <| sv (sT22.ap bl9) <| sdr [0,1,0,4,0,28,60,124,255,511,1023] <| sv (qcZ s) <| sv (qc9 s) <| sv (sT29.ia (k := .i64) bx10) <| sv (qaj x10) <| sv (sT29.mk' (v:=qbq) qaE ([x10]:List tPred) 1 (by kernel_rfl)) <| sv (sT29.ap bl11) <| ssf (rfl:qaJ (sl qaa l11) = some [sl qaa l11]) <| eF .normal (qaN hidden s t9 t10 (w64 (t11 + 1)) m l9 l11)
   exact nxZ A154 z (by kernel_rfl)
  ·obtain rfl:=lf h
   have z:=p8 <| sg 0 c7 <| eF .normal (qaN hidden s t9 t10 (w64 (t11 + 1)) m m2 m3)
   exact nxZ A154 z (by kernel_rfl)
 ·obtain rfl:=lf h
  have z:=sg 0 c1 <| eF (.exit 0) (qca hidden s t9 t10 m (m2,m3))
  exact ovZ A154 (by intro hx; cases hx) z (by kernel_rfl)
theorem qgX (hidden:waB) (s:reftype_substitution) (t9:waB) (t10:Int) (t11:Int) (m:waA) (m2:waB) (m3:waA) {x:(waB×waA)} (h:qcv hidden s t9 t10 t11 m2 m3 = some x) :
  Sat Pg GE 0 (.loop (cA b154 119)) (EX (.exit 0) (qca hidden s t9 t10 m x)) (qaN hidden s t9 t10 t11 m m2 m3) :=
 Sat.loop (S:=fun (zz:Int×waB×waA) => qaN hidden s t9 t10 zz.1 m zz.2.1 zz.2.2) (ex:=(fun _ => .exit 0)) (s:=(t11,m2,m3)) h fun zz y hy => qgG hidden s t9 t10 zz.1 m zz.2.1 zz.2.2 hy
def qaG (s:reftype_substitution) (hidden:waB):Option (reftype_substitution) :=
 (qcv hidden s s.names (s.names.length:Int) 0 ([]:List Str) ([]:List tPred)).bind fun o12 =>
 some (⟨o12.1,o12.2⟩:reftype_substitution)
theorem qcu {s:reftype_substitution} {hidden:waB} {r:reftype_substitution} (h:qaG s hidden = some r):CC Pg GE 154 [.agg (qag s),sl cS hidden] (.agg (qag r)) [(0,9),(1,31)]:=by
 obtain ⟨o12,bo12,h⟩:=bnd h
 obtain rfl:=lf h
 have z:=se (qbF s) <| sx qC0 <| sx qC0 <| sv (qeF s) <| sv (qe1 s) <| svn (sT22.ln s.names) <| spc (qgX hidden s s.names (s.names.length:Int) 0 ([]:List tPred) ([]:List Str) ([]:List tPred) bo12) <| sz (qa1 (⟨o12.1,o12.2⟩:reftype_substitution) []) <| sy (qa6 (⟨o12.1,o12.2⟩:reftype_substitution)) <| en (aI (qgR (⟨o12.1,o12.2⟩:reftype_substitution)) <| aI (qat (⟨o12.1,o12.2⟩:reftype_substitution)) <| rT)
 exact cvZ A154 Tryz.call154 Tryz.func154 (c:=b154) rfl (aI (qat s) (aI (qad clS hidden) trivial)) z (by kernel_rfl)
abbrev qam:=(reftype_substitution→tType→Option (tType))
abbrev qa4 (R:qam):Prop := ∀ (s:reftype_substitution) (t:tType) (r:tType),R s t = some r→CC Pg GE 155 [.agg (qag s),.agg (qac t)] (.agg (qac r)) [(2,33)]
noncomputable def b176:Code:=Tryz.f176.body.getD .skip
def A176:List Nat:=[]
def qbc (s:reftype_substitution) (p:tPred):Option (tPred) :=
 (qjO p s.names s.by_).bind fun r1 =>
 some r1
theorem qc8 {s:reftype_substitution} {p:tPred} {r:tPred} (h:qbc s p = some r):CC Pg GE 176 [.agg (qag s),.agg (qaa p)] (.agg (qaa r)) [(3,31)]:=by
 obtain ⟨r1,br1,h⟩:=bnd h
 obtain rfl:=lf h
 have z:=se (qbF s) <| se (qaL p) <| sx pz31 <| sv (qaj p) <| sv (qeF s) <| sv (qe1 s) <| sv (qcZ s) <| sv (qc9 s) <| sca (qnm br1) <| sy (qal r1) <| en (aI (qaY r1) <| aI (qab r1) <| rT)
 exact cvZ A176 Tryz.call176 Tryz.func176 (c:=b176) rfl (aI (qat s) (aI (qab p) trivial)) z (by kernel_rfl)
noncomputable def b177:Code:=Tryz.f177.body.getD .skip
def A177:List Nat:=[14,21]
def qdk (v:reftype_substitution) (out:waA) (t8:waA) (t9:Int) (t10:Int):PSt:=stt 22 [(1,.func (.func 176) [.agg (qag v)] []),(5,sl qaa out),(8,sl qaa t8),(9,.int .i64 t9),(10,.int .i64 t10)] [] [((5,0),31)]
def qgF (v:reftype_substitution) (t8:waA) (t9:Int) (o:waA):PSt:=stt 22 [(5,sl qaa o)] [] [((5,0),31)]
def qkE (v:reftype_substitution) (t8:waA) (t9:Int) (out:waA) (t10:Int):Option ((waA×Int)⊕((waA))) :=
 if (decide (t10 < t9)) = true then
  (idx t8 t10).bind fun x2 =>
  (qbc v x2).bind fun r3 =>
  (app out ([r3]:List tPred)).bind fun l4 =>
  some (.inl (l4,w64 (t10 + 1)))
 else
  some (.inr out)
def qir (v:reftype_substitution) (t8:waA) (t9:Int) (out:waA) (t10:Int):Option ((waA)):=loop (fun (zz:waA×Int) => qkE v t8 t9 zz.1 zz.2) (out,t10)
theorem qov (v:reftype_substitution) (out:waA) (t8:waA) (t9:Int) (t10:Int) {y:(waA×Int)⊕((waA))} (h:qkE v t8 t9 out t10 = some y) :
  Sat Pg GE 0 (cA b177 119) (LQ (fun (zz:waA×Int) => qdk v zz.1 t8 t9 zz.2) (fun _ => .exit 0) (qgF v t8 t9) y) (qdk v out t8 t9 t10):=by
 rcases ifs h with ⟨c1,h⟩ | ⟨c1,h⟩
 ·obtain ⟨x2,bx2,h⟩:=bnd h
  obtain ⟨r3,br3,h⟩:=bnd h
  obtain ⟨l4,bl4,h⟩:=bnd h
  obtain rfl:=lf h
  have z:=sg 0 c1 <| sv (sT29.ia (k := .i64) bx2) <| sv (qaj x2) <| sx pz31 <| sx (qaw x2) <| sv (qar x2 []) <| sca (qc8 br3) <| sv (sT29.mk' (v:=qbq) qaE ([r3]:List tPred) 1 (by kernel_rfl)) <| sv (sT29.ap bl4) <| eFx 0 .normal (qdk v l4 t8 t9 (w64 (t10 + 1))) rfl (qbP (aI (aI (aI (up (qat v)) trivial) trivial) (aI (up (qad qab l4)) (aI (up (qad qab t8)) (aI trivial (aI trivial trivial)))))) trivial
  exact qbi (A:=A177) mixed z (by kernel_rfl)
 ·obtain rfl:=lf h
  have z:=sg 0 c1 <| eF (.exit 0) (qgF v t8 t9 out)
  exact ovZ A177 (by intro hx; cases hx) z (by kernel_rfl)
theorem qps (v:reftype_substitution) (out:waA) (t8:waA) (t9:Int) (t10:Int) {x:(waA)} (h:qir v t8 t9 out t10 = some x) :
  Sat Pg GE 0 (.loop (cA b177 119)) (EX (.exit 0) (qgF v t8 t9 x)) (qdk v out t8 t9 t10) :=
 Sat.loop (S:=fun (zz:waA×Int) => qdk v zz.1 t8 t9 zz.2) (ex:=(fun _ => .exit 0)) (s:=(out,t10)) h fun zz y hy => qov v zz.1 t8 t9 zz.2 hy
def qf4 (a:waA) (c:reftype_substitution):Option (waA) :=
 (qir c a (a.length:Int) ([]:List tPred) 0).bind fun o5 =>
 some o5
theorem qlG {a:waA} {c:reftype_substitution} {r:waA} (h:qf4 a c = some r):CC Pg GE 177 [sl qaa a,.func (.func 176) [.agg (qag c)] []] (sl qaa r) [(0,31)]:=by
 obtain ⟨o5,bo5,h⟩:=bnd h
 obtain rfl:=lf h
 have z:=svn (sT29.ln a) <| spc (qps c ([]:List tPred) a (a.length:Int) 0 bo5) <| en (aI (rP (sl qaa o5)) <| (qad qab o5))
 exact cvZ A177 Tryz.call177 Tryz.func177 (c:=b177) rfl (aI (qad qab a) (aI (aI (aI (qat c) trivial) trivial) trivial)) z (by kernel_rfl)
noncomputable def b199:Code:=Tryz.f199.body.getD .skip
def A199:List Nat:=[13,18]
def qbk (out:waB) (t7:waA) (t8:Int) (t9:Int):PSt:=stt 19 [(3,sl cS out),(7,sl qaa t7),(8,.int .i64 t8),(9,.int .i64 t9)] [.dead] [((3,0),9)]
def qcH (t7:waA) (t8:Int) (o:waB):PSt:=stt 19 [(3,sl cS o)] [.dead] [((3,0),9)]
def qcM (t7:waA) (t8:Int) (out:waB) (t9:Int):Option ((waB×Int)⊕((waB))) :=
 if (decide (t9 < t8)) = true then
  (idx t7 t9).bind fun x2 =>
  (qkA x2).bind fun r3 =>
  (app out r3).bind fun l4 =>
  some (.inl (l4,w64 (t9 + 1)))
 else
  some (.inr out)
def qc7 (t7:waA) (t8:Int) (out:waB) (t9:Int):Option ((waB)):=loop (fun (zz:waB×Int) => qcM t7 t8 zz.1 zz.2) (out,t9)
theorem qhW (out:waB) (t7:waA) (t8:Int) (t9:Int) {y:(waB×Int)⊕((waB))} (h:qcM t7 t8 out t9 = some y) :
  Sat Pg GE 0 (cA b199 119) (LQ (fun (zz:waB×Int) => qbk zz.1 t7 t8 zz.2) (fun _ => .exit 0) (qcH t7 t8) y) (qbk out t7 t8 t9):=by
 rcases ifs h with ⟨c1,h⟩ | ⟨c1,h⟩
 ·obtain ⟨x2,bx2,h⟩:=bnd h
  obtain ⟨r3,br3,h⟩:=bnd h
  obtain ⟨l4,bl4,h⟩:=bnd h
  obtain rfl:=lf h
  have z:=sg 0 c1 <| sv (sT29.ia (k := .i64) bx2) <| sv (qaj x2) <| sx pz31 <| sx (qaw x2) <| sv (qar x2 []) <| sca (qtP br3) <| sv (sT22.ap bl4) <| eFx 0 .normal (qbk l4 t7 t8 (w64 (t9 + 1))) rfl (qbP (aI (up (qad clS l4)) (aI (up (qad qab t7)) (aI trivial (aI trivial trivial))))) (aI trivial trivial)
  exact qbi (A:=A199) mixed z (by kernel_rfl)
 ·obtain rfl:=lf h
  have z:=sg 0 c1 <| eF (.exit 0) (qcH t7 t8 out)
  exact ovZ A199 (by intro hx; cases hx) z (by kernel_rfl)
theorem qis (out:waB) (t7:waA) (t8:Int) (t9:Int) {x:(waB)} (h:qc7 t7 t8 out t9 = some x) :
  Sat Pg GE 0 (.loop (cA b199 119)) (EX (.exit 0) (qcH t7 t8 x)) (qbk out t7 t8 t9) :=
 Sat.loop (S:=fun (zz:waB×Int) => qbk zz.1 t7 t8 zz.2) (ex:=(fun _ => .exit 0)) (s:=(out,t9)) h fun zz y hy => qhW zz.1 t7 t8 zz.2 hy
def qbU (s:reftype_substitution):Option (waB) :=
 (qc7 s.by_ (s.by_.length:Int) ([]:List Str) 0).bind fun o5 =>
 some o5
theorem qe0 {s:reftype_substitution} {r:waB} (h:qbU s = some r):CC Pg GE 199 [.agg (qag s)] (sl cS r) [(0,9)]:=by
 obtain ⟨o5,bo5,h⟩:=bnd h
 obtain rfl:=lf h
 have z:=se (qbF s) <| sv (qcZ s) <| sv (qc9 s) <| svn (sT29.ln s.by_) <| spc (qis ([]:List Str) s.by_ (s.by_.length:Int) 0 bo5) <| en (aI (rP (sl cS o5)) <| (qad clS o5))
 exact cvZ A199 Tryz.call199 Tryz.func199 (c:=b199) rfl (aI (qat s) trivial) z (by kernel_rfl)
noncomputable def b200:Code:=Tryz.f200.body.getD .skip
def A200:List Nat:=[13,19]
def qcC (s:reftype_substitution) (name:Str) (a:tPred):Option (reftype_substitution) :=
 (qaG s ([name]:List Str)).bind fun r1 =>
 (app r1.names ([name]:List Str)).bind fun l2 =>
 (app r1.by_ ([a]:List tPred)).bind fun l3 =>
 some (⟨l2,l3⟩:reftype_substitution)
theorem qjM {s:reftype_substitution} {name:Str} {a:tPred} {r:reftype_substitution} (h:qcC s name a = some r):CC Pg GE 200 [.agg (qag s),.str name,.agg (qaa a)] (.agg (qag r)) [(0,9),(1,31)]:=by
 obtain ⟨r1,br1,h⟩:=bnd h
 obtain ⟨l2,bl2,h⟩:=bnd h
 obtain ⟨l3,bl3,h⟩:=bnd h
 obtain rfl:=lf h
 have z:=se (qbF s) <| se (qaL a) <| sx qC0 <| sv (qaU s) <| sv (sT22.mk' (v:=PVal.str) pcS ([name]:List Str) 1 (by kernel_rfl)) <| sca (qcu br1) <| sx qC0 <| sy (qa6 r1) <| sv (sT22.mk' (v:=PVal.str) pcS ([name]:List Str) 1 (by kernel_rfl)) <| sv (sT22.ap bl2) <| sv (qaj a) <| sv (sT29.mk' (v:=qbq) qaE ([a]:List tPred) 1 (by kernel_rfl)) <| sv (sT29.ap bl3) <| sz (qa1 (⟨l2,l3⟩:reftype_substitution) []) <| sy (qa6 (⟨l2,l3⟩:reftype_substitution)) <| en (aI (qgR (⟨l2,l3⟩:reftype_substitution)) <| aI (qat (⟨l2,l3⟩:reftype_substitution)) <| rT)
 exact cvZ A200 Tryz.call200 Tryz.func200 (c:=b200) rfl (aI (qat s) (aI trivial (aI (qab a) trivial))) z (by kernel_rfl)
end Go.Proofs.YtgldgpdhblndkaaGreatDoor
