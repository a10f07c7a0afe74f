/- WHAT IS PROVED: parts of the proof, put together by a program (G10). Conditions: none. -/
import Derived.Test.YtgldgpdhblndkaaGreatDoorPkE37
noncomputable section
namespace Go.Proofs.YtgldgpdhblndkaaGreatDoor
open Go
set_option linter.unusedVariables false
set_option maxRecDepth 100000
def qew (v:waB) (lo:Int) (n:Nat) (out:waB) (t9:Int) (t10:Int) (w0:List Str):PSt:=stt 33 [(0,sl cS v),(1,.bsl 0 (qib Pg 9 lo) n),(5,sl cS out),(9,.int .i64 t9),(10,.int .i64 t10)] [.cells (flC cS w0) []] [((5,0),9)]
def qjg (v:waB) (lo:Int) (n:Nat) (t9:Int) (w0:List Str) (o:waB):PSt:=stt 33 [(1,.bsl 0 (qib Pg 9 lo) n),(5,sl cS o)] [.cells (flC cS w0) []] [((5,0),9)]
def qng (v:waB) (t9:Int) (out:waB) (t10:Int):Option ((waB×Int)⊕((waB))) :=
 if (decide (t10 < t9)) = true then
  (idx v t10).bind fun x2 =>
  (qow out x2).bind fun r3 =>
  some (.inl (r3,w64 (t10 + 1)))
 else
  some (.inr out)
def qlv (v:waB) (t9:Int) (out:waB) (t10:Int):Option ((waB)):=loop (fun (zz:waB×Int) => qng v t9 zz.1 zz.2) (out,t10)
theorem qrX (v:waB) (lo:Int) (n:Nat) (out:waB) (t9:Int) (t10:Int) (w0:List Str) {y:(waB×Int)⊕((waB))} (h:qng v t9 out t10 = some y) :
  Sat Pg GE 1 (cA b80 119) (LQ (fun (zz:waB×Int) => qew v lo n zz.1 t9 zz.2 w0) (fun _ => .exit 0) (qjg v lo n t9 w0) y) (qew v lo n out t9 t10 w0):=by
 rcases ifs h with ⟨c1,h⟩ | ⟨c1,h⟩
 ·obtain ⟨x2,bx2,h⟩:=bnd h
  obtain ⟨r3,br3,h⟩:=bnd h
  obtain rfl:=lf h
  have z:=sg 0 c1 <| sv (sT22.ia (k := .i64) bx2) <| sv (qaR sc9 (.str x2) []) <| sca (qo2 br3) <| eF .normal (qew v lo n r3 t9 (w64 (t10 + 1)) w0)
  exact nxZ A80 z (by kernel_rfl)
 ·obtain rfl:=lf h
  have z:=sg 0 c1 <| eF (.exit 0) (qjg v lo n t9 w0 out)
  exact ovZ A80 (by intro hx; cases hx) z (by kernel_rfl)
theorem qtd (v:waB) (lo:Int) (n:Nat) (out:waB) (t9:Int) (t10:Int) (w0:List Str) {x:(waB)} (h:qlv v t9 out t10 = some x) :
  Sat Pg GE 1 (.loop (cA b80 119)) (EX (.exit 0) (qjg v lo n t9 w0 x)) (qew v lo n out t9 t10 w0) :=
 Sat.loop (S:=fun (zz:waB×Int) => qew v lo n zz.1 t9 zz.2 w0) (ex:=(fun _ => .exit 0)) (s:=(out,t10)) h fun zz y hy => qrX v lo n zz.1 t9 zz.2 w0 hy
def qeE (lo:Int) (n:Nat) (out:waB) (t21:Int) (t22:Int) (w0:List Str):PSt:=stt 33 [(1,.bsl 0 (qib Pg 9 lo) n),(5,sl cS out),(21,.int .i64 t21),(22,.int .i64 t22)] [.cells (flC cS w0) []] [((5,0),9)]
def qjf (lo:Int) (n:Nat) (t21:Int) (w0:List Str) (o:waB):PSt:=stt 33 [(5,sl cS o)] [.cells (flC cS w0) []] [((5,0),9)]
def qdx (lo:Int) (n:Nat) (t21:Int) (w0:List Str) (out:waB) (t22:Int):Option ((waB×Int)⊕((waB))) :=
 if (decide (t22 < t21)) = true then
  (idm lo n w0 t22).bind fun x6 =>
  (qow out x6).bind fun r7 =>
  some (.inl (r7,w64 (t22 + 1)))
 else
  some (.inr out)
def qiJ (lo:Int) (n:Nat) (t21:Int) (w0:List Str) (out:waB) (t22:Int):Option ((waB)):=loop (fun (zz:waB×Int) => qdx lo n t21 w0 zz.1 zz.2) (out,t22)
theorem qss (lo:Int) (n:Nat) (out:waB) (t21:Int) (t22:Int) (w0:List Str) {y:(waB×Int)⊕((waB))} (h:qdx lo n t21 w0 out t22 = some y) :
  Sat Pg GE 1 (cA b80 247) (LQ (fun (zz:waB×Int) => qeE lo n zz.1 t21 zz.2 w0) (fun _ => .exit 2) (qjf lo n t21 w0) y) (qeE lo n out t21 t22 w0):=by
 rcases ifs h with ⟨c5,h⟩ | ⟨c5,h⟩
 ·obtain ⟨x6,bx6,h⟩:=bnd h
  obtain ⟨r7,br7,h⟩:=bnd h
  obtain rfl:=lf h
  have z:=sg 0 c5 <| sv (sT22.iaM 0 (k := .i64) bx6) <| sv (sT22.ldM (fun r => qaR sc9 (.str x6) r) bx6) <| sca (qo2 br7) <| eF .normal (qeE lo n r7 t21 (w64 (t22 + 1)) w0)
  exact nxZ A80 z (by kernel_rfl)
 ·obtain rfl:=lf h
  have z:=sg 0 c5 <| eF (.exit 2) (qjf lo n t21 w0 out)
  exact ovZ A80 (by intro hx; cases hx) z (by kernel_rfl)
theorem qs4 (lo:Int) (n:Nat) (out:waB) (t21:Int) (t22:Int) (w0:List Str) {x:(waB)} (h:qiJ lo n t21 w0 out t22 = some x) :
  Sat Pg GE 1 (.loop (cA b80 247)) (EX (.exit 2) (qjf lo n t21 w0 x)) (qeE lo n out t21 t22 w0) :=
 Sat.loop (S:=fun (zz:waB×Int) => qeE lo n zz.1 t21 zz.2 w0) (ex:=(fun _ => .exit 2)) (s:=(out,t22)) h fun zz y hy => qss lo n zz.1 t21 zz.2 w0 hy
def qmR (a:waB) (lo:Int) (n:Nat) (k0:List Str):Option (waB) :=
 (qlv a (a.length:Int) ([]:List Str) 0).bind fun o4 =>
 (qiJ lo n (n:Int) k0 o4 0).bind fun o8 =>
 some o8
theorem qwQ {a:waB} {lo:Int} {n:Nat} {k0:List Str} {r:waB} (h:qmR a lo n k0 = some r):C Pg GE 80 [sl cS a,.bsl 0 (qib Pg 9 lo) n] [] [.cells (flC cS k0) []] (sl cS r) [(0,9)] [.cells (flC cS k0) []]:=by
 obtain ⟨o4,bo4,h⟩:=bnd h
 obtain ⟨o8,bo8,h⟩:=bnd h
 obtain rfl:=lf h
 have z:=svn (sT22.ln a) <| spc (qtd a lo n ([]:List Str) (a.length:Int) 0 k0 bo4) <| svn (sT22.lnR 0 (qib Pg 9 lo) n) <| spc (qs4 lo n o4 (n:Int) 0 k0 bo8) <| en (aI (rP (sl cS o8)) <| aI (up (n:=1) (qad clS o8)) <| aI (rL [.cells (flC cS k0) []]) <| (aI (clF 1 clS k0) trivial))
 exact C.evGp (A:=A80) mixed (m:=1) (c:=b80) rfl Tryz.call80 Tryz.func80 rfl z (by kernel_rfl)
noncomputable def b156:Code:=Tryz.f156.body.getD .skip
def A156:List Nat:=[31,43,62,66,117,127]
def qey (t:tType) (t24:waA) (t25:Int) (t26:Int) (m:waB) (m2:waA) (m3:waC) (m4:waA) (m5:Int) (m6:Str) (m7:Int) (m8:Str) (m9:Int) (m10:waA) (m11:waA):PSt:=stt 139 [(2,.eptr (qac t)),(3,.bptr 1 0),(4,.bptr 2 0),(5,.bptr 3 0),(24,sl qaa t24),(25,.int .i64 t25),(26,.int .i64 t26)] [.dead,.cells [sl cS m,sl qaa m2] [],.cells [.int .i64 0,.str ([]:Str),sl qac m3,sl cS ([]:List Str),.int .i64 0,.str ([]:Str),.int .i64 0,sl qaa m4,sl qaa m4] [(2,33),(3,9),(7,31),(8,31)],.cells [.int .i64 m5,.str m6,sl qac m3,sl cS ([]:List Str),.int .i64 m7,.str m8,.int .i64 m9,sl qaa m10,sl qaa m11] [(2,33),(3,9),(8,31)]] []
def qjo (t:tType) (t24:waA) (t25:Int) (m:waB) (m2:waA) (m3:waC) (m4:waA) (m5:Int) (m6:Str) (m7:Int) (m8:Str) (m9:Int) (m10:waA) (o:waA):PSt:=stt 139 [(2,.eptr (qac t)),(3,.bptr 1 0),(4,.bptr 2 0),(5,.bptr 3 0)] [.dead,.cells [sl cS m,sl qaa m2] [],.cells [.int .i64 0,.str ([]:Str),sl qac m3,sl cS ([]:List Str),.int .i64 0,.str ([]:Str),.int .i64 0,sl qaa m4,sl qaa m4] [(2,33),(3,9),(7,31),(8,31)],.cells [.int .i64 m5,.str m6,sl qac m3,sl cS ([]:List Str),.int .i64 m7,.str m8,.int .i64 m9,sl qaa m10,sl qaa o] [(2,33),(3,9),(8,31)]] []
def qnk (R107:qbx) (t24:waA) (t25:Int) (m:waB) (m2:waA) (t26:Int) (m11:waA):Option ((Int×waA)⊕((waA))) :=
 if (decide (t26 < t25)) = true then
  (idx t24 t26).bind fun x3 =>
  (qiZ x3 m m2).bind fun r4 =>
  (app m11 ([r4]:List tPred)).bind fun l5 =>
  some (.inl (w64 (t26 + 1),l5))
 else
  some (.inr m11)
def qiK (R107:qbx) (t24:waA) (t25:Int) (m:waB) (m2:waA) (t26:Int) (m11:waA):Option ((waA)):=loop (fun (zz:Int×waA) => qnk R107 t24 t25 m m2 zz.1 zz.2) (t26,m11)
theorem qru (R107:qbx) (hR107:qfD R107) (t:tType) (t24:waA) (t25:Int) (t26:Int) (m:waB) (m2:waA) (m3:waC) (m4:waA) (m5:Int) (m6:Str) (m7:Int) (m8:Str) (m9:Int) (m10:waA) (m11:waA) {y:(Int×waA)⊕((waA))} (h:qnk R107 t24 t25 m m2 t26 m11 = some y) :
  Sat Pg GE 0 (cA b156 119) (LQ (fun (zz:Int×waA) => qey t t24 t25 zz.1 m m2 m3 m4 m5 m6 m7 m8 m9 m10 zz.2) (fun _ => .exit 0) (qjo t t24 t25 m m2 m3 m4 m5 m6 m7 m8 m9 m10) y) (qey t t24 t25 t26 m m2 m3 m4 m5 m6 m7 m8 m9 m10 m11):=by
 rcases ifs h with ⟨c2,h⟩ | ⟨c2,h⟩
 ·obtain ⟨x3,bx3,h⟩:=bnd h
  obtain ⟨r4,br4,h⟩:=bnd h
  obtain ⟨l5,bl5,h⟩:=bnd h
  obtain rfl:=lf h
  have z:=sg 0 c2 <| sv (sT29.ia (k := .i64) bx3) <| sv (qaj x3) <| sx pz31 <| sx (qaw x3) <| sdr [0,1,0,0,8,0,32,124,252,511,1023,2047] <| sv (qar x3 []) <| ss <| ss <| sca (qos br4) <| sv (sT29.mk' (v:=qbq) qaE ([r4]:List tPred) 1 (by kernel_rfl)) <| sv (sT29.ap bl5) <| ssf (rfl:qaJ (sl qaa l5) = some [sl qaa l5]) <| eFx 0 .normal (qey t t24 t25 (w64 (t26 + 1)) m m2 m3 m4 m5 m6 m7 m8 m9 m10 l5) rfl (qbP (aI (qbO (qaf t)) (aI (qch rfl) (aI (qch rfl) (aI (qch rfl) (aI (up (qad qab t24)) (aI trivial (aI trivial trivial)))))))) (aI trivial (aI (aI (up (qad clS m)) (aI (up (qad qab m2)) trivial)) (aI (aI trivial (aI trivial (aI (up (qad qaf m3)) (aI (up (qad clS ([]:List Str))) (aI trivial (aI trivial (aI trivial (aI (up (qad qab m4)) (aI (up (qad qab m4)) trivial))))))))) (aI (aI trivial (aI trivial (aI (up (qad qaf m3)) (aI (up (qad clS ([]:List Str))) (aI trivial (aI trivial (aI trivial (aI (up (qad qab m10)) (aI (up (qad qab l5)) trivial))))))))) trivial))))
  exact qbi (A:=A156) mixed z (by kernel_rfl)
 ·obtain rfl:=lf h
  have z:=sg 0 c2 <| eF (.exit 0) (qjo t t24 t25 m m2 m3 m4 m5 m6 m7 m8 m9 m10 m11)
  exact ovZ A156 (by intro hx; cases hx) z (by kernel_rfl)
theorem qth (R107:qbx) (hR107:qfD R107) (t:tType) (t24:waA) (t25:Int) (t26:Int) (m:waB) (m2:waA) (m3:waC) (m4:waA) (m5:Int) (m6:Str) (m7:Int) (m8:Str) (m9:Int) (m10:waA) (m11:waA) {x:(waA)} (h:qiK R107 t24 t25 m m2 t26 m11 = some x) :
  Sat Pg GE 0 (.loop (cA b156 119)) (EX (.exit 0) (qjo t t24 t25 m m2 m3 m4 m5 m6 m7 m8 m9 m10 x)) (qey t t24 t25 t26 m m2 m3 m4 m5 m6 m7 m8 m9 m10 m11) :=
 Sat.loop (S:=fun (zz:Int×waA) => qey t t24 t25 zz.1 m m2 m3 m4 m5 m6 m7 m8 m9 m10 zz.2) (ex:=(fun _ => .exit 0)) (s:=(t26,m11)) h fun zz y hy => qru R107 hR107 t t24 t25 zz.1 m m2 m3 m4 m5 m6 m7 m8 m9 m10 zz.2 hy
def qcY (t:tType) (used:waB) (t58:waC) (t59:Int) (t60:Int) (m:waB) (m2:waA) (m3:waC) (m4:waA) (m5:Int) (m6:Str) (m7:waC) (n:Nat) (m8:Int) (m9:Str) (m10:Int) (m11:waA) (m12:waA) (w4:List Str):PSt:=stt 139 [(2,.eptr (qac t)),(3,.bptr 1 0),(4,.bptr 2 0),(5,.bptr 3 0),(8,sl cS used),(58,sl qac t58),(59,.int .i64 t59),(60,.int .i64 t60)] [.dead,.cells [sl cS m,sl qaa m2] [],.cells [.int .i64 0,.str ([]:Str),sl qac m3,sl cS ([]:List Str),.int .i64 0,.str ([]:Str),.int .i64 0,sl qaa m4,sl qaa m4] [(2,33),(3,9),(7,31),(8,31)],.cells [.int .i64 m5,.str m6,sl qac m7,.bsl 4 0 n,.int .i64 m8,.str m9,.int .i64 m10,sl qaa m11,sl qaa m12] [(2,33),(8,31)],.cells (flC cS w4) []] [((8,0),9)]
def qjl (t:tType) (t58:waC) (t59:Int) (m3:waC) (m4:waA) (m5:Int) (m6:Str) (n:Nat) (m8:Int) (m9:Str) (m10:Int) (m11:waA) (m12:waA) (o:waB×waA×waC×List Str):PSt:=stt 139 [(4,.bptr 2 0),(5,.bptr 3 0)] [.dead,.cells [sl cS o.1,sl qaa o.2.1] [],.cells [.int .i64 0,.str ([]:Str),sl qac m3,sl cS ([]:List Str),.int .i64 0,.str ([]:Str),.int .i64 0,sl qaa m4,sl qaa m4] [(2,33),(3,9),(7,31),(8,31)],.cells [.int .i64 m5,.str m6,sl qac o.2.2.1,.bsl 4 0 n,.int .i64 m8,.str m9,.int .i64 m10,sl qaa m11,sl qaa m12] [(2,33),(8,31)],.cells (flC cS o.2.2.2) []] []
def qum (t:tType) (used:waB) (i:Int) (t58:waC) (t59:Int) (m:waB) (m2:waA) (m3:waC) (m4:waA) (m5:Int) (m6:Str) (m7:waC) (n:Nat) (m8:Int) (m9:Str) (m10:Int) (m11:waA) (m12:waA) (w4:List Str) (m13:Int) (m14:Str) (m15:waC) (m16:waB) (m17:Int) (m18:Str) (m19:Int) (m20:waA) (m21:waA):PSt:=stt 139 [(2,.eptr (qac t)),(3,.bptr 1 0),(4,.bptr 2 0),(5,.bptr 3 0),(8,sl cS used),(9,.int .i64 i),(58,sl qac t58),(59,.int .i64 t59),(60,.int .i64 i)] [.dead,.cells [sl cS m,sl qaa m2] [],.cells [.int .i64 0,.str ([]:Str),sl qac m3,sl cS ([]:List Str),.int .i64 0,.str ([]:Str),.int .i64 0,sl qaa m4,sl qaa m4] [(2,33),(3,9),(7,31),(8,31)],.cells [.int .i64 m5,.str m6,sl qac m7,.bsl 4 0 n,.int .i64 m8,.str m9,.int .i64 m10,sl qaa m11,sl qaa m12] [(2,33),(8,31)],.cells (flC cS w4) [],.cells [.int .i64 m13,.str m14,sl qac m15,sl cS m16,.int .i64 m17,.str m18,.int .i64 m19,sl qaa m20,sl qaa m21] []] [((8,0),9)]
def qjB (t:tType) (used:waB) (i:Int) (t58:waC) (t59:Int) (m:waB) (m2:waA) (m3:waC) (m4:waA) (m5:Int) (m6:Str) (m7:waC) (n:Nat) (m8:Int) (m9:Str) (m10:Int) (m11:waA) (m12:waA) (w4:List Str) (m13:Int) (m14:Str) (m15:waC) (m16:waB) (m17:Int) (m18:Str) (m19:Int) (m20:waA) (m21:waA) (o:Bool):PSt:=stt 139 [(2,.eptr (qac t)),(3,.bptr 1 0),(4,.bptr 2 0),(5,.bptr 3 0),(8,sl cS used),(9,.int .i64 i),(58,sl qac t58),(59,.int .i64 t59),(60,.int .i64 i),(82,.bool o)] [.dead,.cells [sl cS m,sl qaa m2] [],.cells [.int .i64 0,.str ([]:Str),sl qac m3,sl cS ([]:List Str),.int .i64 0,.str ([]:Str),.int .i64 0,sl qaa m4,sl qaa m4] [(2,33),(3,9),(7,31),(8,31)],.cells [.int .i64 m5,.str m6,sl qac m7,.bsl 4 0 n,.int .i64 m8,.str m9,.int .i64 m10,sl qaa m11,sl qaa m12] [(2,33),(8,31)],.cells (flC cS w4) [],.cells [.int .i64 m13,.str m14,sl qac m15,sl cS m16,.int .i64 m17,.str m18,.int .i64 m19,sl qaa m20,sl qaa m21] []] [((8,0),9)]
def qly (R107:qbx) (t:tType) (i:Int):Option ((Bool)) :=
 if (t.Op != 6) = true then
  some true
 else
  some (decide (i ≥ (t.Names.length:Int)))
theorem qsv (R107:qbx) (hR107:qfD R107) (t:tType) (used:waB) (i:Int) (t58:waC) (t59:Int) (m:waB) (m2:waA) (m3:waC) (m4:waA) (m5:Int) (m6:Str) (m7:waC) (n:Nat) (m8:Int) (m9:Str) (m10:Int) (m11:waA) (m12:waA) (w4:List Str) (m13:Int) (m14:Str) (m15:waC) (m16:waB) (m17:Int) (m18:Str) (m19:Int) (m20:waA) (m21:waA) {x:(Bool)} (h:qly R107 t i = some x) :
  Sat Pg GE 0 (cA b156 260060) (EX .normal (qjB t used i t58 t59 m m2 m3 m4 m5 m6 m7 n m8 m9 m10 m11 m12 w4 m13 m14 m15 m16 m17 m18 m19 m20 m21 x)) (qum t used i t58 t59 m m2 m3 m4 m5 m6 m7 n m8 m9 m10 m11 m12 w4 m13 m14 m15 m16 m17 m18 m19 m20 m21):=by
 have p17:=fun {sc F} (r:PS sc F) => sv (qbv t) <| sv (qbw t) <| r
 rcases ifs h with ⟨c16,h⟩ | ⟨c16,h⟩
 ·obtain rfl:=lf h
  have z:=p17 <| sg 4 c16 <| eF .normal (qjB t used i t58 t59 m m2 m3 m4 m5 m6 m7 n m8 m9 m10 m11 m12 w4 m13 m14 m15 m16 m17 m18 m19 m20 m21 true)
  exact pcZ A156 z (by kernel_rfl)
 ·obtain rfl:=lf h
  have z:=p17 <| sg 4 c16 <| sv (qan t) <| sv (qao t) <| svn (sT22.ln t.Names) <| eF .normal (qjB t used i t58 t59 m m2 m3 m4 m5 m6 m7 n m8 m9 m10 m11 m12 w4 m13 m14 m15 m16 m17 m18 m19 m20 m21 (decide (i ≥ (t.Names.length:Int))))
  exact pcZ A156 z (by kernel_rfl)
def qcd (R107:qbx) (t:tType) (t58:waC) (t59:Int) (n:Nat) (used:waB) (t60:Int) (m:waB) (m2:waA) (m7:waC) (w4:List Str):Option ((waB×Int×waB×waA×waC×List Str)⊕((waB×waA×waC×List Str))) :=
 if (decide (t60 < t59)) = true then
  (idx t58 t60).bind fun x13 =>
  (R107 x13 (⟨m,m2⟩:liquidcheckref32_Change)).bind fun r14 =>
  (app m7 ([r14]:List tType)).bind fun l15 =>
  (qly R107 t t60).bind fun o18 =>
  if o18 = true then
   some (.inl (used,w64 (t60 + 1),m,m2,l15,w4))
  else
   (idx t.Names t60).bind fun x21 =>
   (quR (⟨m,m2⟩:liquidcheckref32_Change) x21).bind fun r22 =>
   (idx t.Names t60).bind fun x23 =>
   (qrT r22 x23).bind fun r24 =>
   if r24 = true then
    (idx t.Names t60).bind fun x27 =>
    (qog used x27).bind fun r28 =>
    (idn n w4 t60).bind fun x29 =>
    (upd w4 t60 r28).bind fun l30 =>
    (slcn n t60 (w64 (t60 + 1))).bind fun n31 =>
    (qmR used t60 n31 l30).bind fun r32 =>
    (idx t.Names t60).bind fun x33 =>
    (app r22.Names ([x33]:List Str)).bind fun l34 =>
    (idn n l30 t60).bind fun x35 =>
    (app r22.By ([(⟨3,x35,0,([]:List tPred)⟩:tPred)]:List tPred)).bind fun l36 =>
    some (.inl (r32,w64 (t60 + 1),l34,l36,l15,l30))
   else
    some (.inl (used,w64 (t60 + 1),r22.Names,r22.By,l15,w4))
 else
  some (.inr (m,m2,m7,w4))
def qlu (R107:qbx) (t:tType) (t58:waC) (t59:Int) (n:Nat) (used:waB) (t60:Int) (m:waB) (m2:waA) (m7:waC) (w4:List Str):Option ((waB×waA×waC×List Str)):=loop (fun (zz:waB×Int×waB×waA×waC×List Str) => qcd R107 t t58 t59 n zz.1 zz.2.1 zz.2.2.1 zz.2.2.2.1 zz.2.2.2.2.1 zz.2.2.2.2.2) (used,t60,m,m2,m7,w4)
theorem qri (R107:qbx) (hR107:qfD R107) (t:tType) (used:waB) (t58:waC) (t59:Int) (t60:Int) (m:waB) (m2:waA) (m3:waC) (m4:waA) (m5:Int) (m6:Str) (m7:waC) (n:Nat) (m8:Int) (m9:Str) (m10:Int) (m11:waA) (m12:waA) (w4:List Str) {y:(waB×Int×waB×waA×waC×List Str)⊕((waB×waA×waC×List Str))} (h:qcd R107 t t58 t59 n used t60 m m2 m7 w4 = some y) :
  Sat Pg GE 0 (cA b156 1015) (LQ (fun (zz:waB×Int×waB×waA×waC×List Str) => qcY t zz.1 t58 t59 zz.2.1 zz.2.2.1 zz.2.2.2.1 m3 m4 m5 m6 zz.2.2.2.2.1 n m8 m9 m10 m11 m12 zz.2.2.2.2.2) (fun _ => .exit 2) (qjl t t58 t59 m3 m4 m5 m6 n m8 m9 m10 m11 m12) y) (qcY t used t58 t59 t60 m m2 m3 m4 m5 m6 m7 n m8 m9 m10 m11 m12 w4):=by
 rcases ifs h with ⟨c12,h⟩ | ⟨c12,h⟩
 ·obtain ⟨x13,bx13,h⟩:=bnd h
  obtain ⟨r14,br14,h⟩:=bnd h
  obtain ⟨l15,bl15,h⟩:=bnd h
  obtain ⟨o18,bo18,h⟩:=bnd h
  have p20:=fun {sc F} (r:PS sc F) => sg 0 c12 <| sv (sT27.ia (k := .i64) bx13) <| sv (qaW x13) <| sx pz33 <| sx (qbA x13) <| sdr [0,1,0,0,12,28,63,127,255] <| sv (qbn x13 []) <| sv (qbC (⟨m,m2⟩:liquidcheckref32_Change) []) <| sca (hR107 _ _ _ br14) <| sv (sT27.mk' (v:=qha) qdn ([r14]:List tType) 1 (by kernel_rfl)) <| sv (sT27.ap bl15) <| ssf (rfl:qaJ (sl qac l15) = some [sl qac l15]) <| spa 1 <| spc (qsv R107 hR107 t used t60 t58 t59 m m2 m3 m4 m5 m6 l15 n m8 m9 m10 m11 m12 w4 x13.Op x13.Name x13.Args x13.Names x13.Pred.Op x13.Pred.Name x13.Pred.N x13.Pred.Kids x13.Preds bo18) <| r
  rcases ifs h with ⟨c19,h⟩ | ⟨c19,h⟩
  ·obtain rfl:=lf h
   have z:=p20 <| sg 0 c19 <| eFx 0 .normal (qcY t used t58 t59 (w64 (t60 + 1)) m m2 m3 m4 m5 m6 l15 n m8 m9 m10 m11 m12 w4) rfl (qbP (aI (qbO (qaf t)) (aI (qch rfl) (aI (qch rfl) (aI (qch rfl) (aI (up (qad clS used)) (aI (up (qad qaf t58)) (aI trivial (aI trivial trivial))))))))) (aI trivial (aI (aI (up (qad clS m)) (aI (up (qad qab m2)) trivial)) (aI (aI trivial (aI trivial (aI (up (qad qaf m3)) (aI (up (qad clS ([]:List Str))) (aI trivial (aI trivial (aI trivial (aI (up (qad qab m4)) (aI (up (qad qab m4)) trivial))))))))) (aI (aI trivial (aI trivial (aI (up (qad qaf l15)) (aI (qch rfl) (aI trivial (aI trivial (aI trivial (aI (up (qad qab m11)) (aI (up (qad qab m12)) trivial))))))))) (aI (clF _ clS w4) trivial)))))
   exact qbi (A:=A156) mixed z (by kernel_rfl)
  ·obtain ⟨x21,bx21,h⟩:=bnd h
   obtain ⟨r22,br22,h⟩:=bnd h
   obtain ⟨x23,bx23,h⟩:=bnd h
   obtain ⟨r24,br24,h⟩:=bnd h
   have p26:=fun {sc F} (r:PS sc F) => p20 <| sg 0 c19 <| sdr [0,0,2,0,14,30,63,127] <| sv (qbC (⟨m,m2⟩:liquidcheckref32_Change) []) <| sv (qan t) <| sv (qao t) <| sv (sT22.ia (k := .i64) bx21) <| sv (qaR sc9 (.str x21) []) <| sca (qBv br22) <| syx (qfB r22) <| sdr [0,0,2,0,14,30,63] <| sv (qbC r22 []) <| sv (qan t) <| sv (qao t) <| sv (sT22.ia (k := .i64) bx23) <| sv (qaR sc9 (.str x23) []) <| sca (qAi br24) <| r
   rcases ifs h with ⟨c25,h⟩ | ⟨c25,h⟩
   ·obtain ⟨x27,bx27,h⟩:=bnd h
    obtain ⟨r28,br28,h⟩:=bnd h
    obtain ⟨x29,bx29,h⟩:=bnd h
    obtain ⟨l30,bl30,h⟩:=bnd h
    obtain ⟨n31,bn31,h⟩:=bnd h
    obtain ⟨r32,br32,h⟩:=bnd h
    obtain ⟨x33,bx33,h⟩:=bnd h
    obtain ⟨l34,bl34,h⟩:=bnd h
    obtain ⟨x35,bx35,h⟩:=bnd h
    obtain ⟨l36,bl36,h⟩:=bnd h
    obtain rfl:=lf h
    have z:=p26 <| sg 0 c25 <| si0 (.dx [0,1,0,0,0,16,0,112,240,504,1023,2047] [] [] [4]) <| ss <| sv (qan t) <| sv (qao t) <| sv (sT22.ia (k := .i64) bx27) <| sv (qaR sc9 (.str x27) []) <| sca (qtM br28) <| sv (sT22.iaN 4 (k := .i64) bx29) <| swr (sT22.stR (pcS r28) bl30) <| ss <| sv (sT22.scN 4 bn31) <| si (.cg ⟨[4],[sl cS used,.bsl 0 (qib Pg 9 t60) n31],[],[.cells (flC cS l30) []],[.cells (flC cS l30) []],[.cells (flC cS l30) []],[.cells (flC cS l30) []],sl cS r32,sl cS r32,[(0,9)]⟩) (qwQ br32) <| sf (aI (xR [4] (sl cS used) (qad clS used)) (aI (xS [4] 0 4 (qib Pg 9 t60) n31 rfl) trivial)) <| sf (aI (aI (rB (.cells (flC cS l30) [])) (aI (rW []) (xRL [4] _ (clF 0 clS l30)))) trivial) <| sf (aI (aI (rW []) (xRL [4] _ (clF 0 clS l30))) trivial) <| sf (xR [4] (sl cS r32) (qad clS r32)) <| sdr [0,1,0,4,0,28,60,124,255,511,1023] <| sv (qan t) <| sv (qao t) <| sv (sT22.ia (k := .i64) bx33) <| sv (qaR sc9 (.str x33) []) <| sv (sT22.mk' (v:=PVal.str) pcS ([x33]:List Str) 1 (by kernel_rfl)) <| sv (sT22.ap bl34) <| ssf (rfl:qaJ (sl cS l34) = some [sl cS l34]) <| sdr [0,1,0,4,0,28,60,124,252,511,1023,2047] <| ss <| sv (sT22.iaN 4 (k := .i64) bx35) <| sv (sT22.ldN (fun r => qaR sc9 (.str x35) r) bx35) <| sb (qfj 3 x35) (qfn 3 x35) <| sv (sT29.mk' (v:=qbq) qaE ([(⟨3,x35,0,([]:List tPred)⟩:tPred)]:List tPred) 1 (by kernel_rfl)) <| sv (sT29.ap bl36) <| ssf (rfl:qaJ (sl qaa l36) = some [sl qaa l36]) <| eFx 0 .normal (qcY t r32 t58 t59 (w64 (t60 + 1)) l34 l36 m3 m4 m5 m6 l15 n m8 m9 m10 m11 m12 l30) rfl (qbP (aI (qbO (qaf t)) (aI (qch rfl) (aI (qch rfl) (aI (qch rfl) (aI (up (qad clS r32)) (aI (up (qad qaf t58)) (aI trivial (aI trivial trivial))))))))) (aI trivial (aI (aI (up (qad clS l34)) (aI (up (qad qab l36)) trivial)) (aI (aI trivial (aI trivial (aI (up (qad qaf m3)) (aI (up (qad clS ([]:List Str))) (aI trivial (aI trivial (aI trivial (aI (up (qad qab m4)) (aI (up (qad qab m4)) trivial))))))))) (aI (aI trivial (aI trivial (aI (up (qad qaf l15)) (aI (qch rfl) (aI trivial (aI trivial (aI trivial (aI (up (qad qab m11)) (aI (up (qad qab m12)) trivial))))))))) (aI (clF _ clS l30) trivial)))))
    exact qbi (A:=A156) mixed z (by kernel_rfl)
   ·obtain rfl:=lf h
    have z:=p26 <| sg 0 c25 <| eFx 0 .normal (qcY t used t58 t59 (w64 (t60 + 1)) r22.Names r22.By m3 m4 m5 m6 l15 n m8 m9 m10 m11 m12 w4) rfl (qbP (aI (qbO (qaf t)) (aI (qch rfl) (aI (qch rfl) (aI (qch rfl) (aI (up (qad clS used)) (aI (up (qad qaf t58)) (aI trivial (aI trivial trivial))))))))) (aI trivial (aI (aI (up (qad clS r22.Names)) (aI (up (qad qab r22.By)) trivial)) (aI (aI trivial (aI trivial (aI (up (qad qaf m3)) (aI (up (qad clS ([]:List Str))) (aI trivial (aI trivial (aI trivial (aI (up (qad qab m4)) (aI (up (qad qab m4)) trivial))))))))) (aI (aI trivial (aI trivial (aI (up (qad qaf l15)) (aI (qch rfl) (aI trivial (aI trivial (aI trivial (aI (up (qad qab m11)) (aI (up (qad qab m12)) trivial))))))))) (aI (clF _ clS w4) trivial)))))
    exact qbi (A:=A156) mixed z (by kernel_rfl)
 ·obtain rfl:=lf h
  have z:=sg 0 c12 <| eF (.exit 2) (qjl t t58 t59 m3 m4 m5 m6 n m8 m9 m10 m11 m12 (m,m2,m7,w4))
  exact ovZ A156 (by intro hx; cases hx) z (by kernel_rfl)
theorem qtp (R107:qbx) (hR107:qfD R107) (t:tType) (used:waB) (t58:waC) (t59:Int) (t60:Int) (m:waB) (m2:waA) (m3:waC) (m4:waA) (m5:Int) (m6:Str) (m7:waC) (n:Nat) (m8:Int) (m9:Str) (m10:Int) (m11:waA) (m12:waA) (w4:List Str) {x:(waB×waA×waC×List Str)} (h:qlu R107 t t58 t59 n used t60 m m2 m7 w4 = some x) :
  Sat Pg GE 0 (.loop (cA b156 1015)) (EX (.exit 2) (qjl t t58 t59 m3 m4 m5 m6 n m8 m9 m10 m11 m12 x)) (qcY t used t58 t59 t60 m m2 m3 m4 m5 m6 m7 n m8 m9 m10 m11 m12 w4) :=
 Sat.loop (S:=fun (zz:waB×Int×waB×waA×waC×List Str) => qcY t zz.1 t58 t59 zz.2.1 zz.2.2.1 zz.2.2.2.1 m3 m4 m5 m6 zz.2.2.2.2.1 n m8 m9 m10 m11 m12 zz.2.2.2.2.2) (ex:=(fun _ => .exit 2)) (s:=(used,t60,m,m2,m7,w4)) h fun zz y hy => qri R107 hR107 t zz.1 t58 t59 zz.2.1 zz.2.2.1 zz.2.2.2.1 m3 m4 m5 m6 zz.2.2.2.2.1 n m8 m9 m10 m11 m12 zz.2.2.2.2.2 hy
def qjR (R107:qbx) (t:tType) (c:liquidcheckref32_Change):Option (tType) :=
 (qiZ t.Pred c.Names c.By).bind fun r1 =>
 (qiK R107 t.Preds (t.Preds.length:Int) c.Names c.By 0 ([]:List tPred)).bind fun o6 =>
 (app [] t.Names).bind fun l7 =>
 (qr2 c.By).bind fun r8 =>
 (quP t).bind fun r9 =>
 (qci r8 r9).bind fun r10 =>
 (qci r10 t.Names).bind fun r11 =>
 (qlu R107 t t.Args (t.Args.length:Int) l7.length r11 0 c.Names c.By ([]:List tType) l7).bind fun o37 =>
 (frz l7.length o37.2.2.2).bind fun l38 =>
 some (⟨t.Op,t.Name,o37.2.2.1,l38,r1,o6⟩:tType)
theorem qwh (R107:qbx) (hR107:qfD R107) {t:tType} {c:liquidcheckref32_Change} {r:tType} (h:qjR R107 t c = some r):CC Pg GE 156 [.agg (qac t),.agg (qah c)] (.agg (qac r)) [(2,33),(8,31)]:=by
 obtain ⟨r1,br1,h⟩:=bnd h
 obtain ⟨o6,bo6,h⟩:=bnd h
 obtain ⟨l7,bl7,h⟩:=bnd h
 obtain ⟨r8,br8,h⟩:=bnd h
 obtain ⟨r9,br9,h⟩:=bnd h
 obtain ⟨r10,br10,h⟩:=bnd h
 obtain ⟨r11,br11,h⟩:=bnd h
 obtain ⟨o37,bo37,h⟩:=bnd h
 obtain ⟨l38,bl38,h⟩:=bnd h
 obtain rfl:=lf h
 have z:=se (qbH t) <| sx (qfB c) <| sx pz33 <| sdr [0,1,0,4,0,16,0,64,0,256,1008,2047,0,8191] <| sv (qbv t) <| sv (qbw t) <| sv (qdB t) <| sv (qef t) <| sv (qbV t) <| sv (qbY t) <| ss <| ss <| sca (qos br1) <| sb (qwR t.Op t.Name r1) (qwM t.Op t.Name r1) <| syx (qbA (⟨t.Op,t.Name,([]:List tType),([]:List Str),r1,([]:List tPred)⟩:tType)) <| sv (qbp t) <| sv (qbo t) <| svn (sT29.ln t.Preds) <| spc (qth R107 hR107 t t.Preds (t.Preds.length:Int) 0 c.Names c.By ([]:List tType) ([]:List tPred) t.Op t.Name r1.Op r1.Name r1.N r1.Kids ([]:List tPred) bo6) <| sv (qan t) <| sv (qao t) <| sar 4 9 (sT22.apR bl7) <| ss <| sdr [0,1,3,0,15,31,0,64,255,511] <| ss <| sca (qAC br8) <| sv (qaW t) <| sca (qv2 br9) <| sca (qdb br10) <| sv (qan t) <| sv (qao t) <| sca (qdb br11) <| sv (qaH t) <| sv (qaI t) <| svn (sT27.ln t.Args) <| spc (qtp R107 hR107 t r11 t.Args (t.Args.length:Int) 0 c.Names c.By ([]:List tType) ([]:List tPred) t.Op t.Name ([]:List tType) l7.length r1.Op r1.Name r1.N r1.Kids o6 l7 bo37) <| sfz 4 (l38.map cS) [4,5] [] (sT22.fz1 (m:=0) (b:=4) rfl l38) (sT22.fz2 4 l38) (fz3 cS bl38) <| sf (nof 4 (p:=sl cS o37.1) (qad clS o37.1)) <| sf (nof 4 (p:=sl qaa o37.2.1) (qad qab o37.2.1)) <| sf (nof 4 (p:=sl qac ([]:List tType)) (qad qaf ([]:List tType))) <| sf (nof 4 (p:=sl cS ([]:List Str)) (qad clS ([]:List Str))) <| sf (nof 4 (p:=sl qaa ([]:List tPred)) (qad qab ([]:List tPred))) <| sf (nof 4 (p:=sl qaa ([]:List tPred)) (qad qab ([]:List tPred))) <| sf (nof 4 (p:=sl qac o37.2.2.1) (qad qaf o37.2.2.1)) <| sf (fz4 cS bl38) <| sf (nof 4 (p:=sl qaa r1.Kids) (qad qab r1.Kids)) <| sf (nof 4 (p:=sl qaa o6) (qad qab o6)) <| sz (qbn (⟨t.Op,t.Name,o37.2.2.1,l38,r1,o6⟩:tType) []) <| sy (qav (⟨t.Op,t.Name,o37.2.2.1,l38,r1,o6⟩:tType)) <| en (aI (qbR (⟨t.Op,t.Name,o37.2.2.1,l38,r1,o6⟩:tType)) <| aI (qaf (⟨t.Op,t.Name,o37.2.2.1,l38,r1,o6⟩:tType)) <| rT)
 exact cvZ A156 Tryz.call156 Tryz.func156 (c:=b156) rfl (aI (qaf t) (aI (qbK c) trivial)) z (by kernel_rfl)
def ql6:((tType×liquidcheckref32_Change)→Option (tType))→(tType×liquidcheckref32_Change)→Option (tType):=fun (rec:(tType×liquidcheckref32_Change)→Option (tType)) (x:tType×liquidcheckref32_Change) => qjR (fun t c => rec (t,c)) x.1 x.2
def qqj (t:tType) (c:liquidcheckref32_Change):Option (tType):=fixE (ql6) (t,c)
theorem qw4 {t:tType} {c:liquidcheckref32_Change} {r:tType} (h:qqj t c = some r):CC Pg GE 156 [.agg (qac t),.agg (qah c)] (.agg (qac r)) [(2,33),(8,31)] :=
 qbX (F:=ql6) (M:=fun (x:tType×liquidcheckref32_Change) (r:tType) => CC Pg GE 156 [.agg (qac x.1),.agg (qah x.2)] (.agg (qac r)) [(2,33),(8,31)]) (fun rec hrec x r h => qwh _ (fun t c r h => hrec (t,c) r h) h) h
noncomputable def b142:Code:=Tryz.f142.body.getD .skip
def A142:List Nat:=[15,34,40]
def qdc (v:waA) (t:tType) (t11:waB) (t12:Int) (t13:Int) (m:waC) (m2:waA) (m3:waB) (m4:waA):PSt:=stt 52 [(2,sl qaa v),(3,.eptr (qac t)),(6,.bptr 1 0),(7,.bptr 2 0),(11,sl cS t11),(12,.int .i64 t12),(13,.int .i64 t13)] [.dead,.cells [.int .i64 0,.str ([]:Str),sl qac m,sl cS ([]:List Str),.int .i64 0,.str ([]:Str),.int .i64 0,sl qaa m2,sl qaa m2] [(2,33),(3,9),(7,31),(8,31)],.cells [sl cS m3,sl qaa m4] [(0,9),(1,31)]] []
def qij (v:waA) (t:tType) (t11:waB) (t12:Int) (m:waC) (m2:waA) (o:waB×waA):PSt:=stt 52 [(3,.eptr (qac t)),(6,.bptr 1 0),(7,.bptr 2 0)] [.dead,.cells [.int .i64 0,.str ([]:Str),sl qac m,sl cS ([]:List Str),.int .i64 0,.str ([]:Str),.int .i64 0,sl qaa m2,sl qaa m2] [(2,33),(3,9),(7,31),(8,31)],.cells [sl cS o.1,sl qaa o.2] [(0,9),(1,31)]] []
def qs8 (v:waA) (t:tType) (i:Int) (s:Str) (t11:waB) (t12:Int) (m:waC) (m2:waA) (m3:waB) (m4:waA):PSt:=stt 52 [(2,sl qaa v),(3,.eptr (qac t)),(6,.bptr 1 0),(7,.bptr 2 0),(8,.int .i64 i),(9,.str s),(11,sl cS t11),(12,.int .i64 t12),(13,.int .i64 i)] [.dead,.cells [.int .i64 0,.str ([]:Str),sl qac m,sl cS ([]:List Str),.int .i64 0,.str ([]:Str),.int .i64 0,sl qaa m2,sl qaa m2] [(2,33),(3,9),(7,31),(8,31)],.cells [sl cS m3,sl qaa m4] [(0,9),(1,31)]] []
def qfM (v:waA) (t:tType) (i:Int) (s:Str) (t11:waB) (t12:Int) (m:waC) (m2:waA) (m3:waB) (m4:waA) (o:Bool):PSt:=stt 52 [(2,sl qaa v),(3,.eptr (qac t)),(6,.bptr 1 0),(7,.bptr 2 0),(8,.int .i64 i),(9,.str s),(11,sl cS t11),(12,.int .i64 t12),(13,.int .i64 i),(32,.bool o)] [.dead,.cells [.int .i64 0,.str ([]:Str),sl qac m,sl cS ([]:List Str),.int .i64 0,.str ([]:Str),.int .i64 0,sl qaa m2,sl qaa m2] [(2,33),(3,9),(7,31),(8,31)],.cells [sl cS m3,sl qaa m4] [(0,9),(1,31)]] []
def qj8 (v:waA) (i:Int) (s:Str) (m3:waB):Option ((Bool)) :=
 if (decide (i < (v.length:Int))) = true then
  if (!(s == ([118]:Str))) = true then
   (qep m3 s).bind fun r6 =>
   some (decide (r6 < 0))
  else
   some false
 else
  some false
theorem qrj (v:waA) (t:tType) (i:Int) (s:Str) (t11:waB) (t12:Int) (m:waC) (m2:waA) (m3:waB) (m4:waA) {x:(Bool)} (h:qj8 v i s m3 = some x) :
  Sat Pg GE 0 (cA b142 7670) (EX .normal (qfM v t i s t11 t12 m m2 m3 m4 x)) (qs8 v t i s t11 t12 m m2 m3 m4):=by
 rcases ifs h with ⟨c3,h⟩ | ⟨c3,h⟩
 ·have p5:=fun {sc F} (r:PS sc F) => svn (sT29.ln v) <| sg 5 c3 <| r
  rcases ifs h with ⟨c4,h⟩ | ⟨c4,h⟩
  ·obtain ⟨r6,br6,h⟩:=bnd h
   obtain rfl:=lf h
   have z:=p5 <| sg 9 c4 <| ss <| sca (qfr br6) <| eF .normal (qfM v t i s t11 t12 m m2 m3 m4 (decide (r6 < 0)))
   exact pcZ A142 z (by kernel_rfl)
  ·obtain rfl:=lf h
   have z:=p5 <| sg 9 c4 <| eF .normal (qfM v t i s t11 t12 m m2 m3 m4 false)
   exact pcZ A142 z (by kernel_rfl)
 ·obtain rfl:=lf h
  have z:=svn (sT29.ln v) <| sg 5 c3 <| eF .normal (qfM v t i s t11 t12 m m2 m3 m4 false)
  exact pcZ A142 z (by kernel_rfl)
def qb2 (v:waA) (t11:waB) (t12:Int) (t13:Int) (m3:waB) (m4:waA):Option ((Int×waB×waA)⊕((waB×waA))) :=
 if (decide (t13 < t12)) = true then
  (idx t11 t13).bind fun x2 =>
  (qj8 v t13 x2 m3).bind fun o7 =>
  if o7 = true then
   (app m3 ([x2]:List Str)).bind fun l10 =>
   (idx v t13).bind fun x11 =>
   (app m4 ([x11]:List tPred)).bind fun l12 =>
   some (.inl (w64 (t13 + 1),l10,l12))
  else
   some (.inl (w64 (t13 + 1),m3,m4))
 else
  some (.inr (m3,m4))
def qko (v:waA) (t11:waB) (t12:Int) (t13:Int) (m3:waB) (m4:waA):Option ((waB×waA)):=loop (fun (zz:Int×waB×waA) => qb2 v t11 t12 zz.1 zz.2.1 zz.2.2) (t13,m3,m4)
theorem qqH (v:waA) (t:tType) (t11:waB) (t12:Int) (t13:Int) (m:waC) (m2:waA) (m3:waB) (m4:waA) {y:(Int×waB×waA)⊕((waB×waA))} (h:qb2 v t11 t12 t13 m3 m4 = some y) :
  Sat Pg GE 0 (cA b142 119) (LQ (fun (zz:Int×waB×waA) => qdc v t t11 t12 zz.1 m m2 zz.2.1 zz.2.2) (fun _ => .exit 0) (qij v t t11 t12 m m2) y) (qdc v t t11 t12 t13 m m2 m3 m4):=by
 rcases ifs h with ⟨c1,h⟩ | ⟨c1,h⟩
 ·obtain ⟨x2,bx2,h⟩:=bnd h
  obtain ⟨o7,bo7,h⟩:=bnd h
  have p9:=fun {sc F} (r:PS sc F) => sg 0 c1 <| sv (sT22.ia (k := .i64) bx2) <| sv (qaR sc9 (.str x2) []) <| spa 0 <| spc (qrj v t t13 x2 t11 t12 m m2 m3 m4 bo7) <| r
  rcases ifs h with ⟨c8,h⟩ | ⟨c8,h⟩
  ·obtain ⟨l10,bl10,h⟩:=bnd h
   obtain ⟨x11,bx11,h⟩:=bnd h
   obtain ⟨l12,bl12,h⟩:=bnd h
   obtain rfl:=lf h
   have z:=p9 <| sg 0 c8 <| sv (sT22.mk' (v:=PVal.str) pcS ([x2]:List Str) 1 (by kernel_rfl)) <| sv (sT22.ap bl10) <| sdr [0,1,0,0,12,28,60,127,255,511] <| sv (sT29.ia (k := .i64) bx11) <| sv (qaj x11) <| sv (sT29.mk' (v:=qbq) qaE ([x11]:List tPred) 1 (by kernel_rfl)) <| sv (sT29.ap bl12) <| ssf (rfl:qaJ (sl qaa l12) = some [sl qaa l12]) <| eF .normal (qdc v t t11 t12 (w64 (t13 + 1)) m m2 l10 l12)
   exact nxZ A142 z (by kernel_rfl)
  ·obtain rfl:=lf h
   have z:=p9 <| sg 0 c8 <| eF .normal (qdc v t t11 t12 (w64 (t13 + 1)) m m2 m3 m4)
   exact nxZ A142 z (by kernel_rfl)
 ·obtain rfl:=lf h
  have z:=sg 0 c1 <| eF (.exit 0) (qij v t t11 t12 m m2 (m3,m4))
  exact ovZ A142 (by intro hx; cases hx) z (by kernel_rfl)
theorem qre (v:waA) (t:tType) (t11:waB) (t12:Int) (t13:Int) (m:waC) (m2:waA) (m3:waB) (m4:waA) {x:(waB×waA)} (h:qko v t11 t12 t13 m3 m4 = some x) :
  Sat Pg GE 0 (.loop (cA b142 119)) (EX (.exit 0) (qij v t t11 t12 m m2 x)) (qdc v t t11 t12 t13 m m2 m3 m4) :=
 Sat.loop (S:=fun (zz:Int×waB×waA) => qdc v t t11 t12 zz.1 m m2 zz.2.1 zz.2.2) (ex:=(fun _ => .exit 0)) (s:=(t13,m3,m4)) h fun zz y hy => qqH v t t11 t12 zz.1 m m2 zz.2.1 zz.2.2 hy
def qoi (t:tType) (names:waB) (a:waA):Option (tType) :=
 (qko a names (names.length:Int) 0 ([]:List Str) ([]:List tPred)).bind fun o13 =>
 (qqj t (⟨o13.1,o13.2⟩:liquidcheckref32_Change)).bind fun r14 =>
 some r14
theorem qvw {t:tType} {names:waB} {a:waA} {r:tType} (h:qoi t names a = some r):CC Pg GE 142 [.agg (qac t),sl cS names,sl qaa a] (.agg (qac r)) [(2,33),(8,31)]:=by
 obtain ⟨o13,bo13,h⟩:=bnd h
 obtain ⟨r14,br14,h⟩:=bnd h
 obtain rfl:=lf h
 have z:=se (qbH t) <| sx pz33 <| sb (qeZ ) (qe2 ) <| sx qHy <| sy (qa3 (⟨([]:List Str),([]:List tPred)⟩:liquidcheckref32_Change)) <| svn (sT22.ln names) <| spc (qre a t names (names.length:Int) 0 ([]:List tType) ([]:List tPred) ([]:List Str) ([]:List tPred) bo13) <| sv (qaW t) <| sv (qbC (⟨o13.1,o13.2⟩:liquidcheckref32_Change) []) <| sca (qw4 br14) <| sy (qav r14) <| en (aI (qbR r14) <| aI (qaf r14) <| rT)
 exact cvZ A142 Tryz.call142 Tryz.func142 (c:=b142) rfl (aI (qaf t) (aI (qad clS names) (aI (qad qab a) trivial))) z (by kernel_rfl)
noncomputable def b126:Code:=Tryz.f126.body.getD .skip
def A126:List Nat:=[]
def qrU (t:tType) (name:Str) (a:tPred):Option (tType) :=
 (qoi t ([name]:List Str) ([a]:List tPred)).bind fun r1 =>
 some r1
theorem qAH {t:tType} {name:Str} {a:tPred} {r:tType} (h:qrU t name a = some r):CC Pg GE 126 [.agg (qac t),.str name,.agg (qaa a)] (.agg (qac r)) [(2,33),(8,31)]:=by
 obtain ⟨r1,br1,h⟩:=bnd h
 obtain rfl:=lf h
 have z:=se (qbH t) <| se (qaL a) <| sx pz33 <| sv (qaW t) <| sv (sT22.mk' (v:=PVal.str) pcS ([name]:List Str) 1 (by kernel_rfl)) <| sv (qaj a) <| sv (sT29.mk' (v:=qbq) qaE ([a]:List tPred) 1 (by kernel_rfl)) <| sca (qvw br1) <| sy (qav r1) <| en (aI (qbR r1) <| aI (qaf r1) <| rT)
 exact cvZ A126 Tryz.call126 Tryz.func126 (c:=b126) rfl (aI (qaf t) (aI trivial (aI (qab a) trivial))) z (by kernel_rfl)
end Go.Proofs.YtgldgpdhblndkaaGreatDoor
