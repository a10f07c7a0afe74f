/- WHAT IS PROVED: parts of the proof, put together by a program (G11). Conditions: none. -/
import Derived.Test.YtgldgpdhblndkaaGreatDoorPkE38
noncomputable section
namespace Go.Proofs.YtgldgpdhblndkaaGreatDoor
open Go
set_option linter.unusedVariables false
set_option maxRecDepth 100000
noncomputable def b95:Code:=Tryz.f95.body.getD .skip
def A95:List Nat:=[34,62]
def qdy (scope:waB) (t:tType) (used:waB) (t31:Int) (t32:Int) (m:waC) (m2:waA) (m3:Int) (m4:Str) (n:Nat) (n2:Nat) (m5:Int) (m6:Str) (m7:Int) (m8:waA) (m9:waA) (w3:List Str) (w4:List tType):PSt:=stt 102 [(1,sl cS scope),(2,.eptr (qac t)),(4,.bptr 1 0),(5,sl cS used),(6,.bptr 2 0),(31,.int .i64 t31),(32,.int .i64 t32)] [.dead,.cells [.int .i64 0,.str ([]:Str),sl qac m,sl cS ([]:List Str),.int .i64 0,.str ([]:Str),.int .i64 0,sl qaa m2,sl qaa m2] [(2,33),(3,9),(7,31),(8,31)],.cells [.int .i64 m3,.str m4,.bsl 4 0 n,.bsl 3 0 n2,.int .i64 m5,.str m6,.int .i64 m7,sl qaa m8,sl qaa m9] [],.cells (flC cS w3) [],.cells (flC qac w4) []] [((5,0),9)]
def qjx (scope:waB) (t:tType) (t31:Int) (m:waC) (m2:waA) (m3:Int) (m4:Str) (n:Nat) (n2:Nat) (m5:Int) (m6:Str) (m7:Int) (m8:waA) (m9:waA) (o:List Str×List tType):PSt:=stt 102 [(4,.bptr 1 0),(6,.bptr 2 0)] [.dead,.cells [.int .i64 0,.str ([]:Str),sl qac m,sl cS ([]:List Str),.int .i64 0,.str ([]:Str),.int .i64 0,sl qaa m2,sl qaa m2] [(2,33),(3,9),(7,31),(8,31)],.cells [.int .i64 m3,.str m4,.bsl 4 0 n,.bsl 3 0 n2,.int .i64 m5,.str m6,.int .i64 m7,sl qaa m8,sl qaa m9] [],.cells (flC cS o.1) [],.cells (flC qac o.2) []] []
def quy (scope:waB) (t:tType) (used:waB) (i:Int) (old:Str) (t31:Int) (m:waC) (m2:waA) (m3:Int) (m4:Str) (n:Nat) (n2:Nat) (m5:Int) (m6:Str) (m7:Int) (m8:waA) (m9:waA) (w3:List Str) (w4:List tType):PSt:=stt 102 [(1,sl cS scope),(2,.eptr (qac t)),(4,.bptr 1 0),(5,sl cS used),(6,.bptr 2 0),(7,.int .i64 i),(8,.str old),(31,.int .i64 t31),(32,.int .i64 i)] [.dead,.cells [.int .i64 0,.str ([]:Str),sl qac m,sl cS ([]:List Str),.int .i64 0,.str ([]:Str),.int .i64 0,sl qaa m2,sl qaa m2] [(2,33),(3,9),(7,31),(8,31)],.cells [.int .i64 m3,.str m4,.bsl 4 0 n,.bsl 3 0 n2,.int .i64 m5,.str m6,.int .i64 m7,sl qaa m8,sl qaa m9] [],.cells (flC cS w3) [],.cells (flC qac w4) []] [((5,0),9)]
def qjw (scope:waB) (t:tType) (used:waB) (i:Int) (old:Str) (t31:Int) (m:waC) (m2:waA) (m3:Int) (m4:Str) (n:Nat) (n2:Nat) (m5:Int) (m6:Str) (m7:Int) (m8:waA) (m9:waA) (w3:List Str) (w4:List tType) (o:Bool):PSt:=stt 102 [(1,sl cS scope),(2,.eptr (qac t)),(4,.bptr 1 0),(5,sl cS used),(6,.bptr 2 0),(7,.int .i64 i),(8,.str old),(31,.int .i64 t31),(32,.int .i64 i),(51,.bool o)] [.dead,.cells [.int .i64 0,.str ([]:Str),sl qac m,sl cS ([]:List Str),.int .i64 0,.str ([]:Str),.int .i64 0,sl qaa m2,sl qaa m2] [(2,33),(3,9),(7,31),(8,31)],.cells [.int .i64 m3,.str m4,.bsl 4 0 n,.bsl 3 0 n2,.int .i64 m5,.str m6,.int .i64 m7,sl qaa m8,sl qaa m9] [],.cells (flC cS w3) [],.cells (flC qac w4) []] [((5,0),9)]
def qlg (scope:waB) (i:Int) (old:Str) (n:Nat):Option ((Bool)) :=
 (qep scope old).bind fun r8 =>
 if (decide (r8 < 0)) = true then
  some true
 else
  some (decide ((w64 (i + 1)) ≥ (n:Int)))
theorem qts (scope:waB) (t:tType) (used:waB) (i:Int) (old:Str) (t31:Int) (m:waC) (m2:waA) (m3:Int) (m4:Str) (n:Nat) (n2:Nat) (m5:Int) (m6:Str) (m7:Int) (m8:waA) (m9:waA) (w3:List Str) (w4:List tType) {x:(Bool)} (h:qlg scope i old n = some x) :
  Sat Pg GE 0 (cA b95 260060) (EX .normal (qjw scope t used i old t31 m m2 m3 m4 n n2 m5 m6 m7 m8 m9 w3 w4 x)) (quy scope t used i old t31 m m2 m3 m4 n n2 m5 m6 m7 m8 m9 w3 w4):=by
 obtain ⟨r8,br8,h⟩:=bnd h
 rcases ifs h with ⟨c9,h⟩ | ⟨c9,h⟩
 ·obtain rfl:=lf h
  have z:=sca (qfr br8) <| sg 5 c9 <| eF .normal (qjw scope t used i old t31 m m2 m3 m4 n n2 m5 m6 m7 m8 m9 w3 w4 true)
  exact pcZ A95 z (by kernel_rfl)
 ·obtain rfl:=lf h
  have z:=sca (qfr br8) <| sg 5 c9 <| ss <| svn (sT27.lnR 4 0 n) <| eF .normal (qjw scope t used i old t31 m m2 m3 m4 n n2 m5 m6 m7 m8 m9 w3 w4 (decide ((w64 (i + 1)) ≥ (n:Int))))
  exact pcZ A95 z (by kernel_rfl)
def qex (scope:waB) (t:tType) (used:waB) (old:Str) (fresh:Str) (k:Int) (t31:Int) (t32:Int) (m:waC) (m2:waA) (m3:Int) (m4:Str) (n:Nat) (n2:Nat) (m5:Int) (m6:Str) (m7:Int) (m8:waA) (m9:waA) (w3:List Str) (w4:List tType):PSt:=stt 102 [(1,sl cS scope),(2,.eptr (qac t)),(4,.bptr 1 0),(5,sl cS used),(6,.bptr 2 0),(8,.str old),(9,.str fresh),(10,.int .i64 k),(31,.int .i64 t31),(32,.int .i64 t32)] [.dead,.cells [.int .i64 0,.str ([]:Str),sl qac m,sl cS ([]:List Str),.int .i64 0,.str ([]:Str),.int .i64 0,sl qaa m2,sl qaa m2] [(2,33),(3,9),(7,31),(8,31)],.cells [.int .i64 m3,.str m4,.bsl 4 0 n,.bsl 3 0 n2,.int .i64 m5,.str m6,.int .i64 m7,sl qaa m8,sl qaa m9] [],.cells (flC cS w3) [],.cells (flC qac w4) []] [((5,0),9)]
def qgx (scope:waB) (t:tType) (used:waB) (old:Str) (fresh:Str) (t31:Int) (t32:Int) (m:waC) (m2:waA) (m3:Int) (m4:Str) (n:Nat) (n2:Nat) (m5:Int) (m6:Str) (m7:Int) (m8:waA) (m9:waA) (w3:List Str) (o:List tType):PSt:=stt 102 [(1,sl cS scope),(2,.eptr (qac t)),(4,.bptr 1 0),(5,sl cS used),(6,.bptr 2 0),(31,.int .i64 t31),(32,.int .i64 t32)] [.dead,.cells [.int .i64 0,.str ([]:Str),sl qac m,sl cS ([]:List Str),.int .i64 0,.str ([]:Str),.int .i64 0,sl qaa m2,sl qaa m2] [(2,33),(3,9),(7,31),(8,31)],.cells [.int .i64 m3,.str m4,.bsl 4 0 n,.bsl 3 0 n2,.int .i64 m5,.str m6,.int .i64 m7,sl qaa m8,sl qaa m9] [],.cells (flC cS w3) [],.cells (flC qac o) []] [((5,0),9)]
def qul (scope:waB) (t:tType) (used:waB) (old:Str) (fresh:Str) (k:Int) (t31:Int) (t32:Int) (m:waC) (m2:waA) (m3:Int) (m4:Str) (n:Nat) (n2:Nat) (m5:Int) (m6:Str) (m7:Int) (m8:waA) (m9:waA) (w3:List Str) (w4:List tType):PSt:=stt 102 [(1,sl cS scope),(2,.eptr (qac t)),(4,.bptr 1 0),(5,sl cS used),(6,.bptr 2 0),(8,.str old),(9,.str fresh),(10,.int .i64 k),(31,.int .i64 t31),(32,.int .i64 t32)] [.dead,.cells [.int .i64 0,.str ([]:Str),sl qac m,sl cS ([]:List Str),.int .i64 0,.str ([]:Str),.int .i64 0,sl qaa m2,sl qaa m2] [(2,33),(3,9),(7,31),(8,31)],.cells [.int .i64 m3,.str m4,.bsl 4 0 n,.bsl 3 0 n2,.int .i64 m5,.str m6,.int .i64 m7,sl qaa m8,sl qaa m9] [],.cells (flC cS w3) [],.cells (flC qac w4) []] [((5,0),9)]
def qje (scope:waB) (t:tType) (used:waB) (old:Str) (fresh:Str) (k:Int) (t31:Int) (t32:Int) (m:waC) (m2:waA) (m3:Int) (m4:Str) (n:Nat) (n2:Nat) (m5:Int) (m6:Str) (m7:Int) (m8:waA) (m9:waA) (w3:List Str) (w4:List tType) (o:Bool):PSt:=stt 102 [(1,sl cS scope),(2,.eptr (qac t)),(4,.bptr 1 0),(5,sl cS used),(6,.bptr 2 0),(8,.str old),(9,.str fresh),(10,.int .i64 k),(31,.int .i64 t31),(32,.int .i64 t32),(99,.bool o)] [.dead,.cells [.int .i64 0,.str ([]:Str),sl qac m,sl cS ([]:List Str),.int .i64 0,.str ([]:Str),.int .i64 0,sl qaa m2,sl qaa m2] [(2,33),(3,9),(7,31),(8,31)],.cells [.int .i64 m3,.str m4,.bsl 4 0 n,.bsl 3 0 n2,.int .i64 m5,.str m6,.int .i64 m7,sl qaa m8,sl qaa m9] [],.cells (flC cS w3) [],.cells (flC qac w4) []] [((5,0),9)]
def qln (t:tType) (old:Str) (k:Int):Option ((Bool)) :=
 if (decide (k < (t.Names.length:Int))) = true then
  (idx t.Names k).bind fun x25 =>
  some (x25 == old)
 else
  some false
theorem qsZ (scope:waB) (t:tType) (used:waB) (old:Str) (fresh:Str) (k:Int) (t31:Int) (t32:Int) (m:waC) (m2:waA) (m3:Int) (m4:Str) (n:Nat) (n2:Nat) (m5:Int) (m6:Str) (m7:Int) (m8:waA) (m9:waA) (w3:List Str) (w4:List tType) {x:(Bool)} (h:qln t old k = some x) :
  Sat Pg GE 0 (cA b95 266305526) (EX .normal (qje scope t used old fresh k t31 t32 m m2 m3 m4 n n2 m5 m6 m7 m8 m9 w3 w4 x)) (qul scope t used old fresh k t31 t32 m m2 m3 m4 n n2 m5 m6 m7 m8 m9 w3 w4):=by
 have p24:=fun {sc F} (r:PS sc F) => sv (qan t) <| sv (qao t) <| svn (sT22.ln t.Names) <| r
 rcases ifs h with ⟨c23,h⟩ | ⟨c23,h⟩
 ·obtain ⟨x25,bx25,h⟩:=bnd h
  obtain rfl:=lf h
  have z:=p24 <| sg 6 c23 <| sv (qan t) <| sv (qao t) <| sv (sT22.ia (k := .i64) bx25) <| sv (qaR sc9 (.str x25) []) <| eF .normal (qje scope t used old fresh k t31 t32 m m2 m3 m4 n n2 m5 m6 m7 m8 m9 w3 w4 (x25 == old))
  exact pcZ A95 z (by kernel_rfl)
 ·obtain rfl:=lf h
  have z:=p24 <| sg 6 c23 <| eF .normal (qje scope t used old fresh k t31 t32 m m2 m3 m4 n n2 m5 m6 m7 m8 m9 w3 w4 false)
  exact pcZ A95 z (by kernel_rfl)
def qc0 (t:tType) (old:Str) (fresh:Str) (n:Nat) (k:Int) (w4:List tType):Option ((Int×List tType)⊕(waC)) :=
 if (decide (k < (n:Int))) = true then
  (idn n w4 k).bind fun x19 =>
  (qrU x19 old (⟨3,fresh,0,([]:List tPred)⟩:tPred)).bind fun r20 =>
  (idn n w4 k).bind fun x21 =>
  (upd w4 k r20).bind fun l22 =>
  (qln t old k).bind fun o26 =>
  if o26 = true then
   some (.inr l22)
  else
   some (.inl (w64 (k + 1),l22))
 else
  some (.inr w4)
def qiG (t:tType) (old:Str) (fresh:Str) (n:Nat) (k:Int) (w4:List tType):Option (waC):=loop (fun (zz:Int×List tType) => qc0 t old fresh n zz.1 zz.2) (k,w4)
theorem qrK (scope:waB) (t:tType) (used:waB) (old:Str) (fresh:Str) (k:Int) (t31:Int) (t32:Int) (m:waC) (m2:waA) (m3:Int) (m4:Str) (n:Nat) (n2:Nat) (m5:Int) (m6:Str) (m7:Int) (m8:waA) (m9:waA) (w3:List Str) (w4:List tType) {y:(Int×List tType)⊕(waC)} (h:qc0 t old fresh n k w4 = some y) :
  Sat Pg GE 0 (cA b95 8322047) (LQ (fun (zz:Int×List tType) => qex scope t used old fresh zz.1 t31 t32 m m2 m3 m4 n n2 m5 m6 m7 m8 m9 w3 zz.2) (fun _ => .exit 2) (qgx scope t used old fresh t31 t32 m m2 m3 m4 n n2 m5 m6 m7 m8 m9 w3) y) (qex scope t used old fresh k t31 t32 m m2 m3 m4 n n2 m5 m6 m7 m8 m9 w3 w4):=by
 have p18:=fun {sc F} (r:PS sc F) => ss <| svn (sT27.lnR 4 0 n) <| r
 rcases ifs h with ⟨c17,h⟩ | ⟨c17,h⟩
 ·obtain ⟨x19,bx19,h⟩:=bnd h
  obtain ⟨r20,br20,h⟩:=bnd h
  obtain ⟨x21,bx21,h⟩:=bnd h
  obtain ⟨l22,bl22,h⟩:=bnd h
  obtain ⟨o26,bo26,h⟩:=bnd h
  have p28:=fun {sc F} (r:PS sc F) => p18 <| sg 0 c17 <| si0 (.dx [0,1,0,0,8,0,56,120,0,0,512,2040,4095,8191] [] [] [4]) <| ss <| ss <| sv (sT27.iaN 4 (k := .i64) bx19) <| sv (sT27.ldN (qy4 x19) bx19) <| sb (qfj 3 fresh) (qfn 3 fresh) <| sca (qAH br20) <| sv (sT27.iaN 4 (k := .i64) bx21) <| swr (sT27.stR (qdn r20) bl22) <| spa 0 <| spc (qsZ scope t used old fresh k t31 t32 m m2 m3 m4 n n2 m5 m6 m7 m8 m9 w3 l22 bo26) <| r
  rcases ifs h with ⟨c27,h⟩ | ⟨c27,h⟩
  ·obtain rfl:=lf h
   have z:=p28 <| sg 0 c27 <| eF (.exit 2) (qgx scope t used old fresh t31 t32 m m2 m3 m4 n n2 m5 m6 m7 m8 m9 w3 l22)
   exact ovZ A95 (by intro hx; cases hx) z (by kernel_rfl)
  ·obtain rfl:=lf h
   have z:=p28 <| sg 0 c27 <| eF .normal (qex scope t used old fresh (w64 (k + 1)) t31 t32 m m2 m3 m4 n n2 m5 m6 m7 m8 m9 w3 l22)
   exact nxZ A95 z (by kernel_rfl)
 ·obtain rfl:=lf h
  have z:=p18 <| sg 0 c17 <| eF (.exit 2) (qgx scope t used old fresh t31 t32 m m2 m3 m4 n n2 m5 m6 m7 m8 m9 w3 w4)
  exact ovZ A95 (by intro hx; cases hx) z (by kernel_rfl)
theorem qs0 (scope:waB) (t:tType) (used:waB) (old:Str) (fresh:Str) (k:Int) (t31:Int) (t32:Int) (m:waC) (m2:waA) (m3:Int) (m4:Str) (n:Nat) (n2:Nat) (m5:Int) (m6:Str) (m7:Int) (m8:waA) (m9:waA) (w3:List Str) (w4:List tType) {x:waC} (h:qiG t old fresh n k w4 = some x) :
  Sat Pg GE 0 (.loop (cA b95 8322047)) (EX (.exit 2) (qgx scope t used old fresh t31 t32 m m2 m3 m4 n n2 m5 m6 m7 m8 m9 w3 x)) (qex scope t used old fresh k t31 t32 m m2 m3 m4 n n2 m5 m6 m7 m8 m9 w3 w4) :=
 Sat.loop (S:=fun (zz:Int×List tType) => qex scope t used old fresh zz.1 t31 t32 m m2 m3 m4 n n2 m5 m6 m7 m8 m9 w3 zz.2) (ex:=(fun _ => .exit 2)) (s:=(k,w4)) h fun zz y hy => qrK scope t used old fresh zz.1 t31 t32 m m2 m3 m4 n n2 m5 m6 m7 m8 m9 w3 zz.2 hy
def qcW (scope:waB) (t:tType) (t31:Int) (n:Nat) (n2:Nat) (used:waB) (t32:Int) (w3:List Str) (w4:List tType):Option ((waB×Int×List Str×List tType)⊕((List Str×List tType))) :=
 if (decide (t32 < t31)) = true then
  (idn n2 w3 t32).bind fun x7 =>
  (qlg scope t32 x7 n).bind fun o10 =>
  if o10 = true then
   some (.inl (used,w64 (t32 + 1),w3,w4))
  else
   (qog used x7).bind fun r13 =>
   (qci used ([r13]:List Str)).bind fun r14 =>
   (idn n2 w3 t32).bind fun x15 =>
   (upd w3 t32 r13).bind fun l16 =>
   (qiG t x7 r13 n (w64 (t32 + 1)) w4).bind fun o29 =>
   some (.inl (r14,w64 (t32 + 1),l16,o29))
 else
  some (.inr (w3,w4))
def qlc (scope:waB) (t:tType) (t31:Int) (n:Nat) (n2:Nat) (used:waB) (t32:Int) (w3:List Str) (w4:List tType):Option ((List Str×List tType)):=loop (fun (zz:waB×Int×List Str×List tType) => qcW scope t t31 n n2 zz.1 zz.2.1 zz.2.2.1 zz.2.2.2) (used,t32,w3,w4)
theorem qse (scope:waB) (t:tType) (used:waB) (t31:Int) (t32:Int) (m:waC) (m2:waA) (m3:Int) (m4:Str) (n:Nat) (n2:Nat) (m5:Int) (m6:Str) (m7:Int) (m8:waA) (m9:waA) (w3:List Str) (w4:List tType) {y:(waB×Int×List Str×List tType)⊕((List Str×List tType))} (h:qcW scope t t31 n n2 used t32 w3 w4 = some y) :
  Sat Pg GE 0 (cA b95 1015) (LQ (fun (zz:waB×Int×List Str×List tType) => qdy scope t zz.1 t31 zz.2.1 m m2 m3 m4 n n2 m5 m6 m7 m8 m9 zz.2.2.1 zz.2.2.2) (fun _ => .exit 0) (qjx scope t t31 m m2 m3 m4 n n2 m5 m6 m7 m8 m9) y) (qdy scope t used t31 t32 m m2 m3 m4 n n2 m5 m6 m7 m8 m9 w3 w4):=by
 rcases ifs h with ⟨c6,h⟩ | ⟨c6,h⟩
 ·obtain ⟨x7,bx7,h⟩:=bnd h
  obtain ⟨o10,bo10,h⟩:=bnd h
  have p12:=fun {sc F} (r:PS sc F) => sg 0 c6 <| ss <| sv (sT22.iaN 3 (k := .i64) bx7) <| sv (sT22.ldN (fun r => qaR sc9 (.str x7) r) bx7) <| spa 1 <| spc (qts scope t used t32 x7 t31 m m2 m3 m4 n n2 m5 m6 m7 m8 m9 w3 w4 bo10) <| r
  rcases ifs h with ⟨c11,h⟩ | ⟨c11,h⟩
  ·obtain rfl:=lf h
   have z:=p12 <| sg 0 c11 <| eF .normal (qdy scope t used t31 (w64 (t32 + 1)) m m2 m3 m4 n n2 m5 m6 m7 m8 m9 w3 w4)
   exact nxZ A95 z (by kernel_rfl)
  ·obtain ⟨r13,br13,h⟩:=bnd h
   obtain ⟨r14,br14,h⟩:=bnd h
   obtain ⟨x15,bx15,h⟩:=bnd h
   obtain ⟨l16,bl16,h⟩:=bnd h
   obtain ⟨o29,bo29,h⟩:=bnd h
   obtain rfl:=lf h
   have z:=p12 <| sg 0 c11 <| sca (qtM br13) <| sv (sT22.mk' (v:=PVal.str) pcS ([r13]:List Str) 1 (by kernel_rfl)) <| sca (qdb br14) <| ss <| sv (sT22.iaN 3 (k := .i64) bx15) <| swr (sT22.stR (pcS r13) bl16) <| spc (qs0 scope t r14 x7 r13 (w64 (t32 + 1)) t31 t32 m m2 m3 m4 n n2 m5 m6 m7 m8 m9 l16 w4 bo29) <| eF .normal (qdy scope t r14 t31 (w64 (t32 + 1)) m m2 m3 m4 n n2 m5 m6 m7 m8 m9 l16 o29)
   exact nxZ A95 z (by kernel_rfl)
 ·obtain rfl:=lf h
  have z:=sg 0 c6 <| eF (.exit 0) (qjx scope t t31 m m2 m3 m4 n n2 m5 m6 m7 m8 m9 (w3,w4))
  exact ovZ A95 (by intro hx; cases hx) z (by kernel_rfl)
theorem qta (scope:waB) (t:tType) (used:waB) (t31:Int) (t32:Int) (m:waC) (m2:waA) (m3:Int) (m4:Str) (n:Nat) (n2:Nat) (m5:Int) (m6:Str) (m7:Int) (m8:waA) (m9:waA) (w3:List Str) (w4:List tType) {x:(List Str×List tType)} (h:qlc scope t t31 n n2 used t32 w3 w4 = some x) :
  Sat Pg GE 0 (.loop (cA b95 1015)) (EX (.exit 0) (qjx scope t t31 m m2 m3 m4 n n2 m5 m6 m7 m8 m9 x)) (qdy scope t used t31 t32 m m2 m3 m4 n n2 m5 m6 m7 m8 m9 w3 w4) :=
 Sat.loop (S:=fun (zz:waB×Int×List Str×List tType) => qdy scope t zz.1 t31 zz.2.1 m m2 m3 m4 n n2 m5 m6 m7 m8 m9 zz.2.2.1 zz.2.2.2) (ex:=(fun _ => .exit 0)) (s:=(used,t32,w3,w4)) h fun zz y hy => qse scope t zz.1 t31 zz.2.1 m m2 m3 m4 n n2 m5 m6 m7 m8 m9 zz.2.2.1 zz.2.2.2 hy
def qmZ (t:tType) (scope:waB):Option (tType) :=
 (quP t).bind fun r1 =>
 (qci scope r1).bind fun r2 =>
 (qci r2 t.Names).bind fun r3 =>
 (app [] t.Names).bind fun l4 =>
 (app [] t.Args).bind fun l5 =>
 (qlc scope t (l4.length:Int) l5.length l4.length r3 0 l4 l5).bind fun o30 =>
 (frz l4.length o30.1).bind fun l31 =>
 (frz l5.length o30.2).bind fun l32 =>
 some (⟨t.Op,t.Name,l32,l31,t.Pred,t.Preds⟩:tType)
theorem qww {t:tType} {scope:waB} {r:tType} (h:qmZ t scope = some r):CC Pg GE 95 [.agg (qac t),sl cS scope] (.agg (qac r)) []:=by
 obtain ⟨r1,br1,h⟩:=bnd h
 obtain ⟨r2,br2,h⟩:=bnd h
 obtain ⟨r3,br3,h⟩:=bnd h
 obtain ⟨l4,bl4,h⟩:=bnd h
 obtain ⟨l5,bl5,h⟩:=bnd h
 obtain ⟨o30,bo30,h⟩:=bnd h
 obtain ⟨l31,bl31,h⟩:=bnd h
 obtain ⟨l32,bl32,h⟩:=bnd h
 obtain rfl:=lf h
 have z:=se (qbH t) <| sx pz33 <| sdr [0,0,2,7,0,16,63,127] <| sv (qaW t) <| sca (qv2 br1) <| sca (qdb br2) <| sv (qan t) <| sv (qao t) <| sca (qdb br3) <| sv (qaW t) <| sx pz33 <| sx (qbA t) <| sv (sT22.mk' (v:=PVal.str) pcS ([]:List Str) 0 (by kernel_rfl)) <| sv (qan t) <| sv (qao t) <| sar 3 9 (sT22.apR bl4) <| ss <| sv (sT27.mk' (v:=qha) qdn ([]:List tType) 0 (by kernel_rfl)) <| sv (qaH t) <| sv (qaI t) <| sar 4 33 (sT27.apR bl5) <| ss <| ss <| svn (sT22.lnR 3 0 l4.length) <| spc (qta scope t r3 (l4.length:Int) 0 ([]:List tType) ([]:List tPred) t.Op t.Name l5.length l4.length t.Pred.Op t.Pred.Name t.Pred.N t.Pred.Kids t.Preds l4 l5 bo30) <| sfz 3 (l31.map cS) [4,6] [4] (sT22.fz1 (m:=0) (b:=3) rfl l31) (sT22.fz2 3 l31) (fz3 cS bl31) <| sf (nof 3 (p:=sl qac ([]:List tType)) (qad qaf ([]:List tType))) <| sf (nof 3 (p:=sl cS ([]:List Str)) (qad clS ([]:List Str))) <| sf (nof 3 (p:=sl qaa ([]:List tPred)) (qad qab ([]:List tPred))) <| sf (nof 3 (p:=sl qaa ([]:List tPred)) (qad qab ([]:List tPred))) <| sf (fz4 cS bl31) <| sf (nof 3 (p:=sl qaa t.Pred.Kids) (qad qab t.Pred.Kids)) <| sf (nof 3 (p:=sl qaa t.Preds) (qad qab t.Preds)) <| sf (noF 3 qaf o30.2) <| sfz 4 (l32.map qac) [4,6] [] (sT27.fz1 (m:=0) (b:=4) rfl l32) (sT27.fz2 4 l32) (fz3 qac bl32) <| sf (nof 4 (p:=sl qac ([]:List tType)) (qad qaf ([]:List tType))) <| sf (nof 4 (p:=sl cS ([]:List Str)) (qad clS ([]:List Str))) <| sf (nof 4 (p:=sl qaa ([]:List tPred)) (qad qab ([]:List tPred))) <| sf (nof 4 (p:=sl qaa ([]:List tPred)) (qad qab ([]:List tPred))) <| sf (fz4 qac bl32) <| sf (nof 4 (p:=sl cS l31) (qad clS l31)) <| sf (nof 4 (p:=sl qaa t.Pred.Kids) (qad qab t.Pred.Kids)) <| sf (nof 4 (p:=sl qaa t.Preds) (qad qab t.Preds)) <| sv (qbn (⟨t.Op,t.Name,l32,l31,t.Pred,t.Preds⟩:tType) []) <| sx (qbA (⟨t.Op,t.Name,l32,l31,t.Pred,t.Preds⟩:tType)) <| en (aI (qbR (⟨t.Op,t.Name,l32,l31,t.Pred,t.Preds⟩:tType)) <| (qaf (⟨t.Op,t.Name,l32,l31,t.Pred,t.Preds⟩:tType)))
 exact cvZ A95 Tryz.call95 Tryz.func95 (c:=b95) rfl (aI (qaf t) (aI (qad clS scope) trivial)) z (by kernel_rfl)
abbrev qcT:=(tPred→waE→waD→Option (tPred))
abbrev qjV (R:qcT):Prop := ∀ (p:tPred) (abs:waE) (holes:waD) (r:tPred),R p abs holes = some r→CC Pg GE 20 [.agg (qaa p),sl qap abs,sl qai holes] (.agg (qaa r)) [(3,31)]
noncomputable def b20:Code:=Tryz.f20.body.getD .skip
def A20:List Nat:=[27,66,79]
def qhK (abs:waE) (holes:waD) (p:tPred) (t20:waA) (t21:Int) (t22:Int) (m:waA) (m2:Int) (m3:Str) (m4:Int) (m5:waA):PSt:=stt 94 [(1,sl qap abs),(2,sl qai holes),(3,.eptr (qaa p)),(6,.bptr 1 0),(7,.bptr 2 0),(20,sl qaa t20),(21,.int .i64 t21),(22,.int .i64 t22)] [.dead,.cells [.int .i64 0,.str ([]:Str),.int .i64 0,sl qaa m] [(3,31)],.cells [.int .i64 m2,.str m3,.int .i64 m4,sl qaa m5] [(3,31)]] []
def qm9 (abs:waE) (holes:waD) (p:tPred) (t20:waA) (t21:Int) (m:waA) (m2:Int) (m3:Str) (m4:Int) (o:waA):PSt:=stt 94 [(1,sl qap abs),(2,sl qai holes),(3,.eptr (qaa p)),(6,.bptr 1 0),(7,.bptr 2 0)] [.dead,.cells [.int .i64 0,.str ([]:Str),.int .i64 0,sl qaa m] [(3,31)],.cells [.int .i64 m2,.str m3,.int .i64 m4,sl qaa o] [(3,31)]] []
def qsu (R114:qcT) (abs:waE) (holes:waD) (t20:waA) (t21:Int) (t22:Int) (m5:waA):Option ((Int×waA)⊕((waA))) :=
 if (decide (t22 < t21)) = true then
  (idx t20 t22).bind fun x2 =>
  (R114 x2 abs holes).bind fun r3 =>
  (app m5 ([r3]:List tPred)).bind fun l4 =>
  some (.inl (w64 (t22 + 1),l4))
 else
  some (.inr m5)
def qqL (R114:qcT) (abs:waE) (holes:waD) (t20:waA) (t21:Int) (t22:Int) (m5:waA):Option ((waA)):=loop (fun (zz:Int×waA) => qsu R114 abs holes t20 t21 zz.1 zz.2) (t22,m5)
theorem qvJ (R114:qcT) (hR114:qjV R114) (abs:waE) (holes:waD) (p:tPred) (t20:waA) (t21:Int) (t22:Int) (m:waA) (m2:Int) (m3:Str) (m4:Int) (m5:waA) {y:(Int×waA)⊕((waA))} (h:qsu R114 abs holes t20 t21 t22 m5 = some y) :
  Sat Pg GE 0 (cA b20 119) (LQ (fun (zz:Int×waA) => qhK abs holes p t20 t21 zz.1 m m2 m3 m4 zz.2) (fun _ => .exit 0) (qm9 abs holes p t20 t21 m m2 m3 m4) y) (qhK abs holes p t20 t21 t22 m m2 m3 m4 m5):=by
 rcases ifs h with ⟨c1,h⟩ | ⟨c1,h⟩
 ·obtain ⟨x2,bx2,h⟩:=bnd h
  obtain ⟨r3,br3,h⟩:=bnd h
  obtain ⟨l4,bl4,h⟩:=bnd h
  obtain rfl:=lf h
  have z:=sg 0 c1 <| sv (sT29.ia (k := .i64) bx2) <| sv (qaj x2) <| sx pz31 <| sx (qaw x2) <| sdr [0,1,0,0,0,28,60,127,255,511] <| sv (qar x2 []) <| sca (hR114 _ _ _ _ br3) <| sv (sT29.mk' (v:=qbq) qaE ([r3]:List tPred) 1 (by kernel_rfl)) <| sv (sT29.ap bl4) <| ssf (rfl:qaJ (sl qaa l4) = some [sl qaa l4]) <| eFx 0 .normal (qhK abs holes p t20 t21 (w64 (t22 + 1)) m m2 m3 m4 l4) rfl (qbP (aI (up (qad qaO abs)) (aI (up (qad qaD holes)) (aI (qbO (qab p)) (aI (qch rfl) (aI (qch rfl) (aI (up (qad qab t20)) (aI trivial (aI trivial trivial))))))))) (aI trivial (aI (aI trivial (aI trivial (aI trivial (aI (up (qad qab m)) trivial)))) (aI (aI trivial (aI trivial (aI trivial (aI (up (qad qab l4)) trivial)))) trivial)))
  exact qbi (A:=A20) mixed z (by kernel_rfl)
 ·obtain rfl:=lf h
  have z:=sg 0 c1 <| eF (.exit 0) (qm9 abs holes p t20 t21 m m2 m3 m4 m5)
  exact ovZ A20 (by intro hx; cases hx) z (by kernel_rfl)
theorem qws (R114:qcT) (hR114:qjV R114) (abs:waE) (holes:waD) (p:tPred) (t20:waA) (t21:Int) (t22:Int) (m:waA) (m2:Int) (m3:Str) (m4:Int) (m5:waA) {x:(waA)} (h:qqL R114 abs holes t20 t21 t22 m5 = some x) :
  Sat Pg GE 0 (.loop (cA b20 119)) (EX (.exit 0) (qm9 abs holes p t20 t21 m m2 m3 m4 x)) (qhK abs holes p t20 t21 t22 m m2 m3 m4 m5) :=
 Sat.loop (S:=fun (zz:Int×waA) => qhK abs holes p t20 t21 zz.1 m m2 m3 m4 zz.2) (ex:=(fun _ => .exit 0)) (s:=(t22,m5)) h fun zz y hy => qvJ R114 hR114 abs holes p t20 t21 zz.1 m m2 m3 m4 zz.2 hy
def qx1 (holes:waD) (p:tPred) (i:Int) (m:waA) (m2:Int) (m3:Str) (m4:Int) (m5:waA):PSt:=stt 94 [(2,sl qai holes),(3,.eptr (qaa p)),(6,.bptr 1 0),(7,.bptr 2 0),(10,.int .i64 i)] [.dead,.cells [.int .i64 0,.str ([]:Str),.int .i64 0,sl qaa m] [(3,31)],.cells [.int .i64 m2,.str m3,.int .i64 m4,sl qaa m5] [(3,31)]] []
def qhR (holes:waD) (p:tPred) (i:Int) (m:waA) (m2:Int) (m3:Str) (m4:Int) (m5:waA) (o:Bool):PSt:=stt 94 [(2,sl qai holes),(6,.bptr 1 0),(7,.bptr 2 0),(10,.int .i64 i),(58,.bool o)] [.dead,.cells [.int .i64 0,.str ([]:Str),.int .i64 0,sl qaa m] [(3,31)],.cells [.int .i64 m2,.str m3,.int .i64 m4,sl qaa m5] [(3,31)]] []
def qqx (R114:qcT) (holes:waD) (p:tPred) (i:Int):Option ((Bool)) :=
 if (p.Op != 4) = true then
  some true
 else
  if ((p.Kids.length:Int) != 1) = true then
   some true
  else
   if (decide (i < 0)) = true then
    some true
   else
    some (decide (i ≥ (holes.length:Int)))
theorem qw0 (R114:qcT) (hR114:qjV R114) (holes:waD) (p:tPred) (i:Int) (m:waA) (m2:Int) (m3:Str) (m4:Int) (m5:waA) {x:(Bool)} (h:qqx R114 holes p i = some x) :
  Sat Pg GE 0 (cA b20 124) (EX .normal (qhR holes p i m m2 m3 m4 m5 x)) (qx1 holes p i m m2 m3 m4 m5):=by
 have p8:=fun {sc F} (r:PS sc F) => sv (qaZ p) <| sv (qa0 p) <| r
 rcases ifs h with ⟨c7,h⟩ | ⟨c7,h⟩
 ·obtain rfl:=lf h
  have z:=p8 <| sg 4 c7 <| eF .normal (qhR holes p i m m2 m3 m4 m5 true)
  exact pcZ A20 z (by kernel_rfl)
 ·have p10:=fun {sc F} (r:PS sc F) => p8 <| sg 4 c7 <| sv (qax p) <| sv (qay p) <| svn (sT29.ln p.Kids) <| r
  rcases ifs h with ⟨c9,h⟩ | ⟨c9,h⟩
  ·obtain rfl:=lf h
   have z:=p10 <| sg 10 c9 <| eF .normal (qhR holes p i m m2 m3 m4 m5 true)
   exact pcZ A20 z (by kernel_rfl)
  ·have p12:=fun {sc F} (r:PS sc F) => p10 <| sg 10 c9 <| r
   rcases ifs h with ⟨c11,h⟩ | ⟨c11,h⟩
   ·obtain rfl:=lf h
    have z:=p12 <| sg 14 c11 <| eF .normal (qhR holes p i m m2 m3 m4 m5 true)
    exact pcZ A20 z (by kernel_rfl)
   ·obtain rfl:=lf h
    have z:=p12 <| sg 14 c11 <| svn (sT38.ln holes) <| eF .normal (qhR holes p i m m2 m3 m4 m5 (decide (i ≥ (holes.length:Int))))
    exact pcZ A20 z (by kernel_rfl)
def qg5 (holes:waD) (i:Int) (k:Int) (m:waA) (m2:Str) (m3:waA):PSt:=stt 94 [(2,sl qai holes),(6,.bptr 1 0),(7,.bptr 2 0),(10,.int .i64 i),(11,.int .i64 k)] [.dead,.cells [.int .i64 0,.str ([]:Str),.int .i64 0,sl qaa m] [(3,31)],.cells [.int .i64 5,.str m2,.int .i64 0,sl qaa m3] [(3,31)]] []
def qmI (holes:waD) (i:Int) (m:waA) (m2:Str) (o:waA):PSt:=stt 94 [(6,.bptr 1 0),(7,.bptr 2 0)] [.dead,.cells [.int .i64 0,.str ([]:Str),.int .i64 0,sl qaa m] [(3,31)],.cells [.int .i64 5,.str m2,.int .i64 0,sl qaa o] [(3,31)]] []
def qcB (R114:qcT) (holes:waD) (i:Int) (k:Int) (m3:waA):Option ((Int×waA)⊕((waA))) :=
 (idx holes i).bind fun x17 =>
 if (decide (k < (x17.Params.length:Int))) = true then
  (idx holes i).bind fun x20 =>
  (idx x20.Params k).bind fun x21 =>
  (app m3 ([(⟨3,x21.Name,0,([]:List tPred)⟩:tPred)]:List tPred)).bind fun l22 =>
  some (.inl (w64 (k + 1),l22))
 else
  some (.inr m3)
def qmx (R114:qcT) (holes:waD) (i:Int) (k:Int) (m3:waA):Option ((waA)):=loop (fun (zz:Int×waA) => qcB R114 holes i zz.1 zz.2) (k,m3)
theorem qvR (R114:qcT) (hR114:qjV R114) (holes:waD) (i:Int) (k:Int) (m:waA) (m2:Str) (m3:waA) {y:(Int×waA)⊕((waA))} (h:qcB R114 holes i k m3 = some y) :
  Sat Pg GE 0 (cA b20 2039) (LQ (fun (zz:Int×waA) => qg5 holes i zz.1 m m2 zz.2) (fun _ => .exit 2) (qmI holes i m m2) y) (qg5 holes i k m m2 m3):=by
 obtain ⟨x17,bx17,h⟩:=bnd h
 have p19:=fun {sc F} (r:PS sc F) => sv (sT38.ia (k := .i64) bx17) <| sv (qdI x17) <| sv (qdD x17) <| svn (sT36.ln x17.Params) <| r
 rcases ifs h with ⟨c18,h⟩ | ⟨c18,h⟩
 ·obtain ⟨x20,bx20,h⟩:=bnd h
  obtain ⟨x21,bx21,h⟩:=bnd h
  obtain ⟨l22,bl22,h⟩:=bnd h
  obtain rfl:=lf h
  have z:=p19 <| sg 0 c18 <| sdr [0,1,0,0,12,28,60,0,252,508,1020,2044,4092,8191,16383,32767] <| sv (sT38.ia (k := .i64) bx20) <| sv (qdI x20) <| sv (qdD x20) <| sv (sT36.ia (k := .i64) bx21) <| sv (qjd x21) <| sv (qkB x21) <| sb (qfj 3 x21.Name) (qfn 3 x21.Name) <| sv (sT29.mk' (v:=qbq) qaE ([(⟨3,x21.Name,0,([]:List tPred)⟩:tPred)]:List tPred) 1 (by kernel_rfl)) <| sv (sT29.ap bl22) <| ssf (rfl:qaJ (sl qaa l22) = some [sl qaa l22]) <| eF .normal (qg5 holes i (w64 (k + 1)) m m2 l22)
  exact nxZ A20 z (by kernel_rfl)
 ·obtain rfl:=lf h
  have z:=p19 <| sg 0 c18 <| eF (.exit 2) (qmI holes i m m2 m3)
  exact ovZ A20 (by intro hx; cases hx) z (by kernel_rfl)
theorem qwG (R114:qcT) (hR114:qjV R114) (holes:waD) (i:Int) (k:Int) (m:waA) (m2:Str) (m3:waA) {x:(waA)} (h:qmx R114 holes i k m3 = some x) :
  Sat Pg GE 0 (.loop (cA b20 2039)) (EX (.exit 2) (qmI holes i m m2 x)) (qg5 holes i k m m2 m3) :=
 Sat.loop (S:=fun (zz:Int×waA) => qg5 holes i zz.1 m m2 zz.2) (ex:=(fun _ => .exit 2)) (s:=(k,m3)) h fun zz y hy => qvR R114 hR114 holes i zz.1 m m2 zz.2 hy
def qo0 (R114:qcT) (p:tPred) (abs:waE) (holes:waD):Option (tPred) :=
 (qqL R114 abs holes p.Kids (p.Kids.length:Int) 0 ([]:List tPred)).bind fun o5 =>
 (qkD abs p.Name).bind fun r6 =>
 (qqx R114 holes p r6).bind fun o13 =>
 if o13 = true then
  some (⟨p.Op,p.Name,p.N,o5⟩:tPred)
 else
  (idx holes r6).bind fun x16 =>
  (qmx R114 holes r6 1 o5).bind fun o23 =>
  some (⟨5,x16.Name,0,o23⟩:tPred)
theorem qz2 (R114:qcT) (hR114:qjV R114) {p:tPred} {abs:waE} {holes:waD} {r:tPred} (h:qo0 R114 p abs holes = some r):CC Pg GE 20 [.agg (qaa p),sl qap abs,sl qai holes] (.agg (qaa r)) [(3,31)]:=by
 obtain ⟨o5,bo5,h⟩:=bnd h
 obtain ⟨r6,br6,h⟩:=bnd h
 obtain ⟨o13,bo13,h⟩:=bnd h
 have p15:=fun {sc F} (r:PS sc F) => se (qaL p) <| sx pz31 <| sv (qaZ p) <| sv (qa0 p) <| sv (qa9 p) <| sv (qbm p) <| sv (qcx p) <| sv (qda p) <| sb (qgj p.Op p.Name p.N) (qgh p.Op p.Name p.N) <| sx pz31 <| sy (qal (⟨p.Op,p.Name,p.N,([]:List tPred)⟩:tPred)) <| sv (qax p) <| sv (qay p) <| svn (sT29.ln p.Kids) <| spc (qws R114 hR114 abs holes p p.Kids (p.Kids.length:Int) 0 ([]:List tPred) p.Op p.Name p.N ([]:List tPred) bo5) <| sv (qa9 p) <| sv (qbm p) <| sca (qtR br6) <| spa 1 <| spc (qw0 R114 hR114 holes p r6 ([]:List tPred) p.Op p.Name p.N o5 bo13) <| r
 rcases ifs h with ⟨c14,h⟩ | ⟨c14,h⟩
 ·obtain rfl:=lf h
  have z:=p15 <| sg 0 c14 <| sz (qar (⟨p.Op,p.Name,p.N,o5⟩:tPred) []) <| sy (qal (⟨p.Op,p.Name,p.N,o5⟩:tPred)) <| en (aI (qaY (⟨p.Op,p.Name,p.N,o5⟩:tPred)) <| aI (qab (⟨p.Op,p.Name,p.N,o5⟩:tPred)) <| rT)
  exact cvZ A20 Tryz.call20 Tryz.func20 (c:=b20) rfl (aI (qab p) (aI (qad qaO abs) (aI (qad qaD holes) trivial))) z (by kernel_rfl)
 ·obtain ⟨x16,bx16,h⟩:=bnd h
  obtain ⟨o23,bo23,h⟩:=bnd h
  obtain rfl:=lf h
  have z:=p15 <| sg 0 c14 <| sdr [0,0,3,7,15,0,32,127,255] <| sv (sT38.ia (k := .i64) bx16) <| sv (qrz x16) <| sv (qt7 x16) <| sbm 66 3 (qiN 5 x16.Name o5) (qsI 5 x16.Name) <| syx (qaw (⟨5,x16.Name,0,o5⟩:tPred)) <| spc (qwG R114 hR114 holes r6 1 ([]:List tPred) x16.Name o5 bo23) <| sz (qar (⟨5,x16.Name,0,o23⟩:tPred) []) <| sy (qal (⟨5,x16.Name,0,o23⟩:tPred)) <| en (aI (qaY (⟨5,x16.Name,0,o23⟩:tPred)) <| aI (qab (⟨5,x16.Name,0,o23⟩:tPred)) <| rT)
  exact cvZ A20 Tryz.call20 Tryz.func20 (c:=b20) rfl (aI (qab p) (aI (qad qaO abs) (aI (qad qaD holes) trivial))) z (by kernel_rfl)
def qsK:((tPred×waE×waD)→Option (tPred))→(tPred×waE×waD)→Option (tPred):=fun (rec:(tPred×waE×waD)→Option (tPred)) (x:tPred×waE×waD) => qo0 (fun p abs holes => rec (p,abs,holes)) x.1 x.2.1 x.2.2
def qmf (p:tPred) (abs:waE) (holes:waD):Option (tPred):=fixE (qsK) (p,abs,holes)
theorem qqm {p:tPred} {abs:waE} {holes:waD} {r:tPred} (h:qmf p abs holes = some r):CC Pg GE 20 [.agg (qaa p),sl qap abs,sl qai holes] (.agg (qaa r)) [(3,31)] :=
 qbX (F:=qsK) (M:=fun (x:tPred×waE×waD) (r:tPred) => CC Pg GE 20 [.agg (qaa x.1),sl qap x.2.1,sl qai x.2.2] (.agg (qaa r)) [(3,31)]) (fun rec hrec x r h => qz2 _ (fun p abs holes r h => hrec (p,abs,holes) r h) h) h
noncomputable def b54:Code:=Tryz.f54.body.getD .skip
def A54:List Nat:=[40,57]
def qy1 (abs:waE) (holes:waD) (scope:waB) (m:Int) (m2:Str) (m3:waC) (m4:waB) (m5:Int) (m6:Str) (m7:Int) (m8:waA) (m9:waA) (m10:waC) (m11:waA):PSt:=stt 68 [(1,sl qap abs),(2,sl qai holes),(3,sl cS scope),(4,.bptr 0 0),(8,.bptr 1 0)] [.cells [.int .i64 m,.str m2,sl qac m3,sl cS m4,.int .i64 m5,.str m6,.int .i64 m7,sl qaa m8,sl qaa m9] [],.cells [.int .i64 0,.str ([]:Str),sl qac m10,sl cS ([]:List Str),.int .i64 0,.str ([]:Str),.int .i64 0,sl qaa m11,sl qaa m11] [(2,33),(3,9),(7,31),(8,31)]] []
def qmu (abs:waE) (holes:waD) (scope:waB) (m:Int) (m2:Str) (m3:waC) (m4:waB) (m5:Int) (m6:Str) (m7:Int) (m8:waA) (m9:waA) (m10:waC) (m11:waA) (o:Int×Str×waC×waB×Int×Str×Int×waA×waA):PSt:=stt 68 [(1,sl qap abs),(2,sl qai holes),(3,sl cS scope),(4,.bptr 0 0),(8,.bptr 1 0)] [.cells [.int .i64 o.1,.str o.2.1,sl qac o.2.2.1,sl cS o.2.2.2.1,.int .i64 o.2.2.2.2.1,.str o.2.2.2.2.2.1,.int .i64 o.2.2.2.2.2.2.1,sl qaa o.2.2.2.2.2.2.2.1,sl qaa o.2.2.2.2.2.2.2.2] [],.cells [.int .i64 0,.str ([]:Str),sl qac m10,sl cS ([]:List Str),.int .i64 0,.str ([]:Str),.int .i64 0,sl qaa m11,sl qaa m11] [(2,33),(3,9),(7,31),(8,31)]] []
def qp9 (R97:qde) (scope:waB) (m:Int) (m2:Str) (m3:waC) (m4:waB) (m5:Int) (m6:Str) (m7:Int) (m8:waA) (m9:waA):Option ((Int×Str×waC×waB×Int×Str×Int×waA×waA)) :=
 if (m == 6) = true then
  (qmZ (⟨m,m2,m3,m4,(⟨m5,m6,m7,m8⟩:tPred),m9⟩:tType) scope).bind fun r2 =>
  some (r2.Op,r2.Name,r2.Args,r2.Names,r2.Pred.Op,r2.Pred.Name,r2.Pred.N,r2.Pred.Kids,r2.Preds)
 else
  some (m,m2,m3,m4,m5,m6,m7,m8,m9)
theorem qwF (R97:qde) (hR97:qjY R97) (abs:waE) (holes:waD) (scope:waB) (m:Int) (m2:Str) (m3:waC) (m4:waB) (m5:Int) (m6:Str) (m7:Int) (m8:waA) (m9:waA) (m10:waC) (m11:waA) {x:(Int×Str×waC×waB×Int×Str×Int×waA×waA)} (h:qp9 R97 scope m m2 m3 m4 m5 m6 m7 m8 m9 = some x) :
  Sat Pg GE 0 (cA b54 6) (EX .normal (qmu abs holes scope m m2 m3 m4 m5 m6 m7 m8 m9 m10 m11 x)) (qy1 abs holes scope m m2 m3 m4 m5 m6 m7 m8 m9 m10 m11):=by
 rcases ifs h with ⟨c1,h⟩ | ⟨c1,h⟩
 ·obtain ⟨r2,br2,h⟩:=bnd h
  obtain rfl:=lf h
  have z:=ss <| sg 0 c1 <| sv (qbn (⟨m,m2,m3,m4,(⟨m5,m6,m7,m8⟩:tPred),m9⟩:tType) []) <| sca (qww br2) <| sx (qbA r2) <| eF .normal (qmu abs holes scope m m2 m3 m4 m5 m6 m7 m8 m9 m10 m11 (r2.Op,r2.Name,r2.Args,r2.Names,r2.Pred.Op,r2.Pred.Name,r2.Pred.N,r2.Pred.Kids,r2.Preds))
  exact pcZ A54 z (by kernel_rfl)
 ·obtain rfl:=lf h
  have z:=ss <| sg 0 c1 <| eF .normal (qmu abs holes scope m m2 m3 m4 m5 m6 m7 m8 m9 m10 m11 (m,m2,m3,m4,m5,m6,m7,m8,m9))
  exact pcZ A54 z (by kernel_rfl)
def qhy (abs:waE) (holes:waD) (scope:waB) (t33:waA) (t34:Int) (t35:Int) (m:Int) (m2:Str) (m3:waC) (m4:waB) (m5:Int) (m6:Str) (m7:Int) (m8:waA) (m9:waC) (m10:waA) (m11:Int) (m12:Str) (m13:Int) (m14:waA) (m15:waA):PSt:=stt 68 [(1,sl qap abs),(2,sl qai holes),(3,sl cS scope),(4,.bptr 0 0),(8,.bptr 1 0),(9,.bptr 2 0),(33,sl qaa t33),(34,.int .i64 t34),(35,.int .i64 t35)] [.cells [.int .i64 m,.str m2,sl qac m3,sl cS m4,.int .i64 m5,.str m6,.int .i64 m7,sl qaa m8,sl qaa t33] [],.cells [.int .i64 0,.str ([]:Str),sl qac m9,sl cS ([]:List Str),.int .i64 0,.str ([]:Str),.int .i64 0,sl qaa m10,sl qaa m10] [(2,33),(3,9),(7,31),(8,31)],.cells [.int .i64 m,.str m2,sl qac m9,sl cS m4,.int .i64 m11,.str m12,.int .i64 m13,sl qaa m14,sl qaa m15] [(2,33),(8,31)]] []
def qmH (abs:waE) (holes:waD) (scope:waB) (t33:waA) (t34:Int) (m:Int) (m2:Str) (m3:waC) (m4:waB) (m5:Int) (m6:Str) (m7:Int) (m8:waA) (m9:waC) (m10:waA) (m11:Int) (m12:Str) (m13:Int) (m14:waA) (o:waA):PSt:=stt 68 [(1,sl qap abs),(2,sl qai holes),(3,sl cS scope),(4,.bptr 0 0),(8,.bptr 1 0),(9,.bptr 2 0)] [.cells [.int .i64 m,.str m2,sl qac m3,sl cS m4,.int .i64 m5,.str m6,.int .i64 m7,sl qaa m8,sl qaa t33] [],.cells [.int .i64 0,.str ([]:Str),sl qac m9,sl cS ([]:List Str),.int .i64 0,.str ([]:Str),.int .i64 0,sl qaa m10,sl qaa m10] [(2,33),(3,9),(7,31),(8,31)],.cells [.int .i64 m,.str m2,sl qac m9,sl cS m4,.int .i64 m11,.str m12,.int .i64 m13,sl qaa m14,sl qaa o] [(2,33),(8,31)]] []
def qrr (R97:qde) (abs:waE) (holes:waD) (t33:waA) (t34:Int) (t35:Int) (m15:waA):Option ((Int×waA)⊕((waA))) :=
 if (decide (t35 < t34)) = true then
  (idx t33 t35).bind fun x6 =>
  (qmf x6 abs holes).bind fun r7 =>
  (app m15 ([r7]:List tPred)).bind fun l8 =>
  some (.inl (w64 (t35 + 1),l8))
 else
  some (.inr m15)
def qm7 (R97:qde) (abs:waE) (holes:waD) (t33:waA) (t34:Int) (t35:Int) (m15:waA):Option ((waA)):=loop (fun (zz:Int×waA) => qrr R97 abs holes t33 t34 zz.1 zz.2) (t35,m15)
theorem qwe (R97:qde) (hR97:qjY R97) (abs:waE) (holes:waD) (scope:waB) (t33:waA) (t34:Int) (t35:Int) (m:Int) (m2:Str) (m3:waC) (m4:waB) (m5:Int) (m6:Str) (m7:Int) (m8:waA) (m9:waC) (m10:waA) (m11:Int) (m12:Str) (m13:Int) (m14:waA) (m15:waA) {y:(Int×waA)⊕((waA))} (h:qrr R97 abs holes t33 t34 t35 m15 = some y) :
  Sat Pg GE 0 (cA b54 247) (LQ (fun (zz:Int×waA) => qhy abs holes scope t33 t34 zz.1 m m2 m3 m4 m5 m6 m7 m8 m9 m10 m11 m12 m13 m14 zz.2) (fun _ => .exit 0) (qmH abs holes scope t33 t34 m m2 m3 m4 m5 m6 m7 m8 m9 m10 m11 m12 m13 m14) y) (qhy abs holes scope t33 t34 t35 m m2 m3 m4 m5 m6 m7 m8 m9 m10 m11 m12 m13 m14 m15):=by
 rcases ifs h with ⟨c5,h⟩ | ⟨c5,h⟩
 ·obtain ⟨x6,bx6,h⟩:=bnd h
  obtain ⟨r7,br7,h⟩:=bnd h
  obtain ⟨l8,bl8,h⟩:=bnd h
  obtain rfl:=lf h
  have z:=sg 0 c5 <| sv (sT29.ia (k := .i64) bx6) <| sv (qaj x6) <| sx pz31 <| sx (qaw x6) <| sdr [0,1,0,0,0,28,60,127,255,511] <| sv (qar x6 []) <| sca (qqm br7) <| sv (sT29.mk' (v:=qbq) qaE ([r7]:List tPred) 1 (by kernel_rfl)) <| sv (sT29.ap bl8) <| ssf (rfl:qaJ (sl qaa l8) = some [sl qaa l8]) <| eFx 0 .normal (qhy abs holes scope t33 t34 (w64 (t35 + 1)) m m2 m3 m4 m5 m6 m7 m8 m9 m10 m11 m12 m13 m14 l8) rfl (qbP (aI (up (qad qaO abs)) (aI (up (qad qaD holes)) (aI (up (qad clS scope)) (aI (qch rfl) (aI (qch rfl) (aI (qch rfl) (aI (up (qad qab t33)) (aI trivial (aI trivial trivial)))))))))) (aI (aI trivial (aI trivial (aI (up (qad qaf m3)) (aI (up (qad clS m4)) (aI trivial (aI trivial (aI trivial (aI (up (qad qab m8)) (aI (up (qad qab t33)) trivial))))))))) (aI (aI trivial (aI trivial (aI (up (qad qaf m9)) (aI (up (qad clS ([]:List Str))) (aI trivial (aI trivial (aI trivial (aI (up (qad qab m10)) (aI (up (qad qab m10)) trivial))))))))) (aI (aI trivial (aI trivial (aI (up (qad qaf m9)) (aI (up (qad clS m4)) (aI trivial (aI trivial (aI trivial (aI (up (qad qab m14)) (aI (up (qad qab l8)) trivial))))))))) trivial)))
  exact qbi (A:=A54) mixed z (by kernel_rfl)
 ·obtain rfl:=lf h
  have z:=sg 0 c5 <| eF (.exit 0) (qmH abs holes scope t33 t34 m m2 m3 m4 m5 m6 m7 m8 m9 m10 m11 m12 m13 m14 m15)
  exact ovZ A54 (by intro hx; cases hx) z (by kernel_rfl)
theorem qwt (R97:qde) (hR97:qjY R97) (abs:waE) (holes:waD) (scope:waB) (t33:waA) (t34:Int) (t35:Int) (m:Int) (m2:Str) (m3:waC) (m4:waB) (m5:Int) (m6:Str) (m7:Int) (m8:waA) (m9:waC) (m10:waA) (m11:Int) (m12:Str) (m13:Int) (m14:waA) (m15:waA) {x:(waA)} (h:qm7 R97 abs holes t33 t34 t35 m15 = some x) :
  Sat Pg GE 0 (.loop (cA b54 247)) (EX (.exit 0) (qmH abs holes scope t33 t34 m m2 m3 m4 m5 m6 m7 m8 m9 m10 m11 m12 m13 m14 x)) (qhy abs holes scope t33 t34 t35 m m2 m3 m4 m5 m6 m7 m8 m9 m10 m11 m12 m13 m14 m15) :=
 Sat.loop (S:=fun (zz:Int×waA) => qhy abs holes scope t33 t34 zz.1 m m2 m3 m4 m5 m6 m7 m8 m9 m10 m11 m12 m13 m14 zz.2) (ex:=(fun _ => .exit 0)) (s:=(t35,m15)) h fun zz y hy => qwe R97 hR97 abs holes scope t33 t34 zz.1 m m2 m3 m4 m5 m6 m7 m8 m9 m10 m11 m12 m13 m14 zz.2 hy
def qg8 (abs:waE) (holes:waD) (scope:waB) (t50:waC) (t51:Int) (t52:Int) (m:Int) (m2:Str) (m3:waB) (m4:Int) (m5:Str) (m6:Int) (m7:waA) (m8:waA) (m9:waC) (m10:waA) (m11:waC) (m12:Int) (m13:Str) (m14:Int) (m15:waA) (m16:waA):PSt:=stt 68 [(1,sl qap abs),(2,sl qai holes),(3,sl cS scope),(8,.bptr 1 0),(9,.bptr 2 0),(50,sl qac t50),(51,.int .i64 t51),(52,.int .i64 t52)] [.cells [.int .i64 m,.str m2,sl qac t50,sl cS m3,.int .i64 m4,.str m5,.int .i64 m6,sl qaa m7,sl qaa m8] [],.cells [.int .i64 0,.str ([]:Str),sl qac m9,sl cS ([]:List Str),.int .i64 0,.str ([]:Str),.int .i64 0,sl qaa m10,sl qaa m10] [(2,33),(3,9),(7,31),(8,31)],.cells [.int .i64 m,.str m2,sl qac m11,sl cS m3,.int .i64 m12,.str m13,.int .i64 m14,sl qaa m15,sl qaa m16] [(2,33),(8,31)]] []
def qmh (abs:waE) (holes:waD) (scope:waB) (t50:waC) (t51:Int) (m:Int) (m2:Str) (m3:waB) (m4:Int) (m5:Str) (m6:Int) (m7:waA) (m8:waA) (m9:waC) (m10:waA) (m12:Int) (m13:Str) (m14:Int) (m15:waA) (m16:waA) (o:waC):PSt:=stt 68 [(8,.bptr 1 0),(9,.bptr 2 0)] [.cells [.int .i64 m,.str m2,sl qac t50,sl cS m3,.int .i64 m4,.str m5,.int .i64 m6,sl qaa m7,sl qaa m8] [],.cells [.int .i64 0,.str ([]:Str),sl qac m9,sl cS ([]:List Str),.int .i64 0,.str ([]:Str),.int .i64 0,sl qaa m10,sl qaa m10] [(2,33),(3,9),(7,31),(8,31)],.cells [.int .i64 m,.str m2,sl qac o,sl cS m3,.int .i64 m12,.str m13,.int .i64 m14,sl qaa m15,sl qaa m16] [(2,33),(8,31)]] []
def qsp (R97:qde) (abs:waE) (holes:waD) (scope:waB) (t50:waC) (t51:Int) (t52:Int) (m11:waC):Option ((Int×waC)⊕((waC))) :=
 if (decide (t52 < t51)) = true then
  (idx t50 t52).bind fun x11 =>
  (R97 x11 abs holes scope).bind fun r12 =>
  (app m11 ([r12]:List tType)).bind fun l13 =>
  some (.inl (w64 (t52 + 1),l13))
 else
  some (.inr m11)
def qmX (R97:qde) (abs:waE) (holes:waD) (scope:waB) (t50:waC) (t51:Int) (t52:Int) (m11:waC):Option ((waC)):=loop (fun (zz:Int×waC) => qsp R97 abs holes scope t50 t51 zz.1 zz.2) (t52,m11)
theorem qvy (R97:qde) (hR97:qjY R97) (abs:waE) (holes:waD) (scope:waB) (t50:waC) (t51:Int) (t52:Int) (m:Int) (m2:Str) (m3:waB) (m4:Int) (m5:Str) (m6:Int) (m7:waA) (m8:waA) (m9:waC) (m10:waA) (m11:waC) (m12:Int) (m13:Str) (m14:Int) (m15:waA) (m16:waA) {y:(Int×waC)⊕((waC))} (h:qsp R97 abs holes scope t50 t51 t52 m11 = some y) :
  Sat Pg GE 0 (cA b54 503) (LQ (fun (zz:Int×waC) => qg8 abs holes scope t50 t51 zz.1 m m2 m3 m4 m5 m6 m7 m8 m9 m10 zz.2 m12 m13 m14 m15 m16) (fun _ => .exit 2) (qmh abs holes scope t50 t51 m m2 m3 m4 m5 m6 m7 m8 m9 m10 m12 m13 m14 m15 m16) y) (qg8 abs holes scope t50 t51 t52 m m2 m3 m4 m5 m6 m7 m8 m9 m10 m11 m12 m13 m14 m15 m16):=by
 rcases ifs h with ⟨c10,h⟩ | ⟨c10,h⟩
 ·obtain ⟨x11,bx11,h⟩:=bnd h
  obtain ⟨r12,br12,h⟩:=bnd h
  obtain ⟨l13,bl13,h⟩:=bnd h
  obtain rfl:=lf h
  have z:=sg 0 c10 <| sv (sT27.ia (k := .i64) bx11) <| sv (qaW x11) <| sx pz33 <| sx (qbA x11) <| sdr [0,1,0,0,0,0,60,124,255,511,1023] <| sv (qbn x11 []) <| sca (hR97 _ _ _ _ _ br12) <| sv (sT27.mk' (v:=qha) qdn ([r12]:List tType) 1 (by kernel_rfl)) <| sv (sT27.ap bl13) <| ssf (rfl:qaJ (sl qac l13) = some [sl qac l13]) <| eFx 0 .normal (qg8 abs holes scope t50 t51 (w64 (t52 + 1)) m m2 m3 m4 m5 m6 m7 m8 m9 m10 l13 m12 m13 m14 m15 m16) rfl (qbP (aI (up (qad qaO abs)) (aI (up (qad qaD holes)) (aI (up (qad clS scope)) (aI (qch rfl) (aI (qch rfl) (aI (up (qad qaf t50)) (aI trivial (aI trivial trivial))))))))) (aI (aI trivial (aI trivial (aI (up (qad qaf t50)) (aI (up (qad clS m3)) (aI trivial (aI trivial (aI trivial (aI (up (qad qab m7)) (aI (up (qad qab m8)) trivial))))))))) (aI (aI trivial (aI trivial (aI (up (qad qaf m9)) (aI (up (qad clS ([]:List Str))) (aI trivial (aI trivial (aI trivial (aI (up (qad qab m10)) (aI (up (qad qab m10)) trivial))))))))) (aI (aI trivial (aI trivial (aI (up (qad qaf l13)) (aI (up (qad clS m3)) (aI trivial (aI trivial (aI trivial (aI (up (qad qab m15)) (aI (up (qad qab m16)) trivial))))))))) trivial)))
  exact qbi (A:=A54) mixed z (by kernel_rfl)
 ·obtain rfl:=lf h
  have z:=sg 0 c10 <| eF (.exit 2) (qmh abs holes scope t50 t51 m m2 m3 m4 m5 m6 m7 m8 m9 m10 m12 m13 m14 m15 m16 m11)
  exact ovZ A54 (by intro hx; cases hx) z (by kernel_rfl)
theorem qwr (R97:qde) (hR97:qjY R97) (abs:waE) (holes:waD) (scope:waB) (t50:waC) (t51:Int) (t52:Int) (m:Int) (m2:Str) (m3:waB) (m4:Int) (m5:Str) (m6:Int) (m7:waA) (m8:waA) (m9:waC) (m10:waA) (m11:waC) (m12:Int) (m13:Str) (m14:Int) (m15:waA) (m16:waA) {x:(waC)} (h:qmX R97 abs holes scope t50 t51 t52 m11 = some x) :
  Sat Pg GE 0 (.loop (cA b54 503)) (EX (.exit 2) (qmh abs holes scope t50 t51 m m2 m3 m4 m5 m6 m7 m8 m9 m10 m12 m13 m14 m15 m16 x)) (qg8 abs holes scope t50 t51 t52 m m2 m3 m4 m5 m6 m7 m8 m9 m10 m11 m12 m13 m14 m15 m16) :=
 Sat.loop (S:=fun (zz:Int×waC) => qg8 abs holes scope t50 t51 zz.1 m m2 m3 m4 m5 m6 m7 m8 m9 m10 zz.2 m12 m13 m14 m15 m16) (ex:=(fun _ => .exit 2)) (s:=(t52,m11)) h fun zz y hy => qvy R97 hR97 abs holes scope t50 t51 zz.1 m m2 m3 m4 m5 m6 m7 m8 m9 m10 zz.2 m12 m13 m14 m15 m16 hy
def qoT (R97:qde) (t:tType) (abs:waE) (holes:waD) (scope:waB):Option (tType) :=
 (qp9 R97 scope t.Op t.Name t.Args t.Names t.Pred.Op t.Pred.Name t.Pred.N t.Pred.Kids t.Preds).bind fun o3 =>
 (qmf (⟨o3.2.2.2.2.1,o3.2.2.2.2.2.1,o3.2.2.2.2.2.2.1,o3.2.2.2.2.2.2.2.1⟩:tPred) abs holes).bind fun r4 =>
 (qm7 R97 abs holes o3.2.2.2.2.2.2.2.2 (o3.2.2.2.2.2.2.2.2.length:Int) 0 ([]:List tPred)).bind fun o9 =>
 (qmX R97 abs holes scope o3.2.2.1 (o3.2.2.1.length:Int) 0 ([]:List tType)).bind fun o14 =>
 some (⟨o3.1,o3.2.1,o14,o3.2.2.2.1,r4,o9⟩:tType)
theorem qzt (R97:qde) (hR97:qjY R97) {t:tType} {abs:waE} {holes:waD} {scope:waB} {r:tType} (h:qoT R97 t abs holes scope = some r):CC Pg GE 54 [.agg (qac t),sl qap abs,sl qai holes,sl cS scope] (.agg (qac r)) [(2,33),(8,31)]:=by
 obtain ⟨o3,bo3,h⟩:=bnd h
 obtain ⟨r4,br4,h⟩:=bnd h
 obtain ⟨o9,bo9,h⟩:=bnd h
 obtain ⟨o14,bo14,h⟩:=bnd h
 obtain rfl:=lf h
 have z:=sx (qbA t) <| sx pz33 <| spa 0 <| spc (qwF R97 hR97 abs holes scope t.Op t.Name t.Args t.Names t.Pred.Op t.Pred.Name t.Pred.N t.Pred.Kids t.Preds ([]:List tType) ([]:List tPred) bo3) <| sdr [0,1,0,4,0,16,0,64,0,0,960,2047,0,8191] <| ss <| ss <| ss <| sv (qar (⟨o3.2.2.2.2.1,o3.2.2.2.2.2.1,o3.2.2.2.2.2.2.1,o3.2.2.2.2.2.2.2.1⟩:tPred) [sl qaa o3.2.2.2.2.2.2.2.2]) <| sca (qqm br4) <| sb (quq o3.1 o3.2.1 o3.2.2.2.1 r4) (quD o3.1 o3.2.1 o3.2.2.2.1 r4) <| syx (qbA (⟨o3.1,o3.2.1,([]:List tType),o3.2.2.2.1,r4,([]:List tPred)⟩:tType)) <| ss <| svn (sT29.ln o3.2.2.2.2.2.2.2.2) <| spc (qwt R97 hR97 abs holes scope o3.2.2.2.2.2.2.2.2 (o3.2.2.2.2.2.2.2.2.length:Int) 0 o3.1 o3.2.1 o3.2.2.1 o3.2.2.2.1 o3.2.2.2.2.1 o3.2.2.2.2.2.1 o3.2.2.2.2.2.2.1 o3.2.2.2.2.2.2.2.1 ([]:List tType) ([]:List tPred) r4.Op r4.Name r4.N r4.Kids ([]:List tPred) bo9) <| ss <| svn (sT27.ln o3.2.2.1) <| spc (qwr R97 hR97 abs holes scope o3.2.2.1 (o3.2.2.1.length:Int) 0 o3.1 o3.2.1 o3.2.2.2.1 o3.2.2.2.2.1 o3.2.2.2.2.2.1 o3.2.2.2.2.2.2.1 o3.2.2.2.2.2.2.2.1 o3.2.2.2.2.2.2.2.2 ([]:List tType) ([]:List tPred) ([]:List tType) r4.Op r4.Name r4.N r4.Kids o9 bo14) <| sz (qbn (⟨o3.1,o3.2.1,o14,o3.2.2.2.1,r4,o9⟩:tType) []) <| sy (qav (⟨o3.1,o3.2.1,o14,o3.2.2.2.1,r4,o9⟩:tType)) <| en (aI (qbR (⟨o3.1,o3.2.1,o14,o3.2.2.2.1,r4,o9⟩:tType)) <| aI (qaf (⟨o3.1,o3.2.1,o14,o3.2.2.2.1,r4,o9⟩:tType)) <| rT)
 exact cvZ A54 Tryz.call54 Tryz.func54 (c:=b54) rfl (aI (qaf t) (aI (qad qaO abs) (aI (qad qaD holes) (aI (qad clS scope) trivial)))) z (by kernel_rfl)
def qty:((tType×waE×waD×waB)→Option (tType))→(tType×waE×waD×waB)→Option (tType):=fun (rec:(tType×waE×waD×waB)→Option (tType)) (x:tType×waE×waD×waB) => qoT (fun t abs holes scope => rec (t,abs,holes,scope)) x.1 x.2.1 x.2.2.1 x.2.2.2
def qyt (t:tType) (abs:waE) (holes:waD) (scope:waB):Option (tType):=fixE (qty) (t,abs,holes,scope)
theorem qBE {t:tType} {abs:waE} {holes:waD} {scope:waB} {r:tType} (h:qyt t abs holes scope = some r):CC Pg GE 54 [.agg (qac t),sl qap abs,sl qai holes,sl cS scope] (.agg (qac r)) [(2,33),(8,31)] :=
 qbX (F:=qty) (M:=fun (x:tType×waE×waD×waB) (r:tType) => CC Pg GE 54 [.agg (qac x.1),sl qap x.2.1,sl qai x.2.2.1,sl cS x.2.2.2] (.agg (qac r)) [(2,33),(8,31)]) (fun rec hrec x r h => qzt _ (fun t abs holes scope r h => hrec (t,abs,holes,scope) r h) h) h
noncomputable def b17:Code:=Tryz.f17.body.getD .skip
def A17:List Nat:=[]
def quU (t:tType) (abs:waE) (holes:waD):Option (tType) :=
 (qpd abs holes).bind fun r1 =>
 (qyt t abs holes r1).bind fun r2 =>
 some r2
theorem qBu {t:tType} {abs:waE} {holes:waD} {r:tType} (h:quU t abs holes = some r):CC Pg GE 17 [.agg (qac t),sl qap abs,sl qai holes] (.agg (qac r)) [(2,33),(8,31)]:=by
 obtain ⟨r1,br1,h⟩:=bnd h
 obtain ⟨r2,br2,h⟩:=bnd h
 obtain rfl:=lf h
 have z:=se (qbH t) <| sx pz33 <| sdr [0,0,0,0,0,24,63,127] <| sv (qaW t) <| sca (qyI br1) <| sca (qBE br2) <| syx (qbA r2) <| en (aI (qbR r2) <| aI (qaf r2) <| rT)
 exact cvZ A17 Tryz.call17 Tryz.func17 (c:=b17) rfl (aI (qaf t) (aI (qad qaO abs) (aI (qad qaD holes) trivial))) z (by kernel_rfl)
end Go.Proofs.YtgldgpdhblndkaaGreatDoor
