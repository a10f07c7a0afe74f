/- WHAT IS PROVED: parts of the proof, put together by a program (G7). Conditions: none. -/
import Derived.Test.YtgldgpdhblndkaaGreatDoorPkE34
noncomputable section
namespace Go.Proofs.YtgldgpdhblndkaaGreatDoor
open Go
set_option linter.unusedVariables false
set_option maxRecDepth 100000
noncomputable def b11:Code:=Tryz.f11.body.getD .skip
def A11:List Nat:=[]
def qwY (v:waD) (m:Int) (m2:Str) (m3:Int) (m4:waA) (m5:(List tNeed)) (m6:waE) (m7:(List tBound)) (m8:waC) (m9:waA):PSt:=stt 125 [(1,.bptr 0 0),(2,.bptr 1 0),(3,sl qai v)] [.cells [.int .i64 m,.str m2,.int .i64 m3,sl qaa m4] [],.cells [sl cS ([]:List Str),sl qjt m5,sl qap m6,sl qgs m7,.int .i64 6,.str ([]:Str),sl qac m8,sl cS ([([120]:Str)]:List Str),.int .i64 0,.str ([]:Str),.int .i64 0,sl qaa m9,sl qaa m9,sl qaa m9] [(0,9),(1,226),(3,228),(13,31)]] [((3,0),82)]
def qgm (v:waD) (m:Int) (m2:Str) (m3:Int) (m4:waA) (m5:(List tNeed)) (m6:waE) (m7:(List tBound)) (m8:waC) (m9:waA) (o:Bool):PSt:=stt 125 [(1,.bptr 0 0),(2,.bptr 1 0),(3,sl qai v),(54,.bool o)] [.cells [.int .i64 m,.str m2,.int .i64 m3,sl qaa m4] [],.cells [sl cS ([]:List Str),sl qjt m5,sl qap m6,sl qgs m7,.int .i64 6,.str ([]:Str),sl qac m8,sl cS ([([120]:Str)]:List Str),.int .i64 0,.str ([]:Str),.int .i64 0,sl qaa m9,sl qaa m9,sl qaa m9] [(0,9),(1,226),(3,228),(13,31)]] [((3,0),82)]
def qtS (v:waD):Option ((Bool)) :=
 if ((v.length:Int) != 1) = true then
  some true
 else
  (idx v 0).bind fun x7 =>
  if (!(x7.Name == ([102,46,48,46,112]:Str))) = true then
   some true
  else
   (idx v 0).bind fun x10 =>
   if ((x10.Params.length:Int) != 2) = true then
    some true
   else
    (idx v 0).bind fun x13 =>
    (idx x13.Params 1).bind fun x14 =>
    some (!(x14.Name == ([121]:Str)))
theorem qvC (v:waD) (m:Int) (m2:Str) (m3:Int) (m4:waA) (m5:(List tNeed)) (m6:waE) (m7:(List tBound)) (m8:waC) (m9:waA) {x:(Bool)} (h:qtS v = some x) :
  Sat Pg GE 0 (cA b11 124) (EX .normal (qgm v m m2 m3 m4 m5 m6 m7 m8 m9 x)) (qwY v m m2 m3 m4 m5 m6 m7 m8 m9):=by
 rcases ifs h with ⟨c6,h⟩ | ⟨c6,h⟩
 ·obtain rfl:=lf h
  have z:=svn (sT38.ln v) <| sg 4 c6 <| eF .normal (qgm v m m2 m3 m4 m5 m6 m7 m8 m9 true)
  exact pcZ A11 z (by kernel_rfl)
 ·obtain ⟨x7,bx7,h⟩:=bnd h
  have p9:=fun {sc F} (r:PS sc F) => svn (sT38.ln v) <| sg 4 c6 <| sv (sT38.ia (k := .i64) bx7) <| sv (qrz x7) <| sv (qt7 x7) <| r
  rcases ifs h with ⟨c8,h⟩ | ⟨c8,h⟩
  ·obtain rfl:=lf h
   have z:=p9 <| sg 11 c8 <| eF .normal (qgm v m m2 m3 m4 m5 m6 m7 m8 m9 true)
   exact pcZ A11 z (by kernel_rfl)
  ·obtain ⟨x10,bx10,h⟩:=bnd h
   have p12:=fun {sc F} (r:PS sc F) => p9 <| sg 11 c8 <| sv (sT38.ia (k := .i64) bx10) <| sv (qdI x10) <| sv (qdD x10) <| svn (sT36.ln x10.Params) <| r
   rcases ifs h with ⟨c11,h⟩ | ⟨c11,h⟩
   ·obtain rfl:=lf h
    have z:=p12 <| sg 19 c11 <| eF .normal (qgm v m m2 m3 m4 m5 m6 m7 m8 m9 true)
    exact pcZ A11 z (by kernel_rfl)
   ·obtain ⟨x13,bx13,h⟩:=bnd h
    obtain ⟨x14,bx14,h⟩:=bnd h
    obtain rfl:=lf h
    have z:=p12 <| sg 19 c11 <| sv (sT38.ia (k := .i64) bx13) <| sv (qdI x13) <| sv (qdD x13) <| sv (sT36.ia (k := .i64) bx14) <| sv (qjd x14) <| sv (qkB x14) <| eF .normal (qgm v m m2 m3 m4 m5 m6 m7 m8 m9 (!(x14.Name == ([121]:Str))))
    exact pcZ A11 z (by kernel_rfl)
def qwz (v:waD) (v2:waC) (ok:Bool) (m:Int) (m2:Str) (m3:Int) (m4:waA) (m5:(List tNeed)) (m6:waE) (m7:(List tBound)) (m8:waC) (m9:waA) (m10:waA) (m11:waC) (m12:waA):PSt:=stt 125 [(1,.bptr 0 0),(2,.bptr 1 0),(3,sl qai v),(4,.bptr 2 0),(5,.bptr 3 0),(6,.bptr 4 0),(7,sl qac v2),(8,.bool ok)] [.cells [.int .i64 m,.str m2,.int .i64 m3,sl qaa m4] [],.cells [sl cS ([]:List Str),sl qjt m5,sl qap m6,sl qgs m7,.int .i64 6,.str ([]:Str),sl qac m8,sl cS ([([120]:Str)]:List Str),.int .i64 0,.str ([]:Str),.int .i64 0,sl qaa m9,sl qaa m9,sl qaa m9] [(0,9),(1,226),(3,228),(13,31)],.cells [.int .i64 5,.str ([102,46,48,46,112]:Str),.int .i64 0,sl qaa m10] [],.cells [.int .i64 6,.str ([]:Str),sl qac m11,sl cS ([([120]:Str)]:List Str),.int .i64 0,.str ([]:Str),.int .i64 0,sl qaa m9,sl qaa m9] [(7,31),(8,31)],.cells [.int .i64 13,.str ([]:Str),.int .i64 0,sl qaa m12] []] [((3,0),82)]
def qla (v:waD) (v2:waC) (ok:Bool) (m:Int) (m2:Str) (m3:Int) (m4:waA) (m5:(List tNeed)) (m6:waE) (m7:(List tBound)) (m8:waC) (m9:waA) (m10:waA) (m11:waC) (m12:waA) (o:Bool):PSt:=stt 125 [(1,.bptr 0 0),(2,.bptr 1 0),(3,sl qai v),(4,.bptr 2 0),(5,.bptr 3 0),(6,.bptr 4 0),(7,sl qac v2),(83,.bool o)] [.cells [.int .i64 m,.str m2,.int .i64 m3,sl qaa m4] [],.cells [sl cS ([]:List Str),sl qjt m5,sl qap m6,sl qgs m7,.int .i64 6,.str ([]:Str),sl qac m8,sl cS ([([120]:Str)]:List Str),.int .i64 0,.str ([]:Str),.int .i64 0,sl qaa m9,sl qaa m9,sl qaa m9] [(0,9),(1,226),(3,228),(13,31)],.cells [.int .i64 5,.str ([102,46,48,46,112]:Str),.int .i64 0,sl qaa m10] [],.cells [.int .i64 6,.str ([]:Str),sl qac m11,sl cS ([([120]:Str)]:List Str),.int .i64 0,.str ([]:Str),.int .i64 0,sl qaa m9,sl qaa m9] [(7,31),(8,31)],.cells [.int .i64 13,.str ([]:Str),.int .i64 0,sl qaa m12] []] [((3,0),82)]
def qtQ (v2:waC) (ok:Bool):Option ((Bool)) :=
 if (!ok) = true then
  some true
 else
  some ((v2.length:Int) != 2)
theorem qu6 (v:waD) (v2:waC) (ok:Bool) (m:Int) (m2:Str) (m3:Int) (m4:waA) (m5:(List tNeed)) (m6:waE) (m7:(List tBound)) (m8:waC) (m9:waA) (m10:waA) (m11:waC) (m12:waA) {x:(Bool)} (h:qtQ v2 ok = some x) :
  Sat Pg GE 0 (cA b11 4092) (EX .normal (qla v v2 ok m m2 m3 m4 m5 m6 m7 m8 m9 m10 m11 m12 x)) (qwz v v2 ok m m2 m3 m4 m5 m6 m7 m8 m9 m10 m11 m12):=by
 rcases ifs h with ⟨c25,h⟩ | ⟨c25,h⟩
 ·obtain rfl:=lf h
  have z:=sg 3 c25 <| eF .normal (qla v v2 ok m m2 m3 m4 m5 m6 m7 m8 m9 m10 m11 m12 true)
  exact pcZ A11 z (by kernel_rfl)
 ·obtain rfl:=lf h
  have z:=sg 3 c25 <| svn (sT27.ln v2) <| eF .normal (qla v v2 ok m m2 m3 m4 m5 m6 m7 m8 m9 m10 m11 m12 ((v2.length:Int) != 2))
  exact pcZ A11 z (by kernel_rfl)
def qsa:Option (Bool) :=
 (qBf ([118]:Str)).bind fun r1 =>
 (qy2 ([112]:Str) ([r1]:List tPred)).bind fun r2 =>
 (qgK r2).bind fun r3 =>
 (qgK r2).bind fun r4 =>
 (qp2 (⟨([]:List Str),([]:List tNeed),([(⟨([112]:Str),([73,110,116]:Str)⟩:tAbs)]:List tAbs),([]:List tBound),(⟨6,([]:Str),([r3,r4]:List tType),([([120]:Str)]:List Str),(⟨0,([]:Str),0,([]:List tPred)⟩:tPred),([]:List tPred)⟩:tType),([]:List tPred)⟩:tSig) ([102,46,48]:Str) ([(⟨([121]:Str),([73,110,116]:Str)⟩:tVar)]:List tVar)).bind fun r5 =>
 (qtS r5).bind fun o15 =>
 if o15 = true then
  some false
 else
  (qBf ([118]:Str)).bind fun r18 =>
  (qBf ([121]:Str)).bind fun r19 =>
  (qgK (⟨5,([102,46,48,46,112]:Str),0,([r18,r19]:List tPred)⟩:tPred)).bind fun r20 =>
  (qgK (⟨5,([102,46,48,46,112]:Str),0,([r18,r19]:List tPred)⟩:tPred)).bind fun r21 =>
  (qBf ([118]:Str)).bind fun r22 =>
  (qzy).bind fun r23 =>
  (qoK r23 ([67,111,110,115]:Str) ([(⟨13,([]:Str),0,([(⟨1,([]:Str),0,([]:List tPred)⟩:tPred),r22]:List tPred)⟩:tPred)]:List tPred)).bind fun r24 =>
  (qtQ r24.1 r24.2).bind fun o26 =>
  if o26 = true then
   some false
  else
   (qhu (⟨6,([]:Str),([r3,r4]:List tType),([([120]:Str)]:List Str),(⟨0,([]:Str),0,([]:List tPred)⟩:tPred),([]:List tPred)⟩:tType) ([(⟨([112]:Str),([73,110,116]:Str)⟩:tAbs)]:List tAbs) r5).bind fun r29 =>
   (qm5 r29 (⟨6,([]:Str),([r20,r21]:List tType),([([120]:Str)]:List Str),(⟨0,([]:Str),0,([]:List tPred)⟩:tPred),([]:List tPred)⟩:tType)).bind fun r30 =>
   if r30 = true then
    (qhS r2 ([(⟨([112]:Str),([73,110,116]:Str)⟩:tAbs)]:List tAbs) r5).bind fun r33 =>
    (qiL r33 (⟨5,([102,46,48,46,112]:Str),0,([r18,r19]:List tPred)⟩:tPred)).bind fun r34 =>
    if r34 = true then
     (idx r24.1 0).bind fun x37 =>
     (qgK (⟨13,([]:Str),0,([(⟨1,([]:Str),0,([]:List tPred)⟩:tPred),r22]:List tPred)⟩:tPred)).bind fun r38 =>
     (qm5 x37 r38).bind fun r39 =>
     if r39 = true then
      (idx r24.1 1).bind fun x42 =>
      (qm5 x42 (⟨4,([76,105,115,116]:Str),([]:List tType),([]:List Str),(⟨0,([]:Str),0,([]:List tPred)⟩:tPred),([(⟨13,([]:Str),0,([(⟨1,([]:Str),0,([]:List tPred)⟩:tPred),r22]:List tPred)⟩:tPred)]:List tPred)⟩:tType)).bind fun r43 =>
      if r43 = true then
       (qr6 r2 ([([112]:Str)]:List Str)).bind fun r46 =>
       (qpe r46).bind fun r47 =>
       some r47
      else
       some false
     else
      some false
    else
     some false
   else
    some false
theorem qt4 {r:Bool} (h:qsa = some r):CC Pg GE 11 [] (.bool r) []:=by
 obtain ⟨r1,br1,h⟩:=bnd h
 obtain ⟨r2,br2,h⟩:=bnd h
 obtain ⟨r3,br3,h⟩:=bnd h
 obtain ⟨r4,br4,h⟩:=bnd h
 obtain ⟨r5,br5,h⟩:=bnd h
 obtain ⟨o15,bo15,h⟩:=bnd h
 have p17:=fun {sc F} (r:PS sc F) => sca (qoN br1) <| sv (sT29.mk' (v:=qbq) qaE ([r1]:List tPred) 1 (by kernel_rfl)) <| sca (qsz br2) <| sx pz31 <| sx (qaw r2) <| sdr [0,1,0,0,8,0,56,120,252,511,0,2047] <| sv (qAX ([112]:Str) ([73,110,116]:Str)) <| sv (sT24.mk' (v:=qGR) qF8 ([(⟨([112]:Str),([73,110,116]:Str)⟩:tAbs)]:List tAbs) 1 (by kernel_rfl)) <| sv (sT22.mk' (v:=PVal.str) pcS ([([120]:Str)]:List Str) 1 (by kernel_rfl)) <| sv (qar r2 []) <| sca (qeM br3) <| sv (qar r2 []) <| sca (qeM br4) <| sv (sT27.mk' (v:=qha) qdn ([r3,r4]:List tType) 2 (by kernel_rfl)) <| sb (qpT 6 ([([120]:Str)]:List Str) ([r3,r4]:List tType)) (qpF 6 ([([120]:Str)]:List Str) ([r3,r4]:List tType)) <| sb (qBx ([(⟨([112]:Str),([73,110,116]:Str)⟩:tAbs)]:List tAbs) (⟨6,([]:Str),([r3,r4]:List tType),([([120]:Str)]:List Str),(⟨0,([]:Str),0,([]:List tPred)⟩:tPred),([]:List tPred)⟩:tType)) (qBs ([(⟨([112]:Str),([73,110,116]:Str)⟩:tAbs)]:List tAbs) (⟨6,([]:Str),([r3,r4]:List tType),([([120]:Str)]:List Str),(⟨0,([]:Str),0,([]:List tPred)⟩:tPred),([]:List tPred)⟩:tType)) <| syx (qF5 (⟨([]:List Str),([]:List tNeed),([(⟨([112]:Str),([73,110,116]:Str)⟩:tAbs)]:List tAbs),([]:List tBound),(⟨6,([]:Str),([r3,r4]:List tType),([([120]:Str)]:List Str),(⟨0,([]:Str),0,([]:List tPred)⟩:tPred),([]:List tPred)⟩:tType),([]:List tPred)⟩:tSig)) <| sv (qGn (⟨([]:List Str),([]:List tNeed),([(⟨([112]:Str),([73,110,116]:Str)⟩:tAbs)]:List tAbs),([]:List tBound),(⟨6,([]:Str),([r3,r4]:List tType),([([120]:Str)]:List Str),(⟨0,([]:Str),0,([]:List tPred)⟩:tPred),([]:List tPred)⟩:tType),([]:List tPred)⟩:tSig) []) <| sv (qqN ([121]:Str) ([73,110,116]:Str)) <| sv (sT36.mk' (v:=qBZ) qyw ([(⟨([121]:Str),([73,110,116]:Str)⟩:tVar)]:List tVar) 1 (by kernel_rfl)) <| sca (qtk br5) <| spa 1 <| spc (qvC r5 r2.Op r2.Name r2.N r2.Kids ([]:List tNeed) ([(⟨([112]:Str),([73,110,116]:Str)⟩:tAbs)]:List tAbs) ([]:List tBound) ([r3,r4]:List tType) ([]:List tPred) bo15) <| r
 rcases ifs h with ⟨c16,h⟩ | ⟨c16,h⟩
 ·obtain rfl:=lf h
  have z:=p17 <| sg 0 c16 <| en (aI (rP (.bool false)) <| trivial)
  exact cvZ A11 Tryz.call11 Tryz.func11 (c:=b11) rfl trivial z (by kernel_rfl)
 ·obtain ⟨r18,br18,h⟩:=bnd h
  obtain ⟨r19,br19,h⟩:=bnd h
  obtain ⟨r20,br20,h⟩:=bnd h
  obtain ⟨r21,br21,h⟩:=bnd h
  obtain ⟨r22,br22,h⟩:=bnd h
  obtain ⟨r23,br23,h⟩:=bnd h
  obtain ⟨r24,br24,h⟩:=bnd h
  obtain ⟨o26,bo26,h⟩:=bnd h
  have p28:=fun {sc F} (r:PS sc F) => p17 <| sg 0 c16 <| sca (qoN br18) <| sca (qoN br19) <| sv (sT29.mk' (v:=qbq) qaE ([r18,r19]:List tPred) 2 (by kernel_rfl)) <| sv (qiN 5 ([102,46,48,46,112]:Str) ([r18,r19]:List tPred)) <| sx pz31 <| sx (qaw (⟨5,([102,46,48,46,112]:Str),0,([r18,r19]:List tPred)⟩:tPred)) <| sdr [0,0,2,0,14,30,63,0,255] <| sv (sT22.mk' (v:=PVal.str) pcS ([([120]:Str)]:List Str) 1 (by kernel_rfl)) <| sv (qar (⟨5,([102,46,48,46,112]:Str),0,([r18,r19]:List tPred)⟩:tPred) []) <| sca (qeM br20) <| sv (qar (⟨5,([102,46,48,46,112]:Str),0,([r18,r19]:List tPred)⟩:tPred) []) <| sca (qeM br21) <| sv (sT27.mk' (v:=qha) qdn ([r20,r21]:List tType) 2 (by kernel_rfl)) <| sb (qpT 6 ([([120]:Str)]:List Str) ([r20,r21]:List tType)) (qpF 6 ([([120]:Str)]:List Str) ([r20,r21]:List tType)) <| syx (qbA (⟨6,([]:Str),([r20,r21]:List tType),([([120]:Str)]:List Str),(⟨0,([]:Str),0,([]:List tPred)⟩:tPred),([]:List tPred)⟩:tType)) <| sb (qxn 1) (qxx 1) <| sca (qoN br22) <| sv (sT29.mk' (v:=qbq) qaE ([(⟨1,([]:Str),0,([]:List tPred)⟩:tPred),r22]:List tPred) 2 (by kernel_rfl)) <| sv (qtJ 13 ([(⟨1,([]:Str),0,([]:List tPred)⟩:tPred),r22]:List tPred)) <| sx pz31 <| sx (qaw (⟨13,([]:Str),0,([(⟨1,([]:Str),0,([]:List tPred)⟩:tPred),r22]:List tPred)⟩:tPred)) <| sdr [0,0,2,7,15,31,31,63,255] <| sca (qzX br23) <| sv (qar (⟨13,([]:Str),0,([(⟨1,([]:Str),0,([]:List tPred)⟩:tPred),r22]:List tPred)⟩:tPred) []) <| sv (sT29.mk' (v:=qbq) qaE ([(⟨13,([]:Str),0,([(⟨1,([]:Str),0,([]:List tPred)⟩:tPred),r22]:List tPred)⟩:tPred)]:List tPred) 1 (by kernel_rfl)) <| sca (qsb br24) <| spa 1 <| spc (qu6 r5 r24.1 r24.2 r2.Op r2.Name r2.N r2.Kids ([]:List tNeed) ([(⟨([112]:Str),([73,110,116]:Str)⟩:tAbs)]:List tAbs) ([]:List tBound) ([r3,r4]:List tType) ([]:List tPred) ([r18,r19]:List tPred) ([r20,r21]:List tType) ([(⟨1,([]:Str),0,([]:List tPred)⟩:tPred),r22]:List tPred) bo26) <| r
  rcases ifs h with ⟨c27,h⟩ | ⟨c27,h⟩
  ·obtain rfl:=lf h
   have z:=p28 <| sg 0 c27 <| en (aI (rP (.bool false)) <| trivial)
   exact cvZ A11 Tryz.call11 Tryz.func11 (c:=b11) rfl trivial z (by kernel_rfl)
  ·obtain ⟨r29,br29,h⟩:=bnd h
   obtain ⟨r30,br30,h⟩:=bnd h
   have p32:=fun {sc F} (r:PS sc F) => p28 <| sg 0 c27 <| sv (qar (⟨13,([]:Str),0,([(⟨1,([]:Str),0,([]:List tPred)⟩:tPred),r22]:List tPred)⟩:tPred) []) <| sv (sT29.mk' (v:=qbq) qaE ([(⟨13,([]:Str),0,([(⟨1,([]:Str),0,([]:List tPred)⟩:tPred),r22]:List tPred)⟩:tPred)]:List tPred) 1 (by kernel_rfl)) <| sb (qpM 4 ([76,105,115,116]:Str) ([(⟨13,([]:Str),0,([(⟨1,([]:Str),0,([]:List tPred)⟩:tPred),r22]:List tPred)⟩:tPred)]:List tPred)) (qpW 4 ([76,105,115,116]:Str) ([(⟨13,([]:Str),0,([(⟨1,([]:Str),0,([]:List tPred)⟩:tPred),r22]:List tPred)⟩:tPred)]:List tPred)) <| sx pz33 <| sy (qav (⟨4,([76,105,115,116]:Str),([]:List tType),([]:List Str),(⟨0,([]:Str),0,([]:List tPred)⟩:tPred),([(⟨13,([]:Str),0,([(⟨1,([]:Str),0,([]:List tPred)⟩:tPred),r22]:List tPred)⟩:tPred)]:List tPred)⟩:tType)) <| sdr [0,1,0,4,0,31,0,127,255,511,511,1535,511,8191,511,32767,65535,131071,262143,524287,1048575,262143,2359295,8388607,16777215,33554431,67108863,134217727,268435455,67108863,1073741823,2147483647,4294967295,8589934591,8589934591,34359738367,68719476735,137438953471,274877906943] <| sv (qbn (⟨6,([]:Str),([r3,r4]:List tType),([([120]:Str)]:List Str),(⟨0,([]:Str),0,([]:List tPred)⟩:tPred),([]:List tPred)⟩:tType) [sl qaa ([]:List tPred)]) <| ss <| sca (qnp br29) <| sv (qbn (⟨6,([]:Str),([r20,r21]:List tType),([([120]:Str)]:List Str),(⟨0,([]:Str),0,([]:List tPred)⟩:tPred),([]:List tPred)⟩:tType) []) <| sca (ql7 br30) <| r
   rcases ifs h with ⟨c31,h⟩ | ⟨c31,h⟩
   ·obtain ⟨r33,br33,h⟩:=bnd h
    obtain ⟨r34,br34,h⟩:=bnd h
    have p36:=fun {sc F} (r:PS sc F) => p32 <| sg 9 c31 <| sv (qar r2 []) <| ss <| sca (qjs br33) <| sv (qar (⟨5,([102,46,48,46,112]:Str),0,([r18,r19]:List tPred)⟩:tPred) []) <| sca (qie br34) <| r
    rcases ifs h with ⟨c35,h⟩ | ⟨c35,h⟩
    ·obtain ⟨x37,bx37,h⟩:=bnd h
     obtain ⟨r38,br38,h⟩:=bnd h
     obtain ⟨r39,br39,h⟩:=bnd h
     have p41:=fun {sc F} (r:PS sc F) => p36 <| sg 18 c35 <| sv (sT27.ia (k := .i64) bx37) <| sv (qaW x37) <| sv (qar (⟨13,([]:Str),0,([(⟨1,([]:Str),0,([]:List tPred)⟩:tPred),r22]:List tPred)⟩:tPred) []) <| sca (qeM br38) <| sca (ql7 br39) <| r
     rcases ifs h with ⟨c40,h⟩ | ⟨c40,h⟩
     ·obtain ⟨x42,bx42,h⟩:=bnd h
      obtain ⟨r43,br43,h⟩:=bnd h
      have p45:=fun {sc F} (r:PS sc F) => p41 <| sg 26 c40 <| sv (sT27.ia (k := .i64) bx42) <| sv (qaW x42) <| sv (qbn (⟨4,([76,105,115,116]:Str),([]:List tType),([]:List Str),(⟨0,([]:Str),0,([]:List tPred)⟩:tPred),([(⟨13,([]:Str),0,([(⟨1,([]:Str),0,([]:List tPred)⟩:tPred),r22]:List tPred)⟩:tPred)]:List tPred)⟩:tType) []) <| sca (ql7 br43) <| r
      rcases ifs h with ⟨c44,h⟩ | ⟨c44,h⟩
      ·obtain ⟨r46,br46,h⟩:=bnd h
       obtain ⟨r47,br47,h⟩:=bnd h
       obtain rfl:=lf h
       have z:=p45 <| sg 33 c44 <| sv (qar r2 []) <| sv (sT22.mk' (v:=PVal.str) pcS ([([112]:Str)]:List Str) 1 (by kernel_rfl)) <| sca (quv br46) <| sca (qqh br47) <| en (aI (rP (.bool r47)) <| trivial)
       exact cvZ A11 Tryz.call11 Tryz.func11 (c:=b11) rfl trivial z (by kernel_rfl)
      ·obtain rfl:=lf h
       have z:=p45 <| sg 33 c44 <| en (aI (rP (.bool false)) <| trivial)
       exact cvZ A11 Tryz.call11 Tryz.func11 (c:=b11) rfl trivial z (by kernel_rfl)
     ·obtain rfl:=lf h
      have z:=p41 <| sg 26 c40 <| en (aI (rP (.bool false)) <| trivial)
      exact cvZ A11 Tryz.call11 Tryz.func11 (c:=b11) rfl trivial z (by kernel_rfl)
    ·obtain rfl:=lf h
     have z:=p36 <| sg 18 c35 <| en (aI (rP (.bool false)) <| trivial)
     exact cvZ A11 Tryz.call11 Tryz.func11 (c:=b11) rfl trivial z (by kernel_rfl)
   ·obtain rfl:=lf h
    have z:=p32 <| sg 9 c31 <| en (aI (rP (.bool false)) <| trivial)
    exact cvZ A11 Tryz.call11 Tryz.func11 (c:=b11) rfl trivial z (by kernel_rfl)
abbrev qdZ:=(waC→Option (Bool))
abbrev qlF (R:qdZ):Prop := ∀ (a:waC) (r:Bool),R a = some r→CC Pg GE 12 [sl qac a] (.bool r) []
abbrev qgD:=(tType→Option (Int))
abbrev qqP (R:qgD):Prop := ∀ (t:tType) (r:Int),R t = some r→CC Pg GE 45 [.agg (qac t)] (.int .i64 r) []
noncomputable def b45:Code:=Tryz.f45.body.getD .skip
def A45:List Nat:=[18]
def qgl (k:Int) (t7:waC) (t8:Int) (t9:Int):PSt:=stt 19 [(3,.int .i64 k),(7,sl qac t7),(8,.int .i64 t8),(9,.int .i64 t9)] [.dead] []
def qlk (t7:waC) (t8:Int) (o:Int):PSt:=stt 19 [(3,.int .i64 o)] [.dead] []
def qpE (R86:qgD) (t7:waC) (t8:Int) (k:Int) (t9:Int):Option ((Int×Int)⊕((Int))) :=
 if (decide (t9 < t8)) = true then
  (idx t7 t9).bind fun x2 =>
  (R86 x2).bind fun r3 =>
  some (.inl (w64 (k + r3),w64 (t9 + 1)))
 else
  some (.inr k)
def qn2 (R86:qgD) (t7:waC) (t8:Int) (k:Int) (t9:Int):Option ((Int)):=loop (fun (zz:Int×Int) => qpE R86 t7 t8 zz.1 zz.2) (k,t9)
theorem quh (R86:qgD) (hR86:qqP R86) (k:Int) (t7:waC) (t8:Int) (t9:Int) {y:(Int×Int)⊕((Int))} (h:qpE R86 t7 t8 k t9 = some y) :
  Sat Pg GE 0 (cA b45 119) (LQ (fun (zz:Int×Int) => qgl zz.1 t7 t8 zz.2) (fun _ => .exit 0) (qlk t7 t8) y) (qgl k t7 t8 t9):=by
 rcases ifs h with ⟨c1,h⟩ | ⟨c1,h⟩
 ·obtain ⟨x2,bx2,h⟩:=bnd h
  obtain ⟨r3,br3,h⟩:=bnd h
  obtain rfl:=lf h
  have z:=sg 0 c1 <| sv (sT27.ia (k := .i64) bx2) <| sv (qaW x2) <| sx pz33 <| sx (qbA x2) <| sv (qbn x2 []) <| sca (hR86 _ _ br3) <| eFx 0 .normal (qgl (w64 (k + r3)) t7 t8 (w64 (t9 + 1))) rfl (qbP (aI trivial (aI (up (qad qaf t7)) (aI trivial (aI trivial trivial))))) (aI trivial trivial)
  exact qbi (A:=A45) mixed z (by kernel_rfl)
 ·obtain rfl:=lf h
  have z:=sg 0 c1 <| eF (.exit 0) (qlk t7 t8 k)
  exact ovZ A45 (by intro hx; cases hx) z (by kernel_rfl)
theorem qwo (R86:qgD) (hR86:qqP R86) (k:Int) (t7:waC) (t8:Int) (t9:Int) {x:(Int)} (h:qn2 R86 t7 t8 k t9 = some x) :
  Sat Pg GE 0 (.loop (cA b45 119)) (EX (.exit 0) (qlk t7 t8 x)) (qgl k t7 t8 t9) :=
 Sat.loop (S:=fun (zz:Int×Int) => qgl zz.1 t7 t8 zz.2) (ex:=(fun _ => .exit 0)) (s:=(k,t9)) h fun zz y hy => quh R86 hR86 zz.1 t7 t8 zz.2 hy
def qmy (R86:qgD) (t:tType):Option (Int) :=
 (qn2 R86 t.Args (t.Args.length:Int) 1 0).bind fun o4 =>
 some o4
theorem qyq (R86:qgD) (hR86:qqP R86) {t:tType} {r:Int} (h:qmy R86 t = some r):CC Pg GE 45 [.agg (qac t)] (.int .i64 r) []:=by
 obtain ⟨o4,bo4,h⟩:=bnd h
 obtain rfl:=lf h
 have z:=se (qbH t) <| sv (qaH t) <| sv (qaI t) <| svn (sT27.ln t.Args) <| spc (qwo R86 hR86 1 t.Args (t.Args.length:Int) 0 bo4) <| en (aI (rP (.int .i64 o4)) <| trivial)
 exact cvZ A45 Tryz.call45 Tryz.func45 (c:=b45) rfl (aI (qaf t) trivial) z (by kernel_rfl)
def qqC:((tType)→Option (Int))→(tType)→Option (Int):=fun (rec:tType→Option (Int)) (x:tType) => qmy (fun t => rec t) x
def qwd (t:tType):Option (Int):=fixE (qqC) t
theorem qAa {t:tType} {r:Int} (h:qwd t = some r):CC Pg GE 45 [.agg (qac t)] (.int .i64 r) [] :=
 qbX (F:=qqC) (M:=fun (x:tType) (r:Int) => CC Pg GE 45 [.agg (qac x)] (.int .i64 r) []) (fun rec hrec x r h => qyq _ (fun t r h => hrec t r h) h) h
abbrev qgL:=(tPred→Option (Int))
abbrev qqV (R:qgL):Prop := ∀ (p:tPred) (r:Int),R p = some r→CC Pg GE 21 [.agg (qaa p)] (.int .i64 r) []
noncomputable def b21:Code:=Tryz.f21.body.getD .skip
def A21:List Nat:=[18]
def qgf (n:Int) (t7:waA) (t8:Int) (t9:Int):PSt:=stt 19 [(3,.int .i64 n),(7,sl qaa t7),(8,.int .i64 t8),(9,.int .i64 t9)] [.dead] []
def qlA (t7:waA) (t8:Int) (o:Int):PSt:=stt 19 [(3,.int .i64 o)] [.dead] []
def qiM (R88:qgL) (t7:waA) (t8:Int) (n:Int) (t9:Int):Option ((Int×Int)⊕((Int))) :=
 if (decide (t9 < t8)) = true then
  (idx t7 t9).bind fun x2 =>
  (R88 x2).bind fun r3 =>
  some (.inl (w64 (n + r3),w64 (t9 + 1)))
 else
  some (.inr n)
def qnE (R88:qgL) (t7:waA) (t8:Int) (n:Int) (t9:Int):Option ((Int)):=loop (fun (zz:Int×Int) => qiM R88 t7 t8 zz.1 zz.2) (n,t9)
theorem qud (R88:qgL) (hR88:qqV R88) (n:Int) (t7:waA) (t8:Int) (t9:Int) {y:(Int×Int)⊕((Int))} (h:qiM R88 t7 t8 n t9 = some y) :
  Sat Pg GE 0 (cA b21 119) (LQ (fun (zz:Int×Int) => qgf zz.1 t7 t8 zz.2) (fun _ => .exit 0) (qlA t7 t8) y) (qgf n t7 t8 t9):=by
 rcases ifs h with ⟨c1,h⟩ | ⟨c1,h⟩
 ·obtain ⟨x2,bx2,h⟩:=bnd h
  obtain ⟨r3,br3,h⟩:=bnd h
  obtain rfl:=lf h
  have z:=sg 0 c1 <| sv (sT29.ia (k := .i64) bx2) <| sv (qaj x2) <| sx pz31 <| sx (qaw x2) <| sv (qar x2 []) <| sca (hR88 _ _ br3) <| eFx 0 .normal (qgf (w64 (n + r3)) t7 t8 (w64 (t9 + 1))) rfl (qbP (aI trivial (aI (up (qad qab t7)) (aI trivial (aI trivial trivial))))) (aI trivial trivial)
  exact qbi (A:=A21) mixed z (by kernel_rfl)
 ·obtain rfl:=lf h
  have z:=sg 0 c1 <| eF (.exit 0) (qlA t7 t8 n)
  exact ovZ A21 (by intro hx; cases hx) z (by kernel_rfl)
theorem qvs (R88:qgL) (hR88:qqV R88) (n:Int) (t7:waA) (t8:Int) (t9:Int) {x:(Int)} (h:qnE R88 t7 t8 n t9 = some x) :
  Sat Pg GE 0 (.loop (cA b21 119)) (EX (.exit 0) (qlA t7 t8 x)) (qgf n t7 t8 t9) :=
 Sat.loop (S:=fun (zz:Int×Int) => qgf zz.1 t7 t8 zz.2) (ex:=(fun _ => .exit 0)) (s:=(n,t9)) h fun zz y hy => qud R88 hR88 zz.1 t7 t8 zz.2 hy
def qmY (R88:qgL) (p:tPred):Option (Int) :=
 (qnE R88 p.Kids (p.Kids.length:Int) 1 0).bind fun o4 =>
 some o4
theorem qyc (R88:qgL) (hR88:qqV R88) {p:tPred} {r:Int} (h:qmY R88 p = some r):CC Pg GE 21 [.agg (qaa p)] (.int .i64 r) []:=by
 obtain ⟨o4,bo4,h⟩:=bnd h
 obtain rfl:=lf h
 have z:=se (qaL p) <| sv (qax p) <| sv (qay p) <| svn (sT29.ln p.Kids) <| spc (qvs R88 hR88 1 p.Kids (p.Kids.length:Int) 0 bo4) <| en (aI (rP (.int .i64 o4)) <| trivial)
 exact cvZ A21 Tryz.call21 Tryz.func21 (c:=b21) rfl (aI (qab p) trivial) z (by kernel_rfl)
def qqZ:((tPred)→Option (Int))→(tPred)→Option (Int):=fun (rec:tPred→Option (Int)) (x:tPred) => qmY (fun p => rec p) x
def qu5 (p:tPred):Option (Int):=fixE (qqZ) p
theorem qAf {p:tPred} {r:Int} (h:qu5 p = some r):CC Pg GE 21 [.agg (qaa p)] (.int .i64 r) [] :=
 qbX (F:=qqZ) (M:=fun (x:tPred) (r:Int) => CC Pg GE 21 [.agg (qaa x)] (.int .i64 r) []) (fun rec hrec x r h => qyc _ (fun p r h => hrec p r h) h) h
abbrev qgM:=(tPred→Option (Int))
abbrev qqD (R:qgM):Prop := ∀ (p:tPred) (r:Int),R p = some r→CC Pg GE 60 [.agg (qaa p)] (.int .i64 r) []
noncomputable def b60:Code:=Tryz.f60.body.getD .skip
def A60:List Nat:=[]
def qgk (n:Int) (t7:waA) (t8:Int) (t9:Int):PSt:=stt 20 [(3,.int .i64 n),(7,sl qaa t7),(8,.int .i64 t8),(9,.int .i64 t9)] [.dead] []
def qls (t7:waA) (t8:Int) (o:Int):PSt:=stt 20 [(3,.int .i64 o)] [.dead] []
def qp4 (R89:qgM) (t7:waA) (t8:Int) (n:Int) (t9:Int):Option ((Int×Int)⊕((Int))) :=
 if (decide (t9 < t8)) = true then
  (idx t7 t9).bind fun x2 =>
  (R89 x2).bind fun r3 =>
  some (.inl ((if r3 > n then r3 else n),w64 (t9 + 1)))
 else
  some (.inr n)
def qnZ (R89:qgM) (t7:waA) (t8:Int) (n:Int) (t9:Int):Option ((Int)):=loop (fun (zz:Int×Int) => qp4 R89 t7 t8 zz.1 zz.2) (n,t9)
theorem quz (R89:qgM) (hR89:qqD R89) (n:Int) (t7:waA) (t8:Int) (t9:Int) {y:(Int×Int)⊕((Int))} (h:qp4 R89 t7 t8 n t9 = some y) :
  Sat Pg GE 0 (cA b60 119) (LQ (fun (zz:Int×Int) => qgk zz.1 t7 t8 zz.2) (fun _ => .exit 0) (qls t7 t8) y) (qgk n t7 t8 t9):=by
 rcases ifs h with ⟨c1,h⟩ | ⟨c1,h⟩
 ·obtain ⟨x2,bx2,h⟩:=bnd h
  obtain ⟨r3,br3,h⟩:=bnd h
  obtain rfl:=lf h
  have z:=sg 0 c1 <| sv (sT29.ia (k := .i64) bx2) <| sv (qaj x2) <| sx pz31 <| sx (qaw x2) <| sv (qar x2 []) <| sca (hR89 _ _ br3) <| eFx 0 .normal (qgk (if r3 > n then r3 else n) t7 t8 (w64 (t9 + 1))) rfl (qbP (aI trivial (aI (up (qad qab t7)) (aI trivial (aI trivial trivial))))) (aI trivial trivial)
  exact qbi (A:=A60) mixed z (by kernel_rfl)
 ·obtain rfl:=lf h
  have z:=sg 0 c1 <| eF (.exit 0) (qls t7 t8 n)
  exact ovZ A60 (by intro hx; cases hx) z (by kernel_rfl)
theorem qwc (R89:qgM) (hR89:qqD R89) (n:Int) (t7:waA) (t8:Int) (t9:Int) {x:(Int)} (h:qnZ R89 t7 t8 n t9 = some x) :
  Sat Pg GE 0 (.loop (cA b60 119)) (EX (.exit 0) (qls t7 t8 x)) (qgk n t7 t8 t9) :=
 Sat.loop (S:=fun (zz:Int×Int) => qgk zz.1 t7 t8 zz.2) (ex:=(fun _ => .exit 0)) (s:=(n,t9)) h fun zz y hy => quz R89 hR89 zz.1 t7 t8 zz.2 hy
def qm4 (R89:qgM) (p:tPred):Option (Int) :=
 (qnZ R89 p.Kids (p.Kids.length:Int) 0 0).bind fun o4 =>
 some (w64 (o4 + 1))
theorem qx3 (R89:qgM) (hR89:qqD R89) {p:tPred} {r:Int} (h:qm4 R89 p = some r):CC Pg GE 60 [.agg (qaa p)] (.int .i64 r) []:=by
 obtain ⟨o4,bo4,h⟩:=bnd h
 obtain rfl:=lf h
 have z:=se (qaL p) <| sv (qax p) <| sv (qay p) <| svn (sT29.ln p.Kids) <| spc (qwc R89 hR89 0 p.Kids (p.Kids.length:Int) 0 bo4) <| en (aI (rP (.int .i64 (w64 (o4 + 1)))) <| trivial)
 exact cvZ A60 Tryz.call60 Tryz.func60 (c:=b60) rfl (aI (qab p) trivial) z (by kernel_rfl)
def qqv:((tPred)→Option (Int))→(tPred)→Option (Int):=fun (rec:tPred→Option (Int)) (x:tPred) => qm4 (fun p => rec p) x
def quY (p:tPred):Option (Int):=fixE (qqv) p
theorem qzr {p:tPred} {r:Int} (h:quY p = some r):CC Pg GE 60 [.agg (qaa p)] (.int .i64 r) [] :=
 qbX (F:=qqv) (M:=fun (x:tPred) (r:Int) => CC Pg GE 60 [.agg (qaa x)] (.int .i64 r) []) (fun rec hrec x r h => qx3 _ (fun p r h => hrec p r h) h) h
noncomputable def b46:Code:=Tryz.f46.body.getD .skip
def A46:List Nat:=[]
def qq6 (p:tPred):Option (Bool) :=
 (qu5 p).bind fun r1 =>
 if (decide (r1 ≤ 60)) = true then
  (quY p).bind fun r4 =>
  some (decide (r4 ≤ 6))
 else
  some false
theorem qzq {p:tPred} {r:Bool} (h:qq6 p = some r):CC Pg GE 46 [.agg (qaa p)] (.bool r) []:=by
 obtain ⟨r1,br1,h⟩:=bnd h
 have p3:=fun {sc F} (r:PS sc F) => se (qaL p) <| sv (qaj p) <| sca (qAf br1) <| r
 rcases ifs h with ⟨c2,h⟩ | ⟨c2,h⟩
 ·obtain ⟨r4,br4,h⟩:=bnd h
  obtain rfl:=lf h
  have z:=p3 <| sg 4 c2 <| sv (qaj p) <| sca (qzr br4) <| en (aI (rP (.bool (decide (r4 ≤ 6)))) <| trivial)
  exact cvZ A46 Tryz.call46 Tryz.func46 (c:=b46) rfl (aI (qab p) trivial) z (by kernel_rfl)
 ·obtain rfl:=lf h
  have z:=p3 <| sg 4 c2 <| en (aI (rP (.bool false)) <| trivial)
  exact cvZ A46 Tryz.call46 Tryz.func46 (c:=b46) rfl (aI (qab p) trivial) z (by kernel_rfl)
end Go.Proofs.YtgldgpdhblndkaaGreatDoor
