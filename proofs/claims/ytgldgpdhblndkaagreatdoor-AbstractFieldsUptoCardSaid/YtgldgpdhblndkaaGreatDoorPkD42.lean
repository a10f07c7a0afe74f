/-
  WHAT IS PROVED: parts of the proof, put together by a program out of smaller texts, their own names made short (G11). Conditions: none.
-/
import Derived.Test.YtgldgpdhblndkaaGreatDoorPkD41
namespace Go.Proofs.YtgldgpdhblndkaaGreatDoor
open Go
set_option linter.unusedVariables false
set_option maxRecDepth 100000
abbrev qbO:=(tPred→(List Str)→(List tPred)→Option (tPred))
abbrev qfW (R:qbO):Prop := ∀ (p:tPred) (names:(List Str)) (a:(List tPred)) (r:tPred),R p names a = some r→CC Pg GE 134 [.agg (qaa p),sl cS names,sl qaa a] (.agg (qaa r)) []
noncomputable def b116:Code:=Tryz.f116.body.getD .skip
def A116:List Nat:=[]
noncomputable def qxC (p:tPred) (kids:(List tPred)):Option (tPred) :=
  some (⟨p.Op,p.Name,p.N,kids⟩:tPred)
theorem qxg {p:tPred} {kids:(List tPred)} {r:tPred} (h:qxC p kids = some r):CC Pg GE 116 [.agg (qaa p),sl qaa kids] (.agg (qaa r)) []:=by
  obtain rfl:=lf h
  have z:=se (qat p) <| sx pz31 <| sv (qal p) <| sv (qak p) <| sv (qao p) <| sv (qax p) <| sv (qaW p) <| sv (qbd p) <| sv (qsq p.Op p.Name p.N kids) <| sx (qan (⟨p.Op,p.Name,p.N,kids⟩:tPred)) <| en (aI (qa4 (⟨p.Op,p.Name,p.N,kids⟩:tPred)) <| (qab (⟨p.Op,p.Name,p.N,kids⟩:tPred)))
  exact C.evp (A:=A116) mixed Tryz.call116 Tryz.func116 (c:=b116) rfl (aI (qab p) (aI (qad qab kids) trivial)) z (by kernel_rfl)
noncomputable def b134:Code:=Tryz.f134.body.getD .skip
def A134:List Nat:=[37]
noncomputable def qq6 (names:(List Str)) (v:(List tPred)) (p:tPred) (m:(List tPred)):PSt:=stt 48 [(1,sl cS names),(2,sl qaa v),(3,.eptr (qaa p)),(6,.bptr 1 0)] [.dead,.cells [.int .i64 0,.str ([]:Str),.int .i64 0,sl qaa m] [(3,31)]] []
noncomputable def qfn (o:(Int×Str×Int×(List tPred))⊕(Unit)):Exit:=match o with
  | (.inl _) => .ret
  | (.inr _) => .normal
noncomputable def qdj (names:(List Str)) (v:(List tPred)) (p:tPred) (m:(List tPred)) (o:(Int×Str×Int×(List tPred))⊕(Unit)):PSt:=match o with
  | (.inl o) => stt 48 [(6,.bptr 1 0)] [.dead,.cells [.int .i64 o.1,.str o.2.1,.int .i64 o.2.2.1,sl qaa o.2.2.2] []] []
  | (.inr o) => stt 48 [(1,sl cS names),(2,sl qaa v),(3,.eptr (qaa p)),(6,.bptr 1 0)] [.dead,.cells [.int .i64 0,.str ([]:Str),.int .i64 0,sl qaa m] [(3,31)]] []
noncomputable def qrx (names:(List Str)) (v:(List tPred)) (p:tPred) (i:Int) (m:(List tPred)):PSt:=stt 48 [(1,sl cS names),(2,sl qaa v),(3,.eptr (qaa p)),(6,.bptr 1 0),(7,.int .i64 i)] [.dead,.cells [.int .i64 0,.str ([]:Str),.int .i64 0,sl qaa m] [(3,31)]] []
noncomputable def qh3 (names:(List Str)) (v:(List tPred)) (p:tPred) (i:Int) (m:(List tPred)) (o:Bool):PSt:=stt 48 [(1,sl cS names),(2,sl qaa v),(3,.eptr (qaa p)),(6,.bptr 1 0),(7,.int .i64 i),(25,.bool o)] [.dead,.cells [.int .i64 0,.str ([]:Str),.int .i64 0,sl qaa m] [(3,31)]] []
noncomputable def qjR (R108:qbO) (v:(List tPred)) (i:Int):Option ((Bool)) :=
  if (decide (i ≥ 0)) = true then
    some (decide (i < (v.length:Int)))
  else
    some false
theorem qkf (R108:qbO) (hR108:qfW R108) (names:(List Str)) (v:(List tPred)) (p:tPred) (i:Int) (m:(List tPred)) {x:(Bool)} (h:qjR R108 v i = some x) :
    Sat Pg GE 0 (cA b134 106) (EX .normal (qh3 names v p i m x)) (qrx names v p i m):=by
  rcases ifs h with ⟨c3,h⟩ | ⟨c3,h⟩
  · obtain rfl:=lf h
    have z:=sg 3 c3 <| svn (sT29.ln v) <| eF .normal (qh3 names v p i m (decide (i < (v.length:Int))))
    exact qaR (A:=A134) mixed z (by kernel_rfl)
  · obtain rfl:=lf h
    have z:=sg 3 c3 <| eF .normal (qh3 names v p i m false)
    exact qaR (A:=A134) mixed z (by kernel_rfl)
noncomputable def qgM (R108:qbO) (names:(List Str)) (v:(List tPred)) (p:tPred):Option ((Int×Str×Int×(List tPred))⊕(Unit)) :=
  if (p.Op == 3) = true then
    (qsA names p.Name).bind fun r2 =>
    (qjR R108 v r2).bind fun o4 =>
    if o4 = true then
      (idx v r2).bind fun x6 =>
      some (.inl (x6.Op,x6.Name,x6.N,x6.Kids))
    else
      some (.inr ())
  else
    some (.inr ())
theorem qkn (R108:qbO) (hR108:qfW R108) (names:(List Str)) (v:(List tPred)) (p:tPred) (m:(List tPred)) {x:(Int×Str×Int×(List tPred))⊕(Unit)} (h:qgM R108 names v p = some x) :
    Sat Pg GE 0 (cA b134 6) (EX (qfn x) (qdj names v p m x)) (qq6 names v p m):=by
  rcases ifs h with ⟨c1,h⟩ | ⟨c1,h⟩
  · obtain ⟨r2,br2,h⟩:=bnd h
    obtain ⟨o4,bo4,h⟩:=bnd h
    rcases ifs h with ⟨c5,h⟩ | ⟨c5,h⟩
    · obtain ⟨x6,bx6,h⟩:=bnd h
      obtain rfl:=lf h
      have z:=sv (qal p) <| sv (qak p) <| sg 0 c1 <| sv (qao p) <| sv (qax p) <| sca (qtK br2) <| spa 0 <| spc (qkf R108 hR108 names v p r2 m bo4) <| sg 0 c5 <| sv (sT29.ia (k := .i64) bx6) <| sv (qaj x6) <| sx (qan x6) <| eF (qfn (.inl (x6.Op,x6.Name,x6.N,x6.Kids))) (qdj names v p m (.inl (x6.Op,x6.Name,x6.N,x6.Kids)))
      exact qaR (A:=A134) mixed z (by kernel_rfl)
    · obtain rfl:=lf h
      have z:=sv (qal p) <| sv (qak p) <| sg 0 c1 <| sv (qao p) <| sv (qax p) <| sca (qtK br2) <| spa 0 <| spc (qkf R108 hR108 names v p r2 m bo4) <| sg 0 c5 <| eF (qfn (.inr ())) (qdj names v p m (.inr ()))
      exact qaR (A:=A134) mixed z (by kernel_rfl)
  · obtain rfl:=lf h
    have z:=sv (qal p) <| sv (qak p) <| sg 0 c1 <| eF (qfn (.inr ())) (qdj names v p m (.inr ()))
    exact qaR (A:=A134) mixed z (by kernel_rfl)
noncomputable def qd0 (names:(List Str)) (v:(List tPred)) (p:tPred) (out:(List tPred)) (t31:(List tPred)) (t32:Int) (t33:Int) (m:(List tPred)):PSt:=stt 48 [(1,sl cS names),(2,sl qaa v),(3,.eptr (qaa p)),(6,.bptr 1 0),(8,sl qaa out),(31,sl qaa t31),(32,.int .i64 t32),(33,.int .i64 t33)] [.dead,.cells [.int .i64 0,.str ([]:Str),.int .i64 0,sl qaa m] [(3,31)]] [((8,0),31)]
noncomputable def qh9 (names:(List Str)) (v:(List tPred)) (p:tPred) (t31:(List tPred)) (t32:Int) (m:(List tPred)) (o:(List tPred)):PSt:=stt 48 [(3,.eptr (qaa p)),(6,.bptr 1 0),(8,sl qaa o)] [.dead,.cells [.int .i64 0,.str ([]:Str),.int .i64 0,sl qaa m] [(3,31)]] [((8,0),31)]
noncomputable def qld (R108:qbO) (names:(List Str)) (v:(List tPred)) (t31:(List tPred)) (t32:Int) (out:(List tPred)) (t33:Int):Option (((List tPred)×Int)⊕(((List tPred)))) :=
  if (decide (t33 < t32)) = true then
    (idx t31 t33).bind fun x9 =>
    (R108 x9 names v).bind fun r10 =>
    (app out ([r10]:List tPred)).bind fun l11 =>
    some (.inl (l11,w64 (t33 + 1)))
  else
    some (.inr out)
noncomputable def qjw (R108:qbO) (names:(List Str)) (v:(List tPred)) (t31:(List tPred)) (t32:Int) (out:(List tPred)) (t33:Int):Option (((List tPred))):=loop (fun (zz:(List tPred)×Int) => qld R108 names v t31 t32 zz.1 zz.2) (out,t33)
theorem qpT (R108:qbO) (hR108:qfW R108) (names:(List Str)) (v:(List tPred)) (p:tPred) (out:(List tPred)) (t31:(List tPred)) (t32:Int) (t33:Int) (m:(List tPred)) {y:((List tPred)×Int)⊕(((List tPred)))} (h:qld R108 names v t31 t32 out t33 = some y) :
    Sat Pg GE 0 (cA b134 247) (LQ (fun (zz:(List tPred)×Int) => qd0 names v p zz.1 t31 t32 zz.2 m) (fun _ => .exit 0) (qh9 names v p t31 t32 m) y) (qd0 names v p out t31 t32 t33 m):=by
  rcases ifs h with ⟨c8,h⟩ | ⟨c8,h⟩
  · obtain ⟨x9,bx9,h⟩:=bnd h
    obtain ⟨r10,br10,h⟩:=bnd h
    obtain ⟨l11,bl11,h⟩:=bnd h
    obtain rfl:=lf h
    have z:=sg 0 c8 <| sv (sT29.ia (k := .i64) bx9) <| sv (qaj x9) <| sx pz31 <| sx (qan x9) <| sv (qah x9 []) <| sca (hR108 _ _ _ _ br10) <| sv (sT29.mk' (v:=qaP) qaq ([r10]:List tPred) 1 (by kernel_rfl)) <| sv (sT29.ap bl11) <| eFx 0 .normal (qd0 names v p l11 t31 t32 (w64 (t33 + 1)) m) rfl (qb1 (aI (up (qad clS names)) (aI (up (qad qab v)) (aI (qbQ (qab p)) (aI (qdu rfl) (aI (up (qad qab l11)) (aI (up (qad qab t31)) (aI trivial (aI trivial trivial))))))))) (aI trivial (aI (aI trivial (aI trivial (aI trivial (aI (up (qad qab m)) trivial)))) trivial))
    exact qbK (A:=A134) mixed z (by kernel_rfl)
  · obtain rfl:=lf h
    have z:=sg 0 c8 <| eF (.exit 0) (qh9 names v p t31 t32 m out)
    exact qbE (A:=A134) mixed (by intro hx; cases hx) z (by kernel_rfl)
theorem qqL (R108:qbO) (hR108:qfW R108) (names:(List Str)) (v:(List tPred)) (p:tPred) (out:(List tPred)) (t31:(List tPred)) (t32:Int) (t33:Int) (m:(List tPred)) {x:((List tPred))} (h:qjw R108 names v t31 t32 out t33 = some x) :
    Sat Pg GE 0 (.loop (cA b134 247)) (EX (.exit 0) (qh9 names v p t31 t32 m x)) (qd0 names v p out t31 t32 t33 m) :=
  Sat.loop (S:=fun (zz:(List tPred)×Int) => qd0 names v p zz.1 t31 t32 zz.2 m) (ex:=(fun _ => .exit 0)) (s:=(out,t33)) h fun zz y hy => qpT R108 hR108 names v p zz.1 t31 t32 zz.2 m hy
noncomputable def qil (R108:qbO) (p:tPred) (names:(List Str)) (a:(List tPred)):Option (tPred) :=
  (qgM R108 names a p).bind fun o7 => match o7 with
  | (.inl o7) =>
    some (⟨o7.1,o7.2.1,o7.2.2.1,o7.2.2.2⟩:tPred)
  | (.inr o7) =>
    (qjw R108 names a p.Kids (p.Kids.length:Int) ([]:List tPred) 0).bind fun o12 =>
    (qxC p o12).bind fun r13 =>
    some r13
theorem qsm (R108:qbO) (hR108:qfW R108) {p:tPred} {names:(List Str)} {a:(List tPred)} {r:tPred} (h:qil R108 p names a = some r):CC Pg GE 134 [.agg (qaa p),sl cS names,sl qaa a] (.agg (qaa r)) []:=by
  obtain ⟨o7,bo7,h⟩:=bnd h
  rcases o7 with o7 | o7
  · obtain rfl:=lf h
    have z:=se (qat p) <| sx pz31 <| spa 0 <| spc (e := .ret) (s1:=qdj names a p ([]:List tPred) (.inl o7)) (qkn R108 hR108 names a p ([]:List tPred) bo7) <| en (aI (qa4 (⟨o7.1,o7.2.1,o7.2.2.1,o7.2.2.2⟩:tPred)) <| (qab (⟨o7.1,o7.2.1,o7.2.2.1,o7.2.2.2⟩:tPred)))
    exact C.evp (A:=A134) mixed Tryz.call134 Tryz.func134 (c:=b134) rfl (aI (qab p) (aI (qad clS names) (aI (qad qab a) trivial))) z (by kernel_rfl)
  · obtain ⟨o12,bo12,h⟩:=bnd h
    obtain ⟨r13,br13,h⟩:=bnd h
    obtain rfl:=lf h
    have z:=se (qat p) <| sx pz31 <| spa 0 <| spc (e := .normal) (s1:=qdj names a p ([]:List tPred) (.inr o7)) (qkn R108 hR108 names a p ([]:List tPred) bo7) <| sv (qas p) <| sv (qar p) <| svn (sT29.ln p.Kids) <| spc (qqL R108 hR108 names a p ([]:List tPred) p.Kids (p.Kids.length:Int) 0 ([]:List tPred) bo12) <| sv (qaj p) <| sca (qxg br13) <| sx (qan r13) <| en (aI (qa4 r13) <| (qab r13))
    exact C.evp (A:=A134) mixed Tryz.call134 Tryz.func134 (c:=b134) rfl (aI (qab p) (aI (qad clS names) (aI (qad qab a) trivial))) z (by kernel_rfl)
noncomputable def qkG:((tPred×(List Str)×(List tPred))→Option (tPred))→(tPred×(List Str)×(List tPred))→Option (tPred):=fun (rec:(tPred×(List Str)×(List tPred))→Option (tPred)) (x:tPred×(List Str)×(List tPred)) => qil (fun p names a => rec (p,names,a)) x.1 x.2.1 x.2.2
noncomputable def qnF (p:tPred) (names:(List Str)) (a:(List tPred)):Option (tPred):=fixE (qkG) (p,names,a)
theorem qtz {p:tPred} {names:(List Str)} {a:(List tPred)} {r:tPred} (h:qnF p names a = some r):CC Pg GE 134 [.agg (qaa p),sl cS names,sl qaa a] (.agg (qaa r)) [] :=
  qcs (F:=qkG) (M:=fun (x:tPred×(List Str)×(List tPred)) (r:tPred) => CC Pg GE 134 [.agg (qaa x.1),sl cS x.2.1,sl qaa x.2.2] (.agg (qaa r)) []) (fun rec hrec x r h => qsm _ (fun p names a r h => hrec (p,names,a) r h) h) h
end Go.Proofs.YtgldgpdhblndkaaGreatDoor
