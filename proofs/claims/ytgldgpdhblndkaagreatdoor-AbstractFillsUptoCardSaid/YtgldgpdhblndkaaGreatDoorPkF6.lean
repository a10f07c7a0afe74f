/- WHAT IS PROVED: parts of the proof, put together by a program (SatB SatC). Conditions: none. -/
import Derived.Test.YtgldgpdhblndkaaGreatDoorPkF5
noncomputable section
namespace Go.Proofs.YtgldgpdhblndkaaGreatDoor
open Go
structure GC where
 ρ:List Nat
 argsC:List PVal
 oa:List OA
 Bs:List PBox
 Hc:List PBox
 Bs':List PBox
 Hc':List PBox
 r:PVal
 rc:PVal
 ro:List (Nat×TypeId)
inductive It where
 | cg (c:GC)
 | ar (i:Nat) (e:TypeId) (n:Nat) (cs:List PVal)
 | fz (i:Nat) (es:List (List PVal)) (lv rk:List Nat)
 | g (j:Nat) (b:Bool)
 | k
 | s
 | v (p:PVal)
 | x (cs:List PVal)
 | w (i:Nat) (B:PBox)
 | c (r:PVal) (ro:List (Nat×TypeId))
 | dr (an:List Nat)
 | dx (an:List Nat) (X:List PBox) (br:List (Nat×Nat)) (rw:List Nat)
 | pa (n:Nat)
 | pc (st0:PSt) (e:Exit) (st1:PSt)
 | b (p:PVal) (L:List (Nat×TypeId))
 | y (vs:List PVal)
 | z (l:List PVal)
 | e (vs:List PVal)
def getK:List PVal→Nat→(PVal→Prop)→Prop
 | [],_,k => k .undef
 | p :: _,0,k => k p
 | _ :: l,n + 1,k => getK l n k
theorem qeZ:∀ (l:List PVal) (n:Nat) (k:PVal→Prop),getK l n k = k (l.getD n .undef)
 | [],_,_ => by simp [getK]
 | _ :: _,0,_ => by simp [getK]
 | _ :: l,n + 1,k => by simp only [getK,qeZ l n k,List.getD_cons_succ]
def setK {α:Type}:List α→Nat→α→(List α→Prop)→Prop
 | [],_,_,k => k []
 | _ :: l,0,v,k => k (v :: l)
 | x :: l,n + 1,v,k => setK l n v fun l' => k (x :: l')
theorem qa0 {α:Type}:∀ (l:List α) (n:Nat) (v:α) (k:List α→Prop),setK l n v k = k (l.set n v)
 | [],_,_,_ => by simp [setK]
 | _ :: _,0,_,_ => by simp [setK]
 | x :: l,n + 1,v,k => by simp only [setK,qa0 l n v,List.set_cons_succ]
def qa7 {α:Type}:List α→(List α→Prop)→Prop
 | [],k => k []
 | x :: l,k => qa7 l fun l' => k (x :: l')
def appK (l:List PBox) (r:List PBox) (k:List PBox→Prop):Prop:=qa7 (l ++ r) k
theorem qaA {α:Type}:∀ (l:List α) (k:List α→Prop),qa7 l k = k l
 | [],_ => rfl
 | x :: l,k => by simp only [qa7,qaA l]
def absK:Value→(PVal→Prop)→Prop
 | .int a n,k => k (.int a n)
 | .bool b,k => k (.bool b)
 | .string s,k => qa7 s.data.toList fun l => k (.str l)
 | v,k => k (absV v)
theorem qLa (v:Value) (k:PVal→Prop):absK v k = k (absV v):=by
 unfold absK
 split
 ·rfl
 ·rfl
 ·rw [qaA]; rfl
 ·rfl
def opK (GE:List (Nat×List PVal)) (tmps:List PVal) (x:Operand) (k:PVal→Prop):Prop :=
 match x with
 | .tmp t => getK tmps t k
 | .const v => absK v k
 | x => k (opv GE tmps x)
theorem qbu (GE:List (Nat×List PVal)) (tmps:List PVal) (x:Operand) (k:PVal→Prop):opK GE tmps x k = k (opv GE tmps x):=by
 cases x with
 | tmp t => exact qeZ _ _ _
 | const v => exact qLa _ _
 | global g => rfl
 | func f => rfl
def opsK (GE:List (Nat×List PVal)) (tmps:List PVal):List Operand→(List PVal→Prop)→Prop
 | [],k => k []
 | x :: l,k => opK GE tmps x fun p => opsK GE tmps l fun ps => k (p :: ps)
theorem qmy (GE:List (Nat×List PVal)) (tmps:List PVal):∀ (l:List Operand) (k:List PVal→Prop),opsK GE tmps l k = k (l.map (opv GE tmps))
 | [],_ => rfl
 | x :: l,k => by simp only [opsK,qbu,qmy GE tmps l,vax]
def qqP (GE:List (Nat×List PVal)) (tmps:List PVal):List (Nat×Operand)→(List (Nat×PVal)→Prop)→Prop
 | [],k => k []
 | x :: l,k => opK GE tmps x.2 fun p => qqP GE tmps l fun ps => k ((x.1,p) :: ps)
theorem qi5 (GE:List (Nat×List PVal)) (tmps:List PVal):∀ (l:List (Nat×Operand)) (k:List (Nat×PVal)→Prop),qqP GE tmps l k = k (l.map fun x => (x.1,opv GE tmps x.2))
 | [],_ => rfl
 | x :: l,k => by simp only [qqP,qbu,qi5 GE tmps l,vax]
def optK (GE:List (Nat×List PVal)) (tmps:List PVal):Option Operand→(Option PVal→Prop)→Prop
 | none,k => k none
 | some x,k => opK GE tmps x fun p => k (some p)
theorem qKT (GE:List (Nat×List PVal)) (tmps:List PVal) (o:Option Operand) (k:Option PVal→Prop):optK GE tmps o k = k (o.map (opv GE tmps)):=by
 cases o with
 | none => rfl
 | some x => simp only [optK,qbu,vad]
def tell (sc:List It) (f:PVal→Prop) (K:PVal→List It→Prop):Prop :=
 match sc with
 | .v p :: sc' => f p∧K p sc'
 | _ => False
def know (o:Option PVal) (K:PVal→Prop):Prop :=
 match o with
 | some p => K p
 | none => False
theorem qoe {o:Option PVal} {K:PVal→Prop} (h:know o K):∃ p,o = some p∧K p:=by
 unfold know at h
 split at h
 ·exact ⟨_,rfl,h⟩
 ·exact h.elim
theorem qid {sc:List It} {f:PVal→Prop} {K:PVal→List It→Prop} (h:tell sc f K):∃ p sc',f p∧K p sc':=by
 unfold tell at h
 split at h
 ·exact ⟨_,_,h⟩
 ·exact h.elim
def CC (P:Program) (GE:List (Nat×List PVal)) (g:FuncId) (args:List PVal) (r:PVal) (ro:List (Nat×TypeId)):Prop:=clL 0 args∧C P GE g args [] [] r ro []
def qCJ (P:Program) (t:TypeId) (es:List (PVal×PVal)) (k:PVal) (ok:Bool):Option PVal :=
 match P.underlying t with
 | some (.map kt e) => match P.underlying kt with
  | some kd =>
   if qjs kd k then
    match qwX k es 0,qzD P e with
    | some (some (_,v)),_ => some (if ok then .tuple [v,.bool true] else v)
    | some none,some z => some (if ok then .tuple [z,.bool false] else z)
    | _,_ => none
   else none
  | _ => none
 | _ => none
theorem qHx {P:Program} {t:TypeId} {es:List (PVal×PVal)} {k p:PVal} {ok:Bool} {H:List PBox} {i:Nat} (hB:H[i]? = some (.map es)) (h:qCJ P t es k ok = some p):qo3 P t (.mapr i) k ok H = some p:=by
 unfold qCJ at h
 unfold qo3
 split at h
 ·rename_i kt e hu
  split at h
  ·rename_i kd hk
   simp only [hu,hB,hk]
   exact h
  ·cases h
 ·cases h
def qGm (P:Program) (t:TypeId) (es:List (PVal×PVal)) (k v:PVal):Option (List (PVal×PVal)) :=
 match P.underlying t with
 | some (.map kt _) => match P.underlying kt with
  | some kd =>
   if qjs kd k then
    match qwX k es 0 with
    | some (some (j,_)) => some (es.set j (k,v))
    | some none => some (es ++ [(k,v)])
    | none => none
   else none
  | _ => none
 | _ => none
theorem qEU {P:Program} {t:TypeId} {es es':List (PVal×PVal)} {k v:PVal} {H:List PBox} {i:Nat} (hB:H[i]? = some (.map es)) (h:qGm P t es k v = some es'):qdW P t (.mapr i) k v H = some (H.set i (.map es')):=by
 unfold qGm at h
 unfold qdW
 split at h
 ·rename_i kt e hu
  split at h
  ·rename_i kd hk
   simp only [hu,hB,hk]
   split at h
   ·rename_i hkk
    rw [vao hkk]
    split at h
    ·rename_i hf; cases h; simp [hf]
    ·rename_i hf; cases h; simp [hf]
    ·cases h
   ·cases h
  ·cases h
 ·cases h
def qkB:List PBox→Nat→(PBox→Prop)→Prop
 | [],_,_ => False
 | B :: _,0,k => k B
 | _ :: l,n + 1,k => qkB l n k
theorem qcs:∀ {l:List PBox} {n:Nat} {k:PBox→Prop},qkB l n k→∃ B,l[n]? = some B∧k B
 | [],_,_,h => h.elim
 | B :: _,0,_,h => ⟨B,rfl,h⟩
 | _ :: l,n + 1,k,h => by simp only [qkB] at h; obtain ⟨B,h1,h2⟩:=qcs h; exact ⟨B,by simpa using h1,h2⟩
def qIp (op:BinOp) (x:PVal):Bool:=match op,x with
 | .quo,_ => true
 | .rem,_ => true
 | .add,.str _ => true
 | _,.agg _ => true
 | _,_ => false
def qJh (P:Program) (GE:List (Nat×List PVal)) (op:Op) (tmps:List PVal) (H:List PBox) (sc:List It) (K:PVal→List PBox→List It→Prop):Prop :=
 match op with
 | .move x => opK GE tmps x fun p => K p H sc
 | .assign x => opK GE tmps x fun p => K p H sc
 | .pick c x y => opK GE tmps c fun pc => match pc with
  | .bool true => opK GE tmps x fun p => K p H sc
  | .bool false => opK GE tmps y fun p => K p H sc
  | _ => False
 | .binOp op T x y _ => opK GE tmps x fun vx => opK GE tmps y fun vy => match qIp op vx with
  | true => tell sc (fun p => pbin P op T vx vy = some p) fun p sc' => K p H sc'
  | false => know (pbin P op T vx vy) fun p => K p H sc
 | .unOp op _ x => opK GE tmps x fun vx => know (pun op vx) fun p => K p H sc
 | .convert s d x => opK GE tmps x fun vx => tell sc (fun p => qKe P s d vx = some p) fun p sc' => K p H sc'
 | .extract t i => opK GE tmps t fun vt => know (qmT vt i) fun p => K p H sc
 | .nilCheck x => opK GE tmps x fun vx => match vx with
  | .eptr cs => K (.eptr cs) H sc
  | .bptr i off => K (.bptr i off) H sc
  | .func (.func f) first cap => K (.func (.func f) first cap) H sc
  | _ => False
 | .makeFunc fn first cap => opsK GE tmps first.toList fun f => opsK GE tmps cap.toList fun c => K (.func fn f c) H sc
 | .load t x => opK GE tmps x fun vx => match vx with
  | .eptr cs => tell sc (fun p => qbv P t cs = some p) fun p sc' => K p H sc'
  | .bptr i off => qkB H i fun B => match B with
   | .cells cs _ => match sc with
    | .s :: sc' => know (qbv P t (cs.drop off)) fun p => K p H sc'
    | .v p :: sc' => qbv P t (cs.drop off) = some p∧K p H sc'
    | _ => False
   | _ => False
  | _ => False
 | .store t x y => opK GE tmps x fun vx => opK GE tmps y fun vy => match vx,sc with
  | .bptr i off,.s :: sc' => match qaY vy with
   | some vs => qkB H i fun B => match B with
    | .cells cs own => match decide (vs.length = P.cellsOf t) && (P.info? t).isSome && decide (off + vs.length ≤ cs.length) && vs.all PVal.one with
     | true => qa7 (cs.take off ++ vs ++ cs.drop (off + vs.length)) fun cs' => setK H i (.cells cs' (own.filter fun y => y.1 < off || off + vs.length ≤ y.1)) fun H' => K (.val undef) H' sc'
     | false => False
    | _ => False
   | none => False
  | .bptr i off,.x vs :: sc' => qaY vy = some vs∧(qkB H i fun B => match B with
    | .cells cs own => match decide (vs.length = P.cellsOf t) && (P.info? t).isSome && decide (off + vs.length ≤ cs.length) && vs.all PVal.one with
     | true => qa7 (cs.take off ++ vs ++ cs.drop (off + vs.length)) fun cs' => setK H i (.cells cs' (own.filter fun y => y.1 < off || off + vs.length ≤ y.1)) fun H' => K (.val undef) H' sc'
     | false => False
    | _ => False)
  | .bptr i off,.w _ (.cells cs' own') :: sc' => qkB H i fun B => (qcT P t (.bptr 0 off) vy [B] = some [.cells cs' own'])∧setK H i (.cells cs' own') fun H' => K (.val undef) H' sc'
  | _,_ => False
 | .fieldAddr s x f => opK GE tmps x fun vx => match vx with
  | .bptr i off => know (qa1 P s (.bptr i off) f) fun p => K p H sc
  | vx => tell sc (fun p => qa1 P s vx f = some p) fun p sc' => K p H sc'
 | .field t x f => opK GE tmps x fun vx => tell sc (fun p => qFl P t vx f = some p) fun p sc' => K p H sc'
 | .indexAddr t x i => opK GE tmps x fun vx => opK GE tmps i fun vi => tell sc (fun p => qgH P t vx vi = some p) fun p sc' => K p H sc'
 | .index t x i => opK GE tmps x fun vx => opK GE tmps i fun vi => tell sc (fun p => qzM P t vx vi = some p) fun p sc' => K p H sc'
 | .lookup t m k ok => opK GE tmps m fun vm => opK GE tmps k fun vk => match vm with
  | .mapr i => qkB H i fun B => match B with
   | .map es => tell sc (fun p => qCJ P t es vk ok = some p) fun p sc' => K p H sc'
   | _ => False
  | _ => False
 | .mapUpdate t m k x => opK GE tmps m fun vm => opK GE tmps k fun vk => opK GE tmps x fun vx => match vm,sc with
  | .mapr i,.w _ (.map es') :: sc' => qkB H i fun B => match B with
   | .map es => qGm P t es vk vx = some es'∧setK H i (.map es') fun H' => K (.val undef) H' sc'
   | _ => False
  | _,_ => False
 | .slice t x lo hi none => opK GE tmps x fun vx => optK GE tmps lo fun vl => optK GE tmps hi fun vh => tell sc (fun p => qvI P t vx vl vh none = some p) fun p sc' => K p H sc'
 | .build t parts => qqP GE tmps parts.toList fun ps => tell sc (fun p => qbO P t ps = some p) fun p sc' => K p H sc'
 | .buildSlice t len parts => qqP GE tmps parts.toList fun ps => tell sc (fun p => qda P t len ps = some p) fun p sc' => K p H sc'
 | .call { callee := .builtin .len,args:=⟨[x]⟩,argTypes:=⟨[t]⟩ } => opK GE tmps x fun vx => match vx with
  | .mapr i => qkB H i fun B => match B with
   | .map es => tell sc (fun p => p = .int .i64 es.length∧(P.underlying t).any (fun d => match d with | .map _ _ => true | _ => false) = true) fun p sc' => K p H sc'
   | _ => False
  | vx => tell sc (fun p => ∀ H,plen P t vx H = some p) fun p sc' => K p H sc'
 | .call { callee := .builtin .max,args:=⟨x :: r⟩,.. } => opK GE tmps x fun vx => opsK GE tmps r fun vr => know (qBT qJ1 vx vr) fun p => K p H sc
 | .call { callee := .builtin .min,args:=⟨x :: r⟩,.. } => opK GE tmps x fun vx => opsK GE tmps r fun vr => know (qBT qJT vx vr) fun p => K p H sc
 | _ => False
section
variable {P:Program} {GE:List (Nat×List PVal)}
theorem qIJ {t:TypeId} {off i:Nat} {y:PVal} {H:List PBox} {B:PBox} {cs':List PVal} {own':List (Nat×TypeId)} (hB:H[i]? = some B) (h:qcT P t (.bptr 0 off) y [B] = some [.cells cs' own']) :
  qcT P t (.bptr i off) y H = some (H.set i (.cells cs' own')):=by
 unfold qcT at h ⊢
 split at h
 ·rename_i i' off' vs h1 h2
  cases h1
  simp only [h2]
  change (match (some B:Option PBox) with | some (.cells cs own) => _ | _ => none) = _ at h
  rw [hB]
  split at h
  ·rename_i hb
   cases hb
   simp only
   split at h
   ·rename_i hc
    rw [vao hc]
    simp only [List.set_cons_zero,vau,vbD,vcM] at h
    rw [h]
   ·cases h
  ·cases h
 ·cases h
theorem qJ5 (t:TypeId) (id:Nat) (v:Operand→PVal) (x:Operand) (H:List PBox):pev P (.load t x) id v H = (qkN P t (v x) H).map fun p => (p,H):=rfl
theorem qya {op:Op} {id:Nat} {tmps:List PVal} {H:List PBox} {sc:List It} {K:PVal→List PBox→List It→Prop} (h:qJh P GE op tmps H sc K) :
  ∃ p H' sc',pev P op id (opv GE tmps) H = some (p,H')∧K p H' sc'∧H'.length = H.length:=by
 unfold qJh at h
 split at h
 case h_1 => rw [qbu] at h; exact ⟨_,_,_,rfl,h,rfl⟩
 case h_2 => rw [qbu] at h; exact ⟨_,_,_,rfl,h,rfl⟩
 case h_3 c x y =>
  rw [qbu] at h
  split at h
  ·rename_i hc; rw [qbu] at h; exact ⟨_,_,_,by simp only [pev,hc],h,rfl⟩
  ·rename_i hc; rw [qbu] at h; exact ⟨_,_,_,by simp only [pev,hc],h,rfl⟩
  ·exact h.elim
 case h_4 =>
  simp only [qbu] at h
  split at h
  ·obtain ⟨p,sc',h1,h2⟩:=qid h; exact ⟨p,_,sc',by simp only [pev,h1,vad],h2,rfl⟩
  ·obtain ⟨p,h1,h2⟩:=qoe h; exact ⟨p,_,_,by simp only [pev,h1,vad],h2,rfl⟩
 case h_5 => simp only [qbu] at h; obtain ⟨p,h1,h2⟩:=qoe h; exact ⟨p,_,_,by simp only [pev,h1,vad],h2,rfl⟩
 case h_6 => simp only [qbu] at h; obtain ⟨p,sc',h1,h2⟩:=qid h; exact ⟨p,_,sc',by simp only [pev,h1,vad],h2,rfl⟩
 case h_7 => simp only [qbu] at h; obtain ⟨p,h1,h2⟩:=qoe h; exact ⟨p,_,_,by simp only [pev,h1,vad],h2,rfl⟩
 case h_8 =>
  simp only [qbu] at h
  split at h
  ·rename_i hv; exact ⟨_,_,_,by simp only [pev,hv],h,rfl⟩
  ·rename_i hv; exact ⟨_,_,_,by simp only [pev,hv],h,rfl⟩
  ·rename_i hv; exact ⟨_,_,_,by simp only [pev,hv],h,rfl⟩
  ·exact h.elim
 case h_9 => simp only [qmy] at h; exact ⟨_,_,_,rfl,h,rfl⟩
 case h_10 t x =>
  simp only [qbu] at h
  rw [qJ5]
  split at h
  ·rename_i cs hv
   obtain ⟨p,sc',h1,h2⟩:=qid h
   exact ⟨p,_,sc',by simp only [hv,qkN,h1,vad],h2,rfl⟩
  ·rename_i i off hv
   obtain ⟨B,hB,h⟩:=qcs h
   split at h
   ·rename_i cs own
    split at h
    ·obtain ⟨p,h1,h2⟩:=qoe h
     exact ⟨p,_,_,by simp only [hv,qkN,hB,h1,vad],h2,rfl⟩
    ·exact ⟨_,_,_,by simp only [hv,qkN,hB,h.1,vad],h.2,rfl⟩
    ·exact h.elim
   ·exact h.elim
  ·exact h.elim
 case h_11 t x y =>
  simp only [qbu] at h
  split at h
  ·rename_i i off sc' hv
   split at h
   ·rename_i vs hvs
    obtain ⟨B,hB,h⟩:=qcs h
    split at h
    ·rename_i cs own
     split at h
     ·rename_i hc
      simp only [qaA,qa0] at h
      simp only [vae,vah] at hc
      exact ⟨_,_,_,by simp only [pev,qcT,hv,hvs,hB]; rw [vao ⟨hc.1.1.1,hc.1.1.2,hc.1.2,hc.2⟩]; rfl,h,by simp⟩
     ·exact h.elim
    ·exact h.elim
   ·exact h.elim
  ·rename_i i off vs sc' hv
   obtain ⟨hvs,h⟩:=h
   obtain ⟨B,hB,h⟩:=qcs h
   split at h
   ·rename_i cs own
    split at h
    ·rename_i hc
     simp only [qaA,qa0] at h
     simp only [vae,vah] at hc
     exact ⟨_,_,_,by simp only [pev,qcT,hv,hvs,hB]; rw [vao ⟨hc.1.1.1,hc.1.1.2,hc.1.2,hc.2⟩]; rfl,h,by simp⟩
    ·exact h.elim
   ·exact h.elim
  ·rename_i i off j cs' own' sc' hv
   obtain ⟨B,hB,h1,h2⟩:=qcs h
   rw [qa0] at h2
   exact ⟨_,_,_,by simp only [pev,hv,qIJ hB h1]; rfl,h2,by simp⟩
  ·exact h.elim
 case h_12 =>
  simp only [qbu] at h
  split at h
  ·rename_i hv
   obtain ⟨p,h1,h2⟩:=qoe h; exact ⟨p,_,_,by simp only [pev,hv,h1,vad],h2,rfl⟩
  ·obtain ⟨p,sc',h1,h2⟩:=qid h; exact ⟨p,_,sc',by simp only [pev,h1,vad],h2,rfl⟩
 case h_13 => simp only [qbu] at h; obtain ⟨p,sc',h1,h2⟩:=qid h; exact ⟨p,_,sc',by simp only [pev,h1,vad],h2,rfl⟩
 case h_14 => simp only [qbu] at h; obtain ⟨p,sc',h1,h2⟩:=qid h; exact ⟨p,_,sc',by simp only [pev,h1,vad],h2,rfl⟩
 case h_15 => simp only [qbu] at h; obtain ⟨p,sc',h1,h2⟩:=qid h; exact ⟨p,_,sc',by simp only [pev,h1,vad],h2,rfl⟩
 case h_16 t m k ok =>
  simp only [qbu] at h
  split at h
  ·rename_i i hv
   obtain ⟨B,hB,h⟩:=qcs h
   split at h
   ·rename_i es
    obtain ⟨p,sc',h1,h2⟩:=qid h
    exact ⟨p,_,sc',by simp only [pev,hv,qHx hB h1,vad],h2,rfl⟩
   ·exact h.elim
  ·exact h.elim
 case h_17 t m k x =>
  simp only [qbu] at h
  split at h
  ·rename_i i j es' sc' hv
   obtain ⟨B,hB,h⟩:=qcs h
   split at h
   ·rename_i es
    obtain ⟨h1,h2⟩:=h
    rw [qa0] at h2
    exact ⟨_,_,_,by simp only [pev,hv,qEU hB h1]; rfl,h2,by simp⟩
   ·exact h.elim
  ·exact h.elim
 case h_18 => simp only [qbu,qKT] at h; obtain ⟨p,sc',h1,h2⟩:=qid h; exact ⟨p,_,sc',by simp only [pev,h1,vad],h2,rfl⟩
 case h_19 => simp only [qi5] at h; obtain ⟨p,sc',h1,h2⟩:=qid h; exact ⟨p,_,sc',by simp only [pev,h1,vad],h2,rfl⟩
 case h_20 => simp only [qi5] at h; obtain ⟨p,sc',h1,h2⟩:=qid h; exact ⟨p,_,sc',by simp only [pev,h1,vad],h2,rfl⟩
 case h_21 x t =>
  simp only [qbu] at h
  split at h
  ·rename_i i hv
   obtain ⟨B,hB,h⟩:=qcs h
   split at h
   ·rename_i es
    obtain ⟨p,sc',⟨rfl,h1⟩,h2⟩:=qid h
    refine ⟨_,_,sc',?_,h2,rfl⟩
    simp only [pev,hv,plen]
    cases hu:P.underlying t with
    | none => rw [hu] at h1; cases h1
    | some d =>
     rw [hu] at h1
     cases d <;> simp at h1
     simp only [hB,vad]
   ·exact h.elim
  ·obtain ⟨p,sc',h1,h2⟩:=qid h; exact ⟨p,_,sc',by simp only [pev,h1 H,vad],h2,rfl⟩
 case h_22 => simp only [qbu,qmy] at h; obtain ⟨p,h1,h2⟩:=qoe h; exact ⟨p,_,_,by simp only [pev,h1,vad],h2,rfl⟩
 case h_23 => simp only [qbu,qmy] at h; obtain ⟨p,h1,h2⟩:=qoe h; exact ⟨p,_,_,by simp only [pev,h1,vad],h2,rfl⟩
 case h_24 => exact h.elim
end
def putK (st:PSt) (dst:Option Tmp) (p:PVal) (ro:List (Nat×TypeId)) (H:List PBox) (K:PSt→Prop):Prop :=
 match dst with
 | some d => setK st.tmps d p fun tm => qa7 ((ro.map fun x => ((d,x.1),x.2)) ++ qbD d st.own) fun ow => K ⟨tm,H,ow⟩
 | none => K ⟨st.tmps,H,st.own⟩
theorem qnt (st:PSt) (dst:Option Tmp) (p:PVal) (ro:List (Nat×TypeId)) (H:List PBox) (K:PSt→Prop):putK st dst p ro H K = K (putv st dst p ro H):=by
 cases dst with
 | none => rfl
 | some d => simp only [putK,qa0,qaA,putv]
def qIO (P:Program) (GE:List (Nat×List PVal)) (f:Operand) (args:List Operand) (tmps:List PVal) (sc:List It) (K:PVal→List (Nat×TypeId)→List It→Prop):Prop :=
 opK GE tmps f fun vf => match vf with
  | .func (.func g) first cap => opsK GE tmps args fun as => match sc with
   | .c r ro :: sc' => CC P GE g (first ++ as ++ cap) r ro∧K r ro sc'
   | _ => False
  | _ => False
def qo9 (P:Program) (GE:List (Nat×List PVal)) (o:Oper) (id:Nat) (sc:List It) (st:PSt) (K:List It→PSt→Prop):Prop :=
 match qkp o st.tmps.length with
 | false => False
 | true => match o.op with
  | .call { callee := .value f,args,.. } => qIO P GE f args.toList st.tmps sc fun r ro sc' => putK st o.dst r ro st.boxes fun st' => K sc' st'
  | .alloc t => match sc with
   | .x zs :: sc' => qhU P t = some zs∧qa7 (qHq P t) fun ow => setK st.boxes id (.cells zs ow) fun H => putK st o.dst (.bptr id 0) [] H fun st' => K sc' st'
   | _ => False
  | .box _ x => opK GE st.tmps x fun vx => match sc with
   | .x cs :: sc' => qaY vx = some cs∧setK st.boxes id (.cells cs []) fun H => putK st o.dst (.bptr id 0) [] H fun st' => K sc' st'
   | _ => False
  | .makeMap _ none => setK st.boxes id (.map []) fun H => putK st o.dst (.mapr id) [] H fun st' => K sc st'
  | op => qJh P GE op st.tmps st.boxes sc fun p H sc' => putK st o.dst p [] H fun st' => K sc' st'
def inB (n d:Nat) (K:Prop):Prop:=match decide (d < n) with
 | true => K
 | false => False
theorem qkU {n d:Nat} {K:Prop} (h:inB n d K):d < n∧K:=by
 unfold inB at h
 split at h
 ·rename_i hd; exact ⟨by simpa using hd,h⟩
 ·exact h.elim
def qzP (P:Program) (st:PSt) (T e:TypeId) (t:Nat) (dst:Option Tmp) (vx vt:PVal) (sc:List It) (K:List It→PSt→Prop):Prop :=
 match vx with
 | .bptr i off => match qcT P T (.bptr i off) vt st.boxes with
  | some H => qkB H i fun B => match B with
   | .cells cs own => match vt.one with
    | true => qa7 cs fun cs' => setK H i (.cells cs' ((off,e) :: own)) fun H' => putK { st with own:=st.own.filter fun x => x.1 != (t,0) } dst (.val undef) [] H' fun st' => K sc st'
    | false => False
   | _ => False
  | none => False
 | _ => False
def qBM (P:Program) (GE:List (Nat×List PVal)) (A:List Nat) (o:Oper) (id:Nat) (sc:List It) (st:PSt) (K:List It→PSt→Prop):Prop :=
 match o.op,o.dst with
 | .assign (.tmp t),some d => inB st.tmps.length d (getK st.tmps t fun p => setK st.tmps d p fun tm => qa7 (qf6 d (fun x => if x.1 = t then (d,x.2) else x) st.own) fun ow => K sc ⟨tm,st.boxes,ow⟩)
 | .move (.tmp t),some d => match decide (d ∈ A) with
  | true => inB st.tmps.length d (getK st.tmps t fun p => setK st.tmps d p fun tm => qa7 (qf6 d (fun x => if x.1 = t then (d,x.2) else x) st.own) fun ow => K sc ⟨tm,st.boxes,ow⟩)
  | false => qo9 P GE o id sc st K
 | .assign (.const v),some d => match qmB P o.type v with
  | some e => inB st.tmps.length d (setK st.tmps d (.slice []) fun tm => qa7 (((d,0),e) :: qbD d st.own) fun ow => K sc ⟨tm,st.boxes,ow⟩)
  | none => qo9 P GE o id sc st K
 | .move (.const v),some d => match qmB P o.type v with
  | some e => inB st.tmps.length d (setK st.tmps d (.slice []) fun tm => qa7 (((d,0),e) :: qbD d st.own) fun ow => K sc ⟨tm,st.boxes,ow⟩)
  | none => qo9 P GE o id sc st K
 | .extract (.tmp t) i,some d => inB st.tmps.length d (getK st.tmps t fun vt => know (qmT vt i) fun p => setK st.tmps d p fun tm => qa7 (qf6 d (fun x => if x = (t,i) then (d,0) else x) st.own) fun ow => K sc ⟨tm,st.boxes,ow⟩)
 | .buildSlice T len parts,some d => inB st.tmps.length d (qqP GE st.tmps parts.toList fun ps => match sc,P.underlying T with
  | .v p :: sc',some (.slice e) => qda P T len ps = some p∧setK st.tmps d p fun tm => qa7 (((d,0),e) :: qbD d st.own) fun ow => K sc' ⟨tm,st.boxes,ow⟩
  | _,_ => False)
 | .call { callee := .builtin .append,args:=⟨[.tmp t,y]⟩,argTypes:=⟨[T,T']⟩ },some d => inB st.tmps.length d (getK st.tmps t fun ve => opK GE st.tmps y fun vn => match ve,vn,sc,P.underlying T with
  | .slice es,.slice ns,.v p :: sc',some (.slice e) => match decide (T = T') && decide (((t,0),e) ∈ st.own) with
   | true => qiD P T es ns = some p∧setK st.tmps d p fun tm => qa7 (((d,0),e) :: qbD d (st.own.filter fun x => x.1 != (t,0))) fun ow => K sc' ⟨tm,st.boxes,ow⟩
   | false => False
  | _,_,_,_ => False)
 | .load T x,some d => match decide (d ∈ A) with
  | true => inB st.tmps.length d (opK GE st.tmps x fun vx => match vx,P.underlying T with
   | .bptr i off,some (.slice e) => qkB st.boxes i fun B => match B with
    | .cells cs own => match decide ((off,e) ∈ own) && decide (off < cs.length) with
     | true => getK cs off fun p => setK st.tmps d p fun tm => qa7 (own.filter fun x => x.1 != off) fun own' => setK st.boxes i (.cells cs own') fun H => qa7 (((d,0),e) :: qbD d st.own) fun ow => K sc ⟨tm,H,ow⟩
     | false => False
    | _ => False
   | _,_ => False)
  | false => qo9 P GE o id sc st K
 | .store T x (.tmp t),_ => match st.own.find? (fun y => y.1 == (t,0)) with
  | some (_,e) => opK GE st.tmps x fun vx => getK st.tmps t fun vt => qzP P st T e t o.dst vx vt sc K
  | none => qo9 P GE o id sc st K
 | _,_ => qo9 P GE o id sc st K
def isB:Value→Bool
 | .bool _ => true
 | _ => false
def qBd (ops:Array Oper) (j:Nat) (want:Bool) (pos:Nat) (sc:List It) (st:PSt) (go:Bool→List It→PSt→Prop):Prop :=
 match (ops[j]?).bind (·.dst) with
 | none => False
 | some t => getK st.tmps t fun p => match p with
  | .bool x => match sc with
   | .g pos' b :: sc' => match pos' == pos with
    | true => x = b∧setK st.tmps t (.bool b) fun tm => go (b == want) sc' ⟨tm,st.boxes,st.own⟩
    | false => go (x == want) sc st
   | _ => go (x == want) sc st
  | .val v => match isB v with
   | true => False
   | false => go false sc st
  | _ => False
def qoT:List Nat→Bool
 | [] => true
 | x :: r => !(r.contains x) && qoT r
theorem qiX:∀ {l:List Nat},qoT l = true→l.Nodup
 | [],_ => .nil
 | x :: r,h => by
  simp only [qoT,vae,va3,vcG,vbl] at h
  exact vbS.2 ⟨h.1,qiX h.2⟩
def qFX (t:Nat) (own:List ((Nat×Nat)×TypeId)):List (Nat×TypeId):=own.filterMap fun x => if x.1.1 == t then some (x.1.2,x.2) else none
theorem qxj {t:Nat} {own:List ((Nat×Nat)×TypeId)} {y:Nat×TypeId} (h:y ∈ qFX t own):((t,y.1),y.2) ∈ own:=by
 unfold qFX at h
 obtain ⟨⟨⟨t',k⟩,e⟩,hx,he⟩:=vbR.1 h
 split at he
 ·rename_i ht
  simp only [va1] at ht
  cases he; subst ht; exact hx
 ·cases he
def qKc (off n:Nat) (own:List (Nat×TypeId)):List (Nat×TypeId):=own.filterMap fun x => if decide (off ≤ x.1) && decide (x.1 < off + n) then some (x.1 - off,x.2) else none
theorem qsY {off n:Nat} {own:List (Nat×TypeId)} {y:Nat×TypeId} (h:y ∈ qKc off n own):(off + y.1,y.2) ∈ own∧y.1 < n:=by
 unfold qKc at h
 obtain ⟨⟨k,e⟩,hx,he⟩:=vbR.1 h
 split at he
 ·rename_i ht
  simp only [vae,vah] at ht
  cases he
  have:off + (k - off) = k:=by omega
  exact ⟨by rw [this]; exact hx,by simp only; omega⟩
 ·cases he
def RixL (ρ:List Nat):List PVal→List PVal→Prop
 | [],[] => True
 | p :: ps,q :: qs => Rix ρ p q∧RixL ρ ps qs
 | _,_ => False
theorem RixL.len {ρ:List Nat}:∀ {l r:List PVal},RixL ρ l r→l.length = r.length
 | [],[],_ => rfl
 | [],_ :: _,h => h.elim
 | _ :: _,[],h => h.elim
 | _ :: _,_ :: _,h => by simp [RixL.len h.2]
theorem RixL.get {ρ:List Nat}:∀ {l r:List PVal},RixL ρ l r→∀ (i:Nat) p q,l[i]? = some p→r[i]? = some q→Rix ρ p q
 | [],[],_,i,p,q,hp,_ => by simp at hp
 | [],_ :: _,h,_,_,_,_,_ => h.elim
 | _ :: _,[],h,_,_,_,_,_ => h.elim
 | _ :: _,_ :: _,h,0,p,q,hp,hq => by simp at hp hq; subst hp; subst hq; exact h.1
 | _ :: _,_ :: _,h,i + 1,p,q,hp,hq => RixL.get h.2 i p q (by simpa using hp) (by simpa using hq)
def RixB (ρ:List Nat):PBox→PBox→Prop
 | .cells cs own,.cells cs' own' => own = own'∧RixL ρ cs cs'
 | .map es,.map es' => es = es'∧∀ x ∈ es,x.1.cl 0∧x.2.cl 0
 | _,_ => False
theorem RixB.to {ρ:List Nat} {B B':PBox} (h:RixB ρ B B'):qib ρ B B':=by
 cases B <;> cases B' <;> simp only [RixB] at h
 ·exact ⟨h.1,h.2.len,h.2.get⟩
 ·obtain ⟨rfl,h⟩:=h
  refine ⟨rfl,fun i k u k' u' h1 h2 => ?_⟩
  rw [h1] at h2; cases h2
  obtain ⟨q1,q2⟩:=h _ (vay h1)
  exact ⟨.refl _ q1,.refl _ q2⟩
def qr7 (ρ:List Nat) (H:List PBox):List Nat→List PBox→List PBox→Prop
 | [],[],[] => True
 | j :: js,B :: Bs,Bc :: Hc => (qkB H j fun B0 => fgB1 B0 B = B∧RixB ρ B Bc)∧qr7 ρ H js Bs Hc
 | _,_,_ => False
def qBa (ρ:List Nat):List PBox→List PBox→Prop
 | [],[] => True
 | B :: Bs,Bc :: Hc => RixB ρ B Bc∧qBa ρ Bs Hc
 | _,_ => False
def qxd (H:List PBox):List Nat→List PBox→List PBox
 | j :: js,B :: Bs => qxd (H.set j B) js Bs
 | _,_ => H
def qFh (H:List PBox):List Nat→List PBox→(List PBox→Prop)→Prop
 | j :: js,B :: Bs,K => setK H j B fun H' => qFh H' js Bs K
 | _,_,K => K H
theorem qs3:∀ (H:List PBox) (js:List Nat) (Bs:List PBox) (K:List PBox→Prop),qFh H js Bs K = K (qxd H js Bs)
 | H,[],_,K => by cases ‹List PBox› <;> rfl
 | H,_ :: _,[],K => rfl
 | H,j :: js,B :: Bs,K => by simp only [qFh,qa0,qs3,qxd]
theorem qxm:∀ (H:List PBox) (js:List Nat) (Bs:List PBox),(qxd H js Bs).length = H.length
 | H,[],_ => by cases ‹List PBox› <;> rfl
 | H,_ :: _,[] => rfl
 | H,j :: js,B :: Bs => by simp only [qxd,qxm,vbw]
theorem qpg:∀ (H:List PBox) (js:List Nat) (Bs:List PBox) {j:Nat},j ∉ js→(qxd H js Bs)[j]? = H[j]?
 | H,[],Bs,_,_ => by cases Bs <;> rfl
 | H,_ :: _,[],_,_ => rfl
 | H,k :: js,B :: Bs,j,h => by
  simp only [vaC,not_or] at h
  simp only [qxd]
  rw [qpg _ js Bs h.2,vaq (Ne.symm h.1)]
theorem qwg:∀ (H:List PBox) (js:List Nat) (Bs:List PBox),js.Nodup→js.length = Bs.length→(∀ j ∈ js,j < H.length)→∀ (i j:Nat) B,js[i]? = some j→Bs[i]? = some B→(qxd H js Bs)[j]? = some B
 | H,[],Bs,_,_,_,i,j,B,hj,_ => by simp at hj
 | H,_ :: _,[],_,hl,_,_,_,_,_,_ => by simp at hl
 | H,k :: js,B0 :: Bs,hn,hl,hlt,i,j,B,hj,hB => by
  obtain ⟨hn1,hn2⟩:=vbS.1 hn
  simp only [qxd]
  cases i with
  | zero =>
   simp at hj hB; subst hj; subst hB
   rw [qpg _ js Bs hn1,vai (hlt _ (by simp))]
  | succ i => exact qwg _ js Bs hn2 (by simpa using hl) (fun x hx => by rw [vbw]; exact hlt x (by simp [hx])) i j B (by simpa using hj) (by simpa using hB)
theorem qzv {ρ:List Nat} {H:List PBox}:∀ {js:List Nat} {Bs Hc:List PBox},qr7 ρ H js Bs Hc→js.length = Bs.length∧Hc.length = js.length∧(∀ j ∈ js,j < H.length) ∧
  ∀ (i j:Nat) B Bc,js[i]? = some j→Bs[i]? = some B→Hc[i]? = some Bc→(∃ B0,H[j]? = some B0∧fgB1 B0 B = B)∧qib ρ B Bc
 | [],[],[],_ => ⟨rfl,rfl,by simp,by simp⟩
 | [],_ :: _,_,h => by simp [qr7] at h
 | [],[],_ :: _,h => by simp [qr7] at h
 | _ :: _,[],_,h => by simp [qr7] at h
 | _ :: _,_ :: _,[],h => by simp [qr7] at h
 | k :: js,B :: Bs,Bc :: Hc,h => by
  obtain ⟨h1,h2⟩:=h
  obtain ⟨B0,hB0,h3,h4⟩:=qcs h1
  obtain ⟨k1,k2,k3,k4⟩:=qzv h2
  refine ⟨by simp [k1],by simp [k2],fun j hj => ?_,fun i j b bc hj hb hbc => ?_⟩
  ·rcases vaC.1 hj with rfl | hj
   ·exact qag hB0
   ·exact k3 j hj
  ·cases i with
   | zero => simp at hj hb hbc; subst hj; subst hb; subst hbc; exact ⟨⟨B0,hB0,h3⟩,h4.to⟩
   | succ i => exact k4 i j b bc (by simpa using hj) (by simpa using hb) (by simpa using hbc)
theorem qwF {ρ:List Nat}:∀ {Bs Hc:List PBox},qBa ρ Bs Hc→Bs.length = Hc.length∧∀ (i:Nat) B Bc,Bs[i]? = some B→Hc[i]? = some Bc→qib ρ B Bc
 | [],[],_ => ⟨rfl,by simp⟩
 | [],_ :: _,h => h.elim
 | _ :: _,[],h => h.elim
 | B :: Bs,Bc :: Hc,h => by
  obtain ⟨k1,k2⟩:=qwF h.2
  refine ⟨by simp [k1],fun i b bc hb hbc => ?_⟩
  cases i with
  | zero => simp at hb hbc; subst hb; subst hbc; exact h.1.to
  | succ i => exact k2 i b bc (by simpa using hb) (by simpa using hbc)
def qMr (t:Nat):Option Operand→Bool
 | some (.tmp u) => u == t
 | _ => false
def qKM:Option Operand→Bool
 | some (.const v) => qgz v
 | _ => false
def oaOk (n:Nat) (args:List Operand) (own:List ((Nat×Nat)×TypeId)) (oa:List OA):Bool :=
 oa.all (fun x => decide (n ≤ x.i) && ((qKM args[x.i - n]? && x.k == 0) || (decide (((x.t,x.k),x.e) ∈ own) && qMr x.t args[x.i - n]?))) && oa.all fun x => oa.all fun y => !(x.t == y.t && x.k == y.k) || x.i == y.i
def qIT:PBox→Bool
 | .dead => false
 | _ => true
def qov (P:Program) (GE:List (Nat×List PVal)) (f:Operand) (args:List Operand) (c:GC) (st:PSt) (K:List PBox→Prop):Prop :=
 opK GE st.tmps f fun vf => match vf with
 | .func (.func g) first cap => opsK GE st.tmps args fun as => match qoT c.ρ && oaOk first.length args st.own c.oa && c.Bs.all qIT && decide (c.Bs'.length = c.ρ.length) with
  | true => C P GE g c.argsC (c.oa.map fun x => ((x.i,x.k),x.e)) c.Hc c.rc c.ro c.Hc'∧RixL c.ρ (first ++ as ++ cap) c.argsC∧qr7 c.ρ st.boxes c.ρ c.Bs c.Hc∧qBa c.ρ c.Bs' c.Hc'∧Rix c.ρ c.r c.rc ∧
    qFh st.boxes c.ρ c.Bs' K
  | false => False
 | _ => False
theorem qte {P:Program} {GE:List (Nat×List PVal)} {f:Operand} {args:List Operand} {c:GC} {st:PSt} {K:List PBox→Prop} (h:qov P GE f args c st K) :
  ∃ H',GCall P GE f args st c.r c.ro H' c.oa∧K H':=by
 unfold qov at h
 rw [qbu] at h
 split at h
 ·rename_i g first cap hf
  rw [qmy] at h
  split at h
  ·rename_i hb
   simp only [vae,vah] at hb
   obtain ⟨⟨⟨b1,b2⟩,b3⟩,b4⟩:=hb
   obtain ⟨h1,h2,h3,h4,h5,h6⟩:=h
   rw [qs3] at h6
   have hn:=qiX b1
   obtain ⟨i1,i2,i3,i4⟩:=qzv h3
   obtain ⟨o1,o2⟩:=qwF h4
   unfold oaOk at b2
   rw [vae] at b2
   obtain ⟨c1,c2⟩:=b2
   have hgetB:∀ {i j:Nat},c.ρ[i]? = some j→∃ B,c.Bs[i]? = some B:=fun {i j} hj => ⟨_,vab (by rw [← i1]; exact qag hj)⟩
   have hgetH:∀ {i j:Nat},c.ρ[i]? = some j→∃ B,c.Hc[i]? = some B:=fun {i j} hj => ⟨_,vab (by rw [i2]; exact qag hj)⟩
   refine ⟨_,⟨g,first,cap,c.argsC,c.ρ,qxd st.boxes c.ρ c.Bs,c.Hc,c.Hc',c.rc,hf,hn,h1,⟨qxm _ _ _,fun i B hB => ?_⟩,⟨i2,fun i j hj => ?_⟩,⟨by rw [← o1]; exact b4,fun i j hj => ?_⟩,qxm _ _ _,fun j hj => by rw [qpg _ _ _ hj,qpg _ _ _ hj],h5,h2.len,h2.get,fun x hx => ?_,fun x hx y hy e1 e2 => ?_⟩,h6⟩
   ·by_cases hi:i ∈ c.ρ
    ·obtain ⟨k,hk⟩:=vbi.1 hi
     obtain ⟨B1,hB1⟩:=hgetB hk
     obtain ⟨Bc,hBc⟩:=hgetH hk
     obtain ⟨⟨B0,hB0,hfg⟩,_⟩:=i4 k i B1 Bc hk hB1 hBc
     rw [qwg _ _ _ hn i1 i3 k i B1 hk hB1] at hB
     cases hB
     refine ⟨B0,hB0,?_⟩
     rcases qHM B0 B with hx | hx | hx
     ·rw [hfg] at hx
      have:=vav.1 b3 B (vay hB1)
      rw [hx] at this; cases this
     ·rw [hfg] at hx; exact .inl hx
     ·rw [hfg] at hx; exact .inr hx
    ·rw [qpg _ _ _ hi] at hB
     exact ⟨B,hB,.inl rfl⟩
   ·obtain ⟨B1,hB1⟩:=hgetB hj
    obtain ⟨Bc,hBc⟩:=hgetH hj
    exact ⟨B1,Bc,qwg _ _ _ hn i1 i3 i j B1 hj hB1,hBc,(i4 i j B1 Bc hj hB1 hBc).2⟩
   ·have hi:=qag hj
    have e1:=vab (l:=c.Bs') (i:=i) (by omega)
    have e2:=vab (l:=c.Hc') (i:=i) (by omega)
    exact ⟨_,_,qwg _ _ _ hn b4.symm i3 i j _ hj e1,e2,o2 i _ _ e1 e2⟩
   ·have:=vav.1 c1 x hx
    simp only [vae,va5,vah,va1] at this
    refine ⟨x.i - first.length,by omega,?_⟩
    rcases this.2 with ⟨h2,h3⟩ | ⟨h2,h3⟩
    ·left
     unfold qKM at h2
     split at h2
     ·rename_i v hv
      unfold qgz at h2
      split at h2
      ·exact ⟨hv,h3⟩
      ·cases h2
     ·cases h2
    ·right
     unfold qMr at h3
     split at h3
     ·rename_i u hu
      simp only [va1] at h3
      subst h3; exact ⟨h2,hu⟩
     ·cases h3
   ·have:=vav.1 (vav.1 c2 x hx) y hy
    simp only [va5,va3,Bool.and_eq_false_iff,beq_eq_false_iff_ne,ne_eq,va1] at this
    rcases this with (hx | hx) | hx
    ·exact absurd e1 hx
    ·exact absurd e2 hx
    ·exact hx
  ·exact h.elim
 ·exact h.elim
def qzZ (P:Program) (GE:List (Nat×List PVal)) (A:List Nat) (o:Oper) (id:Nat) (sc:List It) (st:PSt) (K:List It→PSt→Prop):Prop :=
 match o.op,sc with
 | .build T parts,.b p L :: sc' => match o.dst with
  | some d => inB st.tmps.length d (qqP GE st.tmps parts.toList fun ps => qbO P T ps = some p∧pnil P T ps L∧setK st.tmps d p fun tm => qa7 ((L.map fun x => ((d,x.1),x.2)) ++ qbD d st.own) fun ow => K sc' ⟨tm,st.boxes,ow⟩)
  | none => False
 | .store T x (.tmp t),.y vs :: sc' => getK st.tmps t fun vt => match vt with
  | .agg l => match o.dst with
   | none => opK GE st.tmps x fun vx => match vx with
    | .bptr i off => qa7 (qFX t st.own) fun L => l = vs∧qkB st.boxes i fun B => match B with
     | .cells cs own => match qoT (L.map (·.1)) && decide (vs.length = P.cellsOf T) && (P.info? T).isSome && decide (off + vs.length ≤ cs.length) && vs.all PVal.one with
      | true => qa7 (cs.take off ++ vs ++ cs.drop (off + vs.length)) fun cs' => qa7 ((L.map fun y => (off + y.1,y.2)).reverse ++ own.filter fun y => y.1 < off || off + vs.length ≤ y.1) fun own' =>
        setK st.boxes i (.cells cs' own') fun H => qa7 (st.own.filter fun x => !L.any fun y => x.1 == (t,y.1)) fun ow => K sc' ⟨st.tmps,H,ow⟩
      | false => False
     | _ => False
    | _ => False
   | some _ => False
  | _ => qBM P GE A o id sc st K
 | .load T x,.z l :: sc' => match P.underlying T with
  | some (.struct _) => match o.dst with
   | some d => inB st.tmps.length d (opK GE st.tmps x fun vx => match vx with
    | .bptr i off => qkB st.boxes i fun B => match B with
     | .cells cs own => qbv P T (cs.drop off) = some (.agg l)∧qa7 (qKc off (P.cellsOf T) own) fun L => match qoT (L.map (·.1)) with
      | true => setK st.tmps d (.agg l) fun tm => qa7 (own.filter fun x => !L.any fun y => x.1 == off + y.1) fun own' => setK st.boxes i (.cells cs own') fun H =>
        qa7 ((L.map fun y => ((d,y.1),y.2)).reverse ++ qbD d st.own) fun ow => K sc' ⟨tm,H,ow⟩
      | false => False
     | _ => False
    | _ => False)
   | none => False
  | _ => qBM P GE A o id sc st K
 | .box _ x,.e vs :: sc' => match o.dst with
  | some d => inB st.tmps.length d (opK GE st.tmps x fun vx => qaY vx = some vs∧setK st.tmps d (.eptr vs) fun tm => qa7 (qbD d st.own) fun ow => K sc' ⟨tm,st.boxes,ow⟩)
  | none => False
 | .call { callee := .value f,args,.. },.cg c :: sc' => match o.dst with
  | some d => inB st.tmps.length d (qov P GE f args.toList c st fun H => setK st.tmps d c.r fun tm => qa7 ((c.ro.map fun x => ((d,x.1),x.2)) ++ qbD d (st.own.filter fun z => !c.oa.any fun x => z.1 == (x.t,x.k))) fun ow => K sc' ⟨tm,H,ow⟩)
  | none => False
 | .call { callee := .builtin .append,args:=⟨[.tmp t,y]⟩,argTypes:=⟨[T,T']⟩ },.ar i e n cs :: sc' => match o.dst with
  | some d => inB st.tmps.length d (getK st.tmps t fun ve => opK GE st.tmps y fun vn => match ve,vn with
   | .slice [],.slice ns => match decide (T = T') && decide (((t,0),e) ∈ st.own) && decide (i = st.boxes.length) with
    | true => P.underlying T = some (.slice e)∧(∃ p,qiD P T [] ns = some p)∧(n = ns.length∧cs = ns.flatten) ∧
      setK st.tmps d (.bsl i 0 n) fun tm => qa7 (qbD d (st.own.filter fun x => x.1 != (t,0))) fun ow => appK st.boxes [.cells cs []] fun H => K sc' ⟨tm,H,ow⟩
    | false => False
   | _,_ => False)
  | none => False
 | .call { callee := .value f,args:=⟨[x]⟩,.. },.ar i e n cs :: sc' => match o.dst with
  | some d => inB st.tmps.length d (opK GE st.tmps f fun vf => opK GE st.tmps x fun vn => match vf,vn with
   | .func (.func g) [] [],.slice ns => match decide (i = st.boxes.length) with
    | true => qkk P g e∧(0 < P.cellsOf e∧(∀ x ∈ ns,x.length = P.cellsOf e∧∀ q ∈ x,q.one = true)∧ns.length ≤ qdj)∧(n = ns.length∧cs = ns.flatten) ∧
      setK st.tmps d (.bsl i 0 n) fun tm => qa7 (qbD d st.own) fun ow => appK st.boxes [.cells cs []] fun H => K sc' ⟨tm,H,ow⟩
    | false => False
   | _,_ => False)
  | none => False
 | .store T x (.const v),.ar _ e _ _ :: sc' => match o.dst,qgz v with
  | none,true => opK GE st.tmps x fun vx => opK GE st.tmps (.const v) fun vy => match vx,qaY vy with
   | .bptr i off,some vs => qkB st.boxes i fun B => match B with
    | .cells cs own => match decide (vs.length = P.cellsOf T) && (P.info? T).isSome && decide (off + vs.length ≤ cs.length) && vs.all PVal.one with
     | true => qa7 (cs.take off ++ vs ++ cs.drop (off + vs.length)) fun cs' => qa7 ((off,e) :: own.filter fun y => y.1 < off || off + vs.length ≤ y.1) fun own' => setK st.boxes i (.cells cs' own') fun H => K sc' ⟨st.tmps,H,st.own⟩
     | false => False
    | _ => False
   | _,_ => False
  | _,_ => False
 | _,_ => qBM P GE A o id sc st K
def qEi (P:Program) (GE:List (Nat×List PVal)) (A:List Nat) (ops:Array Oper) (K:List It→PSt→Prop):List Oper→Nat→Nat→List It→PSt→Prop
 | [],_,_,sc,st => K sc st
 | o :: rest,pos,id,sc,st =>
  let step (sc:List It) (st:PSt):Prop:=qzZ P GE A o id sc st fun sc' st' => qEi P GE A ops K rest (pos + 1) (id + if qan o.op then 1 else 0) sc' st'
  match o.guard with
  | none => step sc st
  | some (j,want) => qBd ops j want pos sc st fun b sc' st' => match b with
   | true => step sc' st'
   | false => putK st' o.dst (.val undef) [] st'.boxes fun st'' => qEi P GE A ops K rest (pos + 1) (id + if qan o.op then 1 else 0) sc' st''
section
variable {P:Program} {GE:List (Nat×List PVal)} {A:List Nat} {ops:Array Oper}
theorem qCN {f:Operand} {args:List Operand} {tmps:List PVal} {H:List PBox} {sc:List It} {K:PVal→List (Nat×TypeId)→List It→Prop} (h:qIO P GE f args tmps sc K) :
  qwY P GE (opv GE tmps f) (args.map (opv GE tmps)) H fun r ro H' => H' = H∧∃ sc',K r ro sc':=by
 unfold qIO at h
 rw [qbu] at h
 split at h
 ·rename_i g first cap hf
  rw [qmy] at h
  split at h
  ·rename_i r ro sc'
   rw [hf]
   exact .inl ⟨h.1.1,r,ro,h.1.2,rfl,sc',h.2⟩
  ·exact h.elim
 ·exact h.elim
theorem qtf {op:Op} {id:Nat} {v:Operand→PVal} {H H':List PBox} {p:PVal} {K:PVal→List (Nat×TypeId)→List PBox→Prop} (hn:∀ f args tys,op ≠ .call { callee := .value f,args,argTypes:=tys })
  (h:pev P op id v H = some (p,H')) (hk:K p [] H'):pdo P GE op id v H K:=by
 unfold pdo
 split
 ·rename_i f args tys; exact absurd rfl (hn _ _ _)
 ·rw [h]; exact hk
theorem qe9 {o:Oper} {id:Nat} {sc:List It} {st:PSt} {K:List It→PSt→Prop} (h:qo9 P GE o id sc st K) :
  qkp o st.tmps.length = true∧pdo P GE o.op id (opv GE st.tmps) st.boxes fun p ro H => (fun st' => ∃ sc',K sc' st') (putv st o.dst p ro H):=by
 unfold qo9 at h
 split at h
 ·exact h.elim
 ·rename_i hc
  refine ⟨hc,?_⟩
  split at h
  ·rename_i f args tys ho
   have:=qCN (H:=st.boxes) h
   unfold pdo
   simp only [ho]
   unfold qwY at this ⊢
   split at this
   ·rcases this with ⟨k1,r,ro,k2,_,sc',k3⟩ | ⟨ρ,argsC,Hc,rc,ro,Hc',H',r,k1,k2,k3,k4,k5,k6,k7,k8,k9,rfl,sc',k10⟩
    ·rw [qnt] at k3; exact .inl ⟨k1,r,ro,k2,sc',k3⟩
    ·rw [qnt] at k10; exact .inr ⟨ρ,argsC,Hc,rc,ro,Hc',_,r,k1,k2,k3,k4,k5,k6,k7,k8,k9,sc',k10⟩
   ·exact this.elim
  ·rename_i t ho
   split at h
   ·rename_i zs sc'
    obtain ⟨h1,h2⟩:=h
    simp only [qaA,qa0,qnt] at h2
    rw [ho]
    exact qtf (by simp) (by simp only [pev,h1,vad]) ⟨sc',h2⟩
   ·exact h.elim
  ·rename_i t x ho
   rw [qbu] at h
   split at h
   ·rename_i cs sc'
    obtain ⟨h1,h2⟩:=h
    simp only [qa0,qnt] at h2
    rw [ho]
    exact qtf (by simp) (by simp only [pev,h1,vad]) ⟨sc',h2⟩
   ·exact h.elim
  ·rename_i t ho
   simp only [qa0,qnt] at h
   rw [ho]
   exact qtf (by simp) (by simp only [pev]) ⟨_,h⟩
  ·rename_i n1 n2 n3 n4
   obtain ⟨p,H',sc',k1,k2,_⟩:=qya (id:=id) h
   rw [qnt] at k2
   exact qtf (fun f args tys e => n1 f args tys e) k1 ⟨sc',k2⟩
theorem qom {o:Oper} {id:Nat} {sc:List It} {st:PSt} {K:List It→PSt→Prop} (h:qBM P GE A o id sc st K):qDp P GE A o id (fun st' => ∃ sc',K sc' st') st:=by
 unfold qBM at h
 unfold qDp
 split at h
 case h_1 t d ho hd =>
  obtain ⟨h1,h2⟩:=qkU h
  simp only [qeZ,qa0,qaA] at h2
  simp only [ho,hd]
  exact ⟨h1,_,h2⟩
 case h_2 t d ho hd =>
  simp only [ho,hd]
  split at h
  ·rename_i hA
   obtain ⟨h1,h2⟩:=qkU h
   simp only [qeZ,qa0,qaA] at h2
   rw [vao (by simpa using hA)]
   exact ⟨h1,_,h2⟩
  ·rename_i hA
   rw [vam (by simpa using hA)]
   have:=qe9 h
   rw [ho,hd] at this
   exact this
 case h_3 v d ho hd =>
  simp only [ho,hd]
  split at h
  ·rename_i e he
   obtain ⟨h1,h2⟩:=qkU h
   simp only [qa0,qaA] at h2
   simp only [he]
   exact ⟨h1,_,h2⟩
  ·rename_i he
   simp only [he]
   have:=qe9 h
   rw [ho,hd] at this
   exact this
 case h_4 v d ho hd =>
  simp only [ho,hd]
  split at h
  ·rename_i e he
   obtain ⟨h1,h2⟩:=qkU h
   simp only [qa0,qaA] at h2
   simp only [he]
   exact ⟨h1,_,h2⟩
  ·rename_i he
   simp only [he]
   have:=qe9 h
   rw [ho,hd] at this
   exact this
 case h_5 t i d ho hd =>
  obtain ⟨h1,h2⟩:=qkU h
  rw [qeZ] at h2
  obtain ⟨p,h3,h4⟩:=qoe h2
  simp only [qa0,qaA] at h4
  simp only [ho,hd,h3]
  exact ⟨h1,_,h4⟩
 case h_6 T len parts d ho hd =>
  obtain ⟨h1,h2⟩:=qkU h
  rw [qi5] at h2
  split at h2
  ·rename_i p sc' e hu
   obtain ⟨h3,h4⟩:=h2
   simp only [qa0,qaA] at h4
   simp only [ho,hd,h3,hu]
   exact ⟨h1,_,h4⟩
  ·exact h2.elim
 case h_7 t y T T' d ho hd =>
  obtain ⟨h1,h2⟩:=qkU h
  rw [qeZ,qbu] at h2
  split at h2
  ·rename_i es ns p sc' e he hn hu
   split at h2
   ·rename_i hc
    simp only [vae,vah] at hc
    obtain ⟨h3,h4⟩:=h2
    simp only [qa0,qaA] at h4
    simp only [ho,hd,hu,he,hn,h3]
    exact ⟨hc.1,h1,hc.2,_,h4⟩
   ·exact h2.elim
  ·exact h2.elim
 case h_8 T x d ho hd =>
  simp only [ho,hd]
  split at h
  ·rename_i hA
   obtain ⟨h1,h2⟩:=qkU h
   rw [qbu] at h2
   rw [vao (by simpa using hA)]
   split at h2
   ·rename_i i off e hx hu
    obtain ⟨B,hB,h2⟩:=qcs h2
    split at h2
    ·rename_i cs own
     split at h2
     ·rename_i hc
      simp only [vae,vah] at hc
      simp only [qeZ,qa0,qaA] at h2
      have hget:cs[off]? = some (cs.getD off .undef):=by
       rw [van,vab hc.2]; rfl
      simp only [hx,hu,hB,hget]
      exact ⟨h1,hc.1,_,h2⟩
     ·exact h2.elim
    ·exact h2.elim
   ·exact h2.elim
  ·rename_i hA
   rw [vam (by simpa using hA)]
   have:=qe9 h
   rw [ho,hd] at this
   exact this
 case h_9 T x t ho =>
  simp only [ho]
  split at h
  ·rename_i y e hf
   rw [qbu,qeZ] at h
   simp only [hf]
   unfold qzP at h
   split at h
   ·rename_i i off hx
    split at h
    ·rename_i H hst
     obtain ⟨B,hB,h⟩:=qcs h
     split at h
     ·rename_i cs own
      split at h
      ·rename_i hone
       simp only [qa0,qaA,qnt] at h
       simp only [hx,hst,hB,hone]
       exact ⟨_,h⟩
      ·exact h.elim
     ·exact h.elim
    ·exact h.elim
   ·exact h.elim
  ·rename_i hf
   simp only [hf]
   have:=qe9 h
   rw [ho] at this
   exact this
 case h_10 =>
  have:=qe9 h
  split
  all_goals first
   | exact this
   | (exfalso; simp_all; done)
   | (exfalso; simp_all; rename_i hx h1 h2; exact hx _ _ _ _ rfl rfl rfl rfl)
   | (exfalso; simp_all; rename_i hx h1 h2; exact hx _ _ _ _ _ rfl rfl rfl rfl rfl)
   | (exfalso; simp_all; rename_i hx h1 h2; exact hx _ _ _ rfl rfl rfl)
theorem qtW {j:Nat} {want:Bool} {pos:Nat} {sc:List It} {st:PSt} {go:Bool→List It→PSt→Prop} (h:qBd ops j want pos sc st go) :
  ∃ x,qog ops st.tmps j = some x∧((x = some want∧∃ sc',go true sc' st)∨(x ≠ some want∧∃ sc',go false sc' st)):=by
 unfold qBd at h
 split at h
 ·exact h.elim
 ·rename_i t ht
  rw [qeZ] at h
  have hget:∀ {p},st.tmps.getD t .undef = p→p ≠ .undef→st.tmps[t]? = some p:=by
   intro p hp hne
   rw [van] at hp
   cases hx:st.tmps[t]? with
   | none => rw [hx] at hp; exact absurd hp.symm hne
   | some q => rw [hx] at hp; exact vbn some hp
  have hfin:∀ (x:Bool) sc',go (x == want) sc' st→(some x = some want∧∃ sc',go true sc' st)∨(some x ≠ some want∧∃ sc',go false sc' st):=by
   intro x sc' hg
   cases x <;> cases want <;> simp at hg ⊢ <;> exact ⟨sc',hg⟩
  split at h
  ·rename_i x hp
   have hx:=hget hp (by simp)
   have hg:qog ops st.tmps j = some (some x):=by unfold qog; simp only [ht,hx]
   refine ⟨_,hg,?_⟩
   split at h
   ·rename_i pos' b sc'
    split at h
    ·obtain ⟨rfl,h⟩:=h
     rw [qa0,qwz hx] at h
     exact hfin x sc' h
    ·exact hfin x _ h
   ·exact hfin x _ h
  ·rename_i v hp
   have hx:=hget hp (by simp)
   split at h
   ·exact h.elim
   ·rename_i hb
    refine ⟨none,?_,.inr ⟨by simp,_,h⟩⟩
    unfold qog
    simp only [ht,hx]
    cases v <;> simp [isB] at hb <;> rfl
  ·exact h.elim
theorem qAz {o:Oper} {id:Nat} {sc:List It} {st:PSt} {K:List It→PSt→Prop} (h:qzZ P GE A o id sc st K):qvG P GE A o id (fun st' => ∃ sc',K sc' st') st:=by
 unfold qzZ at h
 split at h
 ·rename_i T parts p L sc' ho
  split at h
  ·rename_i d hd
   obtain ⟨h1,h2⟩:=qkU h
   rw [qi5] at h2
   obtain ⟨h3,h4,h5⟩:=h2
   simp only [qa0,qaA] at h5
   refine .inr (.inl ?_)
   unfold pown
   simp only [ho,hd]
   exact ⟨p,L,h3,h4,h1,sc',h5⟩
  ·exact h.elim
 ·rename_i T x t vs sc' ho
  rw [qeZ] at h
  split at h
  ·rename_i l hl
   split at h
   ·rename_i hd
    rw [qbu] at h
    split at h
    ·rename_i i off hx
     rw [qaA] at h
     obtain ⟨rfl,h⟩:=h
     obtain ⟨B,hB,h⟩:=qcs h
     split at h
     ·rename_i cs own
      split at h
      ·rename_i hc
       simp only [qa0,qaA] at h
       simp only [vae,vah] at hc
       obtain ⟨⟨⟨⟨c1,c2⟩,c3⟩,c4⟩,c5⟩:=hc
       refine .inr (.inl ?_)
       unfold pown
       simp only [ho,hd]
       have hi:=qag hB
       refine ⟨i,off,st.boxes.set i (.cells (cs.take off ++ l ++ cs.drop (off + l.length)) (own.filter fun y => y.1 < off || off + l.length ≤ y.1)),_,_,qFX t st.own,l,hx,hl,?_,vai hi,fun y hy => qxj hy,qiX c1,sc',?_⟩
       ·simp only [qcT,qaY,hB]
        rw [vao ⟨c2,c3,c4,c5⟩]
       ·rw [vb3]; exact h
      ·exact h.elim
     ·exact h.elim
    ·exact h.elim
   ·exact h.elim
  ·exact .inl (qom h)
 ·rename_i T x l sc' ho
  split at h
  ·rename_i fs hT
   split at h
   ·rename_i d hd
    obtain ⟨h1,h⟩:=qkU h
    rw [qbu] at h
    split at h
    ·rename_i i off hx
     obtain ⟨B,hB,h⟩:=qcs h
     split at h
     ·rename_i cs own
      obtain ⟨h2,h⟩:=h
      rw [qaA] at h
      split at h
      ·rename_i hn
       simp only [qa0,qaA] at h
       refine .inr (.inl ?_)
       unfold pown
       simp only [ho,hd]
       have hlen:l.length = P.cellsOf T:=by
        have hp:=h2
        unfold qbv at hp
        rw [hT] at hp
        simp only at hp
        split at hp
        ·rename_i hh; cases hp; rw [va2]; omega
        ·cases hp
       exact ⟨i,off,cs,own,_,l,⟨fs,hT⟩,hx,hB,h2,fun y hy => (qsY hy).1,qiX hn,fun y hy => by rw [hlen]; exact (qsY hy).2,h1,sc',h⟩
      ·exact h.elim
     ·exact h.elim
    ·exact h.elim
   ·exact h.elim
  ·exact .inl (qom h)
 ·rename_i T x vs sc' ho
  split at h
  ·rename_i d hd
   obtain ⟨h1,h⟩:=qkU h
   rw [qbu] at h
   obtain ⟨h2,h⟩:=h
   simp only [qa0,qaA] at h
   refine .inr (.inl ?_)
   unfold pown
   simp only [ho,hd]
   exact ⟨vs,h2,h1,sc',h⟩
  ·exact h.elim
 ·rename_i f args tys c sc' ho
  split at h
  ·rename_i d hd
   obtain ⟨h1,h⟩:=qkU h
   obtain ⟨H',h2,h3⟩:=qte h
   simp only [qa0,qaA] at h3
   refine .inr (.inl ?_)
   unfold pown
   simp only [ho,hd]
   exact ⟨c.r,c.ro,H',c.oa,h2,h1,sc',h3⟩
  ·exact h.elim
 ·rename_i t y T T' i e n cs sc' ho
  split at h
  ·rename_i d hd
   have hh:=qkU h
   clear h
   obtain ⟨h1,h⟩:=hh
   rw [qeZ,qbu] at h
   split at h
   ·rename_i ns he hn
    split at h
    ·rename_i hc
     simp only [vae,vah] at hc
     obtain ⟨⟨rfl,c2⟩,rfl⟩:=hc
     obtain ⟨h2,⟨p,h3⟩,⟨rfl,rfl⟩,h4⟩:=h
     simp only [qa0,qaA,appK,qaA] at h4
     refine .inr (.inr ?_)
     unfold prow
     simp only [ho,hd]
     exact ⟨e,ns,p,trivial,h2,he,hn,h3,c2,h1,sc',h4⟩
    ·exact h.elim
   ·exact h.elim
  ·exact h.elim
 ·rename_i f x tys i e n cs sc' ho
  split at h
  ·rename_i d hd
   have hh:=qkU h
   clear h
   obtain ⟨h1,h⟩:=hh
   rw [qbu,qbu] at h
   split at h
   ·rename_i g ns hg hn
    split at h
    ·rename_i hc
     simp only [vah] at hc
     subst hc
     obtain ⟨h2,⟨h3,h4,h5⟩,⟨rfl,rfl⟩,h6⟩:=h
     simp only [qa0,qaA,appK,qaA] at h6
     refine .inr (.inr ?_)
     unfold prow
     simp only [ho,hd]
     exact ⟨g,e,ns,hg,h2,hn,h3,h4,h5,h1,sc',h6⟩
    ·exact h.elim
   ·exact h.elim
  ·exact h.elim
 ·rename_i T x v i0 e n0 cs0 sc' ho
  split at h
  ·rename_i hd hv
   have hv':v = .slice none 0 0:=by
    unfold qgz at hv
    split at hv
    ·rfl
    ·cases hv
   subst hv'
   rw [qbu,qbu] at h
   split at h
   ·rename_i i off vs hx hpc
    obtain ⟨B,hB,h⟩:=qcs h
    split at h
    ·rename_i cs own
     split at h
     ·rename_i hc
      simp only [qa0,qaA] at h
      simp only [vae,vah] at hc
      obtain ⟨⟨⟨c2,c3⟩,c4⟩,c5⟩:=hc
      refine .inr (.inr ?_)
      unfold prow
      simp only [ho,hd]
      have hi:=qag hB
      refine ⟨i,off,e,st.boxes.set i (.cells (cs.take off ++ vs ++ cs.drop (off + vs.length)) (own.filter fun y => y.1 < off || off + vs.length ≤ y.1)),_,_,trivial,hx,?_,vai hi,sc',?_⟩
      ·simp only [qcT,hpc,hB]
       rw [vao ⟨c2,c3,c4,c5⟩]
      ·rw [vb3]; exact h
     ·exact h.elim
    ·exact h.elim
   ·exact h.elim
  ·exact h.elim
 ·exact .inl (qom h)
theorem qrL {o:Oper} {id:Nat} {K K':PSt→Prop} {st:PSt} (hk:∀ st,K st→K' st) (h:qvG P GE A o id K st):qvG P GE A o id K' st:=by
 rcases h with h | h | h
 ·exact .inl (qGt hk h)
 rotate_left
 ·refine .inr (.inr ?_)
  unfold prow at *
  split at h
  ·obtain ⟨e,ns,p,h1,h2,h3,h4,h5,h6,h7,h8⟩:=h; exact ⟨e,ns,p,h1,h2,h3,h4,h5,h6,h7,hk _ h8⟩
  ·obtain ⟨g,e,ns,h1,h2,h3,h4,h5,h6,h7,h8⟩:=h; exact ⟨g,e,ns,h1,h2,h3,h4,h5,h6,h7,hk _ h8⟩
  ·obtain ⟨i,off,e,H,cs,own,h1,h2,h3,h4,h5⟩:=h; exact ⟨i,off,e,H,cs,own,h1,h2,h3,h4,hk _ h5⟩
  ·exact h
 ·refine .inr (.inl ?_)
  unfold pown at *
  split at h
  ·obtain ⟨p,L,h1,h2,h3,h4⟩:=h; exact ⟨p,L,h1,h2,h3,hk _ h4⟩
  ·obtain ⟨i,off,H,cs,own,L,l,h1,h2,h3,h4,h5,h6,h7⟩:=h; exact ⟨i,off,H,cs,own,L,l,h1,h2,h3,h4,h5,h6,hk _ h7⟩
  ·obtain ⟨i,off,cs,own,L,l,h0,h1,h2,h3,h4,h5,h6,h7,h8⟩:=h; exact ⟨i,off,cs,own,L,l,h0,h1,h2,h3,h4,h5,h6,h7,hk _ h8⟩
  ·obtain ⟨vs,h1,h2,h3⟩:=h; exact ⟨vs,h1,h2,hk _ h3⟩
  ·obtain ⟨r,ro,H',oa,h1,h2,h3⟩:=h; exact ⟨r,ro,H',oa,h1,h2,hk _ h3⟩
  ·exact h
theorem qpY {K:List It→PSt→Prop}:∀ (rest:List Oper) (pos id:Nat) (sc:List It) (st:PSt),qEi P GE A ops K rest pos id sc st→qbR P GE A ops (fun st => ∃ sc,K sc st) rest id st
 | [],_,_,sc,st,h => ⟨sc,h⟩
 | o :: rest,pos,id,sc,st,h => by
  simp only [qEi] at h
  have step:∀ sc st,qzZ P GE A o id sc st (fun sc' st' => qEi P GE A ops K rest (pos + 1) (id + if qan o.op then 1 else 0) sc' st')→qvG P GE A o id (qbR P GE A ops (fun st => ∃ sc,K sc st) rest (id + if qan o.op then 1 else 0)) st :=
   fun sc st hs => qrL (fun st' hx => by obtain ⟨sc',hx⟩:=hx; exact qpY rest _ _ sc' st' hx) (qAz hs)
  unfold qbR
  split at h
  ·rename_i hg; simp only [hg]; exact step _ _ h
  ·rename_i j want hg
   obtain ⟨x,hx,hc⟩:=qtW h
   simp only [hg,hx]
   rcases hc with ⟨rfl,sc',hc⟩ | ⟨hne,sc',hc⟩
   ·exact ⟨fun _ => step _ _ hc,fun hn => absurd rfl hn⟩
   ·refine ⟨fun he => absurd he hne,fun _ => ?_⟩
    simp only [qnt] at hc
    exact qpY rest _ _ sc' _ hc
end
end Go.Proofs.YtgldgpdhblndkaaGreatDoor
