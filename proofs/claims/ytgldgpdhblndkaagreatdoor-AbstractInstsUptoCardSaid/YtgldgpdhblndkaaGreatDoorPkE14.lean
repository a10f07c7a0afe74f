/- WHAT IS PROVED: parts of the proof, put together by a program (SatB). Conditions: none. -/
import Derived.Test.YtgldgpdhblndkaaGreatDoorPkE13
noncomputable section
namespace Go.Proofs.YtgldgpdhblndkaaGreatDoor
open Go
structure GC where
 ρ:List Nat
 argsC:List PVal
 oa:List OA
 Bs:List PBox
 Hc:List PBox
 Bs':List PBox
 Hc':List PBox
 r:PVal
 rc:PVal
 ro:List (Nat×TypeId)
inductive It where
 | cg (c:GC)
 | ar (i:Nat) (e:TypeId) (n:Nat) (cs:List PVal)
 | fz (i:Nat) (es:List (List PVal)) (lv rk:List Nat)
 | g (j:Nat) (b:Bool)
 | k
 | s
 | v (p:PVal)
 | x (cs:List PVal)
 | w (i:Nat) (B:PBox)
 | c (r:PVal) (ro:List (Nat×TypeId))
 | dr (an:List Nat)
 | dx (an:List Nat) (X:List PBox) (br:List (Nat×Nat)) (rw:List Nat)
 | pa (n:Nat)
 | pc (st0:PSt) (e:Exit) (st1:PSt)
 | b (p:PVal) (L:List (Nat×TypeId))
 | y (vs:List PVal)
 | z (l:List PVal)
 | e (vs:List PVal)
def getK:List PVal→Nat→(PVal→Prop)→Prop
 | [],_,k => k .undef
 | p :: _,0,k => k p
 | _ :: l,n + 1,k => getK l n k
theorem qfx:∀ (l:List PVal) (n:Nat) (k:PVal→Prop),getK l n k = k (l.getD n .undef)
 | [],_,_ => by simp [getK]
 | _ :: _,0,_ => by simp [getK]
 | _ :: l,n + 1,k => by simp only [getK,qfx l n k,List.getD_cons_succ]
def setK {α:Type}:List α→Nat→α→(List α→Prop)→Prop
 | [],_,_,k => k []
 | _ :: l,0,v,k => k (v :: l)
 | x :: l,n + 1,v,k => setK l n v fun l' => k (x :: l')
theorem qaV {α:Type}:∀ (l:List α) (n:Nat) (v:α) (k:List α→Prop),setK l n v k = k (l.set n v)
 | [],_,_,_ => by simp [setK]
 | _ :: _,0,_,_ => by simp [setK]
 | x :: l,n + 1,v,k => by simp only [setK,qaV l n v,List.set_cons_succ]
def qa2 {α:Type}:List α→(List α→Prop)→Prop
 | [],k => k []
 | x :: l,k => qa2 l fun l' => k (x :: l')
def appK (l:List PBox) (r:List PBox) (k:List PBox→Prop):Prop:=qa2 (l ++ r) k
theorem qaq {α:Type}:∀ (l:List α) (k:List α→Prop),qa2 l k = k l
 | [],_ => rfl
 | x :: l,k => by simp only [qa2,qaq l]
def absK:Value→(PVal→Prop)→Prop
 | .int a n,k => k (.int a n)
 | .bool b,k => k (.bool b)
 | .string s,k => qa2 s.data.toList fun l => k (.str l)
 | v,k => k (absV v)
theorem qHT (v:Value) (k:PVal→Prop):absK v k = k (absV v):=by
 unfold absK
 split
 ·rfl
 ·rfl
 ·rw [qaq]; rfl
 ·rfl
def opK (GE:List (Nat×List PVal)) (tmps:List PVal) (x:Operand) (k:PVal→Prop):Prop :=
 match x with
 | .tmp t => getK tmps t k
 | .const v => absK v k
 | x => k (opv GE tmps x)
theorem qbr (GE:List (Nat×List PVal)) (tmps:List PVal) (x:Operand) (k:PVal→Prop):opK GE tmps x k = k (opv GE tmps x):=by
 cases x with
 | tmp t => exact qfx _ _ _
 | const v => exact qHT _ _
 | global g => rfl
 | func f => rfl
def opsK (GE:List (Nat×List PVal)) (tmps:List PVal):List Operand→(List PVal→Prop)→Prop
 | [],k => k []
 | x :: l,k => opK GE tmps x fun p => opsK GE tmps l fun ps => k (p :: ps)
theorem qm6 (GE:List (Nat×List PVal)) (tmps:List PVal):∀ (l:List Operand) (k:List PVal→Prop),opsK GE tmps l k = k (l.map (opv GE tmps))
 | [],_ => rfl
 | x :: l,k => by simp only [opsK,qbr,qm6 GE tmps l,List.map_cons]
def qpK (GE:List (Nat×List PVal)) (tmps:List PVal):List (Nat×Operand)→(List (Nat×PVal)→Prop)→Prop
 | [],k => k []
 | x :: l,k => opK GE tmps x.2 fun p => qpK GE tmps l fun ps => k ((x.1,p) :: ps)
theorem qiX (GE:List (Nat×List PVal)) (tmps:List PVal):∀ (l:List (Nat×Operand)) (k:List (Nat×PVal)→Prop),qpK GE tmps l k = k (l.map fun x => (x.1,opv GE tmps x.2))
 | [],_ => rfl
 | x :: l,k => by simp only [qpK,qbr,qiX GE tmps l,List.map_cons]
def optK (GE:List (Nat×List PVal)) (tmps:List PVal):Option Operand→(Option PVal→Prop)→Prop
 | none,k => k none
 | some x,k => opK GE tmps x fun p => k (some p)
theorem qHY (GE:List (Nat×List PVal)) (tmps:List PVal) (o:Option Operand) (k:Option PVal→Prop):optK GE tmps o k = k (o.map (opv GE tmps)):=by
 cases o with
 | none => rfl
 | some x => simp only [optK,qbr,Option.map_some]
def tell (sc:List It) (f:PVal→Prop) (K:PVal→List It→Prop):Prop :=
 match sc with
 | .v p :: sc' => f p∧K p sc'
 | _ => False
def know (o:Option PVal) (K:PVal→Prop):Prop :=
 match o with
 | some p => K p
 | none => False
theorem qnL {o:Option PVal} {K:PVal→Prop} (h:know o K):∃ p,o = some p∧K p:=by
 unfold know at h
 split at h
 ·exact ⟨_,rfl,h⟩
 ·exact h.elim
theorem qip {sc:List It} {f:PVal→Prop} {K:PVal→List It→Prop} (h:tell sc f K):∃ p sc',f p∧K p sc':=by
 unfold tell at h
 split at h
 ·exact ⟨_,_,h⟩
 ·exact h.elim
def CC (P:Program) (GE:List (Nat×List PVal)) (g:FuncId) (args:List PVal) (r:PVal) (ro:List (Nat×TypeId)):Prop:=clL 0 args∧C P GE g args [] [] r ro []
def qz3 (P:Program) (t:TypeId) (es:List (PVal×PVal)) (k:PVal) (ok:Bool):Option PVal :=
 match P.underlying t with
 | some (.map kt e) => match P.underlying kt with
  | some kd =>
   if qjy kd k then
    match qu4 k es 0,qxE P e with
    | some (some (_,v)),_ => some (if ok then .tuple [v,.bool true] else v)
    | some none,some z => some (if ok then .tuple [z,.bool false] else z)
    | _,_ => none
   else none
  | _ => none
 | _ => none
theorem qFt {P:Program} {t:TypeId} {es:List (PVal×PVal)} {k p:PVal} {ok:Bool} {H:List PBox} {i:Nat} (hB:H[i]? = some (.map es)) (h:qz3 P t es k ok = some p):qnW P t (.mapr i) k ok H = some p:=by
 unfold qz3 at h
 unfold qnW
 split at h
 ·rename_i kt e hu
  split at h
  ·rename_i kd hk
   simp only [hu,hB,hk]
   exact h
  ·cases h
 ·cases h
def qCR (P:Program) (t:TypeId) (es:List (PVal×PVal)) (k v:PVal):Option (List (PVal×PVal)) :=
 match P.underlying t with
 | some (.map kt _) => match P.underlying kt with
  | some kd =>
   if qjy kd k then
    match qu4 k es 0 with
    | some (some (j,_)) => some (es.set j (k,v))
    | some none => some (es ++ [(k,v)])
    | none => none
   else none
  | _ => none
 | _ => none
theorem qCH {P:Program} {t:TypeId} {es es':List (PVal×PVal)} {k v:PVal} {H:List PBox} {i:Nat} (hB:H[i]? = some (.map es)) (h:qCR P t es k v = some es'):qdW P t (.mapr i) k v H = some (H.set i (.map es')):=by
 unfold qCR at h
 unfold qdW
 split at h
 ·rename_i kt e hu
  split at h
  ·rename_i kd hk
   simp only [hu,hB,hk]
   split at h
   ·rename_i hkk
    rw [if_pos hkk]
    split at h
    ·rename_i hf; cases h; simp [hf]
    ·rename_i hf; cases h; simp [hf]
    ·cases h
   ·cases h
  ·cases h
 ·cases h
def qj6:List PBox→Nat→(PBox→Prop)→Prop
 | [],_,_ => False
 | B :: _,0,k => k B
 | _ :: l,n + 1,k => qj6 l n k
theorem qcA:∀ {l:List PBox} {n:Nat} {k:PBox→Prop},qj6 l n k→∃ B,l[n]? = some B∧k B
 | [],_,_,h => h.elim
 | B :: _,0,_,h => ⟨B,rfl,h⟩
 | _ :: l,n + 1,k,h => by simp only [qj6] at h; obtain ⟨B,h1,h2⟩:=qcA h; exact ⟨B,by simpa using h1,h2⟩
def qE4 (op:BinOp) (x:PVal):Bool:=match op,x with
 | .quo,_ => true
 | .rem,_ => true
 | .add,.str _ => true
 | _,.agg _ => true
 | _,_ => false
def qFV (P:Program) (GE:List (Nat×List PVal)) (op:Op) (tmps:List PVal) (H:List PBox) (sc:List It) (K:PVal→List PBox→List It→Prop):Prop :=
 match op with
 | .move x => opK GE tmps x fun p => K p H sc
 | .assign x => opK GE tmps x fun p => K p H sc
 | .pick c x y => opK GE tmps c fun pc => match pc with
  | .bool true => opK GE tmps x fun p => K p H sc
  | .bool false => opK GE tmps y fun p => K p H sc
  | _ => False
 | .binOp op T x y _ => opK GE tmps x fun vx => opK GE tmps y fun vy => match qE4 op vx with
  | true => tell sc (fun p => pbin P op T vx vy = some p) fun p sc' => K p H sc'
  | false => know (pbin P op T vx vy) fun p => K p H sc
 | .unOp op _ x => opK GE tmps x fun vx => know (pun op vx) fun p => K p H sc
 | .convert s d x => opK GE tmps x fun vx => tell sc (fun p => qy5 P s d vx = some p) fun p sc' => K p H sc'
 | .extract t i => opK GE tmps t fun vt => know (qmo vt i) fun p => K p H sc
 | .nilCheck x => opK GE tmps x fun vx => match vx with
  | .eptr cs => K (.eptr cs) H sc
  | .bptr i off => K (.bptr i off) H sc
  | .func (.func f) first cap => K (.func (.func f) first cap) H sc
  | _ => False
 | .makeFunc fn first cap => opsK GE tmps first.toList fun f => opsK GE tmps cap.toList fun c => K (.func fn f c) H sc
 | .load t x => opK GE tmps x fun vx => match vx with
  | .eptr cs => tell sc (fun p => qbg P t cs = some p) fun p sc' => K p H sc'
  | .bptr i off => qj6 H i fun B => match B with
   | .cells cs _ => match sc with
    | .s :: sc' => know (qbg P t (cs.drop off)) fun p => K p H sc'
    | .v p :: sc' => qbg P t (cs.drop off) = some p∧K p H sc'
    | _ => False
   | _ => False
  | _ => False
 | .store t x y => opK GE tmps x fun vx => opK GE tmps y fun vy => match vx,sc with
  | .bptr i off,.s :: sc' => match qaJ vy with
   | some vs => qj6 H i fun B => match B with
    | .cells cs own => match decide (vs.length = P.cellsOf t) && (P.info? t).isSome && decide (off + vs.length ≤ cs.length) && vs.all PVal.one with
     | true => qa2 (cs.take off ++ vs ++ cs.drop (off + vs.length)) fun cs' => setK H i (.cells cs' (own.filter fun y => y.1 < off || off + vs.length ≤ y.1)) fun H' => K (.val undef) H' sc'
     | false => False
    | _ => False
   | none => False
  | .bptr i off,.x vs :: sc' => qaJ vy = some vs∧(qj6 H i fun B => match B with
    | .cells cs own => match decide (vs.length = P.cellsOf t) && (P.info? t).isSome && decide (off + vs.length ≤ cs.length) && vs.all PVal.one with
     | true => qa2 (cs.take off ++ vs ++ cs.drop (off + vs.length)) fun cs' => setK H i (.cells cs' (own.filter fun y => y.1 < off || off + vs.length ≤ y.1)) fun H' => K (.val undef) H' sc'
     | false => False
    | _ => False)
  | .bptr i off,.w _ (.cells cs' own') :: sc' => qj6 H i fun B => (qc4 P t (.bptr 0 off) vy [B] = some [.cells cs' own'])∧setK H i (.cells cs' own') fun H' => K (.val undef) H' sc'
  | _,_ => False
 | .fieldAddr s x f => opK GE tmps x fun vx => match vx with
  | .bptr i off => know (qaM P s (.bptr i off) f) fun p => K p H sc
  | vx => tell sc (fun p => qaM P s vx f = some p) fun p sc' => K p H sc'
 | .field t x f => opK GE tmps x fun vx => tell sc (fun p => qCz P t vx f = some p) fun p sc' => K p H sc'
 | .indexAddr t x i => opK GE tmps x fun vx => opK GE tmps i fun vi => tell sc (fun p => qeJ P t vx vi = some p) fun p sc' => K p H sc'
 | .index t x i => opK GE tmps x fun vx => opK GE tmps i fun vi => tell sc (fun p => qBK P t vx vi = some p) fun p sc' => K p H sc'
 | .lookup t m k ok => opK GE tmps m fun vm => opK GE tmps k fun vk => match vm with
  | .mapr i => qj6 H i fun B => match B with
   | .map es => tell sc (fun p => qz3 P t es vk ok = some p) fun p sc' => K p H sc'
   | _ => False
  | _ => False
 | .mapUpdate t m k x => opK GE tmps m fun vm => opK GE tmps k fun vk => opK GE tmps x fun vx => match vm,sc with
  | .mapr i,.w _ (.map es') :: sc' => qj6 H i fun B => match B with
   | .map es => qCR P t es vk vx = some es'∧setK H i (.map es') fun H' => K (.val undef) H' sc'
   | _ => False
  | _,_ => False
 | .slice t x lo hi none => opK GE tmps x fun vx => optK GE tmps lo fun vl => optK GE tmps hi fun vh => tell sc (fun p => qtN P t vx vl vh none = some p) fun p sc' => K p H sc'
 | .build t parts => qpK GE tmps parts.toList fun ps => tell sc (fun p => qbL P t ps = some p) fun p sc' => K p H sc'
 | .buildSlice t len parts => qpK GE tmps parts.toList fun ps => tell sc (fun p => qdp P t len ps = some p) fun p sc' => K p H sc'
 | .call { callee := .builtin .len,args:=⟨[x]⟩,argTypes:=⟨[t]⟩ } => opK GE tmps x fun vx => match vx with
  | .mapr i => qj6 H i fun B => match B with
   | .map es => tell sc (fun p => p = .int .i64 es.length∧(P.underlying t).any (fun d => match d with | .map _ _ => true | _ => false) = true) fun p sc' => K p H sc'
   | _ => False
  | vx => tell sc (fun p => ∀ H,plen P t vx H = some p) fun p sc' => K p H sc'
 | .call { callee := .builtin .max,args:=⟨x :: r⟩,.. } => opK GE tmps x fun vx => opsK GE tmps r fun vr => know (qzP qGa vx vr) fun p => K p H sc
 | .call { callee := .builtin .min,args:=⟨x :: r⟩,.. } => opK GE tmps x fun vx => opsK GE tmps r fun vr => know (qzP qF2 vx vr) fun p => K p H sc
 | _ => False
section
variable {P:Program} {GE:List (Nat×List PVal)}
theorem qD0 {t:TypeId} {off i:Nat} {y:PVal} {H:List PBox} {B:PBox} {cs':List PVal} {own':List (Nat×TypeId)} (hB:H[i]? = some B) (h:qc4 P t (.bptr 0 off) y [B] = some [.cells cs' own']) :
  qc4 P t (.bptr i off) y H = some (H.set i (.cells cs' own')):=by
 unfold qc4 at h ⊢
 split at h
 ·rename_i i' off' vs h1 h2
  cases h1
  simp only [h2]
  change (match (some B:Option PBox) with | some (.cells cs own) => _ | _ => none) = _ at h
  rw [hB]
  split at h
  ·rename_i hb
   cases hb
   simp only
   split at h
   ·rename_i hc
    rw [if_pos hc]
    simp only [List.set_cons_zero,Option.some.injEq,List.cons.injEq,and_true] at h
    rw [h]
   ·cases h
  ·cases h
 ·cases h
theorem qGd (t:TypeId) (id:Nat) (v:Operand→PVal) (x:Operand) (H:List PBox):pev P (.load t x) id v H = (qkH P t (v x) H).map fun p => (p,H):=rfl
theorem qwa {op:Op} {id:Nat} {tmps:List PVal} {H:List PBox} {sc:List It} {K:PVal→List PBox→List It→Prop} (h:qFV P GE op tmps H sc K) :
  ∃ p H' sc',pev P op id (opv GE tmps) H = some (p,H')∧K p H' sc'∧H'.length = H.length:=by
 unfold qFV at h
 split at h
 case h_1 => rw [qbr] at h; exact ⟨_,_,_,rfl,h,rfl⟩
 case h_2 => rw [qbr] at h; exact ⟨_,_,_,rfl,h,rfl⟩
 case h_3 c x y =>
  rw [qbr] at h
  split at h
  ·rename_i hc; rw [qbr] at h; exact ⟨_,_,_,by simp only [pev,hc],h,rfl⟩
  ·rename_i hc; rw [qbr] at h; exact ⟨_,_,_,by simp only [pev,hc],h,rfl⟩
  ·exact h.elim
 case h_4 =>
  simp only [qbr] at h
  split at h
  ·obtain ⟨p,sc',h1,h2⟩:=qip h; exact ⟨p,_,sc',by simp only [pev,h1,Option.map_some],h2,rfl⟩
  ·obtain ⟨p,h1,h2⟩:=qnL h; exact ⟨p,_,_,by simp only [pev,h1,Option.map_some],h2,rfl⟩
 case h_5 => simp only [qbr] at h; obtain ⟨p,h1,h2⟩:=qnL h; exact ⟨p,_,_,by simp only [pev,h1,Option.map_some],h2,rfl⟩
 case h_6 => simp only [qbr] at h; obtain ⟨p,sc',h1,h2⟩:=qip h; exact ⟨p,_,sc',by simp only [pev,h1,Option.map_some],h2,rfl⟩
 case h_7 => simp only [qbr] at h; obtain ⟨p,h1,h2⟩:=qnL h; exact ⟨p,_,_,by simp only [pev,h1,Option.map_some],h2,rfl⟩
 case h_8 =>
  simp only [qbr] at h
  split at h
  ·rename_i hv; exact ⟨_,_,_,by simp only [pev,hv],h,rfl⟩
  ·rename_i hv; exact ⟨_,_,_,by simp only [pev,hv],h,rfl⟩
  ·rename_i hv; exact ⟨_,_,_,by simp only [pev,hv],h,rfl⟩
  ·exact h.elim
 case h_9 => simp only [qm6] at h; exact ⟨_,_,_,rfl,h,rfl⟩
 case h_10 t x =>
  simp only [qbr] at h
  rw [qGd]
  split at h
  ·rename_i cs hv
   obtain ⟨p,sc',h1,h2⟩:=qip h
   exact ⟨p,_,sc',by simp only [hv,qkH,h1,Option.map_some],h2,rfl⟩
  ·rename_i i off hv
   obtain ⟨B,hB,h⟩:=qcA h
   split at h
   ·rename_i cs own
    split at h
    ·obtain ⟨p,h1,h2⟩:=qnL h
     exact ⟨p,_,_,by simp only [hv,qkH,hB,h1,Option.map_some],h2,rfl⟩
    ·exact ⟨_,_,_,by simp only [hv,qkH,hB,h.1,Option.map_some],h.2,rfl⟩
    ·exact h.elim
   ·exact h.elim
  ·exact h.elim
 case h_11 t x y =>
  simp only [qbr] at h
  split at h
  ·rename_i i off sc' hv
   split at h
   ·rename_i vs hvs
    obtain ⟨B,hB,h⟩:=qcA h
    split at h
    ·rename_i cs own
     split at h
     ·rename_i hc
      simp only [qaq,qaV] at h
      simp only [Bool.and_eq_true,decide_eq_true_eq] at hc
      exact ⟨_,_,_,by simp only [pev,qc4,hv,hvs,hB]; rw [if_pos ⟨hc.1.1.1,hc.1.1.2,hc.1.2,hc.2⟩]; rfl,h,by simp⟩
     ·exact h.elim
    ·exact h.elim
   ·exact h.elim
  ·rename_i i off vs sc' hv
   obtain ⟨hvs,h⟩:=h
   obtain ⟨B,hB,h⟩:=qcA h
   split at h
   ·rename_i cs own
    split at h
    ·rename_i hc
     simp only [qaq,qaV] at h
     simp only [Bool.and_eq_true,decide_eq_true_eq] at hc
     exact ⟨_,_,_,by simp only [pev,qc4,hv,hvs,hB]; rw [if_pos ⟨hc.1.1.1,hc.1.1.2,hc.1.2,hc.2⟩]; rfl,h,by simp⟩
    ·exact h.elim
   ·exact h.elim
  ·rename_i i off j cs' own' sc' hv
   obtain ⟨B,hB,h1,h2⟩:=qcA h
   rw [qaV] at h2
   exact ⟨_,_,_,by simp only [pev,hv,qD0 hB h1]; rfl,h2,by simp⟩
  ·exact h.elim
 case h_12 =>
  simp only [qbr] at h
  split at h
  ·rename_i hv
   obtain ⟨p,h1,h2⟩:=qnL h; exact ⟨p,_,_,by simp only [pev,hv,h1,Option.map_some],h2,rfl⟩
  ·obtain ⟨p,sc',h1,h2⟩:=qip h; exact ⟨p,_,sc',by simp only [pev,h1,Option.map_some],h2,rfl⟩
 case h_13 => simp only [qbr] at h; obtain ⟨p,sc',h1,h2⟩:=qip h; exact ⟨p,_,sc',by simp only [pev,h1,Option.map_some],h2,rfl⟩
 case h_14 => simp only [qbr] at h; obtain ⟨p,sc',h1,h2⟩:=qip h; exact ⟨p,_,sc',by simp only [pev,h1,Option.map_some],h2,rfl⟩
 case h_15 => simp only [qbr] at h; obtain ⟨p,sc',h1,h2⟩:=qip h; exact ⟨p,_,sc',by simp only [pev,h1,Option.map_some],h2,rfl⟩
 case h_16 t m k ok =>
  simp only [qbr] at h
  split at h
  ·rename_i i hv
   obtain ⟨B,hB,h⟩:=qcA h
   split at h
   ·rename_i es
    obtain ⟨p,sc',h1,h2⟩:=qip h
    exact ⟨p,_,sc',by simp only [pev,hv,qFt hB h1,Option.map_some],h2,rfl⟩
   ·exact h.elim
  ·exact h.elim
 case h_17 t m k x =>
  simp only [qbr] at h
  split at h
  ·rename_i i j es' sc' hv
   obtain ⟨B,hB,h⟩:=qcA h
   split at h
   ·rename_i es
    obtain ⟨h1,h2⟩:=h
    rw [qaV] at h2
    exact ⟨_,_,_,by simp only [pev,hv,qCH hB h1]; rfl,h2,by simp⟩
   ·exact h.elim
  ·exact h.elim
 case h_18 => simp only [qbr,qHY] at h; obtain ⟨p,sc',h1,h2⟩:=qip h; exact ⟨p,_,sc',by simp only [pev,h1,Option.map_some],h2,rfl⟩
 case h_19 => simp only [qiX] at h; obtain ⟨p,sc',h1,h2⟩:=qip h; exact ⟨p,_,sc',by simp only [pev,h1,Option.map_some],h2,rfl⟩
 case h_20 => simp only [qiX] at h; obtain ⟨p,sc',h1,h2⟩:=qip h; exact ⟨p,_,sc',by simp only [pev,h1,Option.map_some],h2,rfl⟩
 case h_21 x t =>
  simp only [qbr] at h
  split at h
  ·rename_i i hv
   obtain ⟨B,hB,h⟩:=qcA h
   split at h
   ·rename_i es
    obtain ⟨p,sc',⟨rfl,h1⟩,h2⟩:=qip h
    refine ⟨_,_,sc',?_,h2,rfl⟩
    simp only [pev,hv,plen]
    cases hu:P.underlying t with
    | none => rw [hu] at h1; cases h1
    | some d =>
     rw [hu] at h1
     cases d <;> simp at h1
     simp only [hB,Option.map_some]
   ·exact h.elim
  ·obtain ⟨p,sc',h1,h2⟩:=qip h; exact ⟨p,_,sc',by simp only [pev,h1 H,Option.map_some],h2,rfl⟩
 case h_22 => simp only [qbr,qm6] at h; obtain ⟨p,h1,h2⟩:=qnL h; exact ⟨p,_,_,by simp only [pev,h1,Option.map_some],h2,rfl⟩
 case h_23 => simp only [qbr,qm6] at h; obtain ⟨p,h1,h2⟩:=qnL h; exact ⟨p,_,_,by simp only [pev,h1,Option.map_some],h2,rfl⟩
 case h_24 => exact h.elim
end
end Go.Proofs.YtgldgpdhblndkaaGreatDoor
