/-
  WHAT IS PROVED: operations on texts and lists of plain data, and that the abstract machine's operations come to them. No program in sight. Conditions: none.
-/
import Derived.Test.YtgiimiklbabhcaaDoorSatD
namespace Go.Proofs.YtgiimiklbabhcaaDoor
open Go

abbrev Str := List UInt8
abbrev w64 (n : Int) : Int := IntKind.i64.wrap n
def cS (s : Str) : List PVal := [.str s]
def cI (k : IntKind) (n : Int) : List PVal := [.int k n]
def cB (b : Bool) : List PVal := [.bool b]
def sl {α : Type} (c : α → List PVal) (l : List α) : PVal := .slice (l.map c)
def cL {α : Type} (c : α → List PVal) (l : List α) : List PVal := [sl c l]

def idxS (s : Str) (i : Int) : Option Int := (idx s i).map fun c => (c.toNat : Int)
def bd : Option Int → Nat → Option Nat
  | none, d => some d
  | some i, _ => if 0 ≤ i then some i.toNat else none
def slc {α : Type} (l : List α) (lo hi : Option Int) : Option (List α) :=
  match bd lo 0, bd hi l.length with
  | some a, some b => if a ≤ b ∧ b ≤ l.length then some ((l.take b).drop a) else none
  | _, _ => none
def app {α : Type} (l r : List α) : Option (List α) := if l.length + r.length ≤ appMax then some (l ++ r) else none
def cat (a b : Str) : Option Str := if a.length + b.length ≤ lenMax then some (a ++ b) else none
def qu (k : IntKind) (a b : Int) : Option Int := if b = 0 then none else some (k.wrap (a.tdiv b))
def re (a b : Int) : Option Int := if b = 0 then none else some (a.tmod b)

/-- A map with texts as keys, in the order in which the keys came in. -/
def mget {α : Type} (m : List (Str × α)) (k : Str) : Option α := (m.find? fun e => k == e.1).map (·.2)
def mput {α : Type} (m : List (Str × α)) (k : Str) (v : α) : List (Str × α) :=
  match m with
  | [] => [(k, v)]
  | e :: r => if k == e.1 then (k, v) :: r else e :: mput r k v
def encM {α : Type} (f : α → PVal) (m : List (Str × α)) : List (PVal × PVal) := m.map fun e => (.str e.1, f e.2)

def scalD : TypeDesc → Bool
  | .struct _ => false
  | .array _ _ => false
  | _ => true
theorem plook1 {P : Program} {t : TypeId} (h : (P.underlying t).any scalD = true) (p : PVal) (r : List PVal) : plook P t (p :: r) = some p := by
  unfold plook
  split
  · rename_i hu; rw [hu] at h; cases h
  · rename_i hu; rw [hu] at h; cases h
  · rfl
  · rename_i hu; rw [hu] at h; cases h

/-- A slice type and its elements' cells. -/
structure SlT {α : Type} (P : Program) (T e : TypeId) (c : α → List PVal) : Prop where
  hu : P.underlying T = some (.slice e)
  hc : ∀ x, (c x).length = P.cellsOf e
  hi : (P.info? e).isSome = true
  hp : 0 < P.cellsOf e
  hz : (pzero P e).map (·.length) = some (P.cellsOf e)
  hb : P.bytesOf e ≤ 65536
  ho : ∀ x, ∀ q ∈ c x, q.one = true
  cl : ∀ x, clL 0 (c x)

theorem cl_sl {α : Type} {c : α → List PVal} (h : ∀ x, clL 0 (c x)) (l : List α) : (sl c l).cl 0 := by
  unfold sl
  simp only [PVal.cl]
  exact clLL_of fun p hp => by obtain ⟨x, _, rfl⟩ := List.mem_map.1 hp; exact h x
theorem clS (s : Str) : clL 0 (cS s) := ⟨trivial, trivial⟩
theorem clI (k : IntKind) (n : Int) : clL 0 (cI k n) := ⟨trivial, trivial⟩
theorem clB (b : Bool) : clL 0 (cB b) := ⟨trivial, trivial⟩
theorem clLs {α : Type} {c : α → List PVal} (h : ∀ x, clL 0 (c x)) (l : List α) : clL 0 (cL c l) := ⟨cl_sl h l, trivial⟩

theorem idx_some {α : Type} {l : List α} {i : Int} {x : α} (h : idx l i = some x) : 0 ≤ i ∧ l[i.toNat]? = some x := by
  unfold idx at h
  split at h
  · exact ⟨‹_›, h⟩
  · cases h

theorem aI {a b : Prop} (h : a) (h' : b) : a ∧ b := ⟨h, h'⟩
theorem rP (p : PVal) : p = p := rfl
theorem rE (e : Exit) : e = e := rfl
theorem lf {β : Type} {a r : β} (h : some a = some r) : a = r := Option.some.inj h
abbrev u : PVal := .undef
theorem pcS (x : Str) : pcells (.str x) = some (cS x) := rfl
theorem pcI (k : IntKind) (x : Int) : pcells (.int k x) = some (cI k x) := rfl
theorem pcB (x : Bool) : pcells (.bool x) = some (cB x) := rfl
theorem pcL {α : Type} (c : α → List PVal) (x : List α) : pcells (sl c x) = some (cL c x) := rfl
theorem pcA (l : List PVal) : pcells (.agg l) = some l := rfl
theorem oneS (x : Str) : ∀ q ∈ cS x, q.one = true := by intro q hq; simp [cS] at hq; subst hq; rfl
theorem oneI (k : IntKind) (x : Int) : ∀ q ∈ cI k x, q.one = true := by intro q hq; simp [cI] at hq; subst hq; rfl
theorem oneB (x : Bool) : ∀ q ∈ cB x, q.one = true := by intro q hq; simp [cB] at hq; subst hq; rfl
theorem oneL {α : Type} (c : α → List PVal) (x : List α) : ∀ q ∈ cL c x, q.one = true := by intro q hq; simp [cL] at hq; subst hq; rfl

/-- A part of a body. -/
def codeAt : Code → List Bool → Code
  | c, [] => c
  | .seq a b, x :: l => match x with | false => codeAt a l | true => codeAt b l
  | .cond _ a b, x :: l => match x with | false => codeAt a l | true => codeAt b l
  | .block _ c, _ :: l => codeAt c l
  | .loop c, _ :: l => codeAt c l
  | c, _ => c

section
variable {P : Program} {T e : TypeId} {α : Type} {c : α → List PVal}

theorem SlT.ia (s : SlT P T e c) {l : List α} {i : Int} {k : IntKind} {x : α} (h : idx l i = some x) : pindexAddr P T (sl c l) (.int k i) = some (.eptr (c x)) := by
  obtain ⟨h0, h1⟩ := idx_some h
  unfold sl pindexAddr
  simp only [s.hu, if_pos h0, List.getElem?_map, h1, Option.map_some]
  rw [if_pos ⟨s.hc x, s.hi⟩]

theorem SlT.ln (s : SlT P T e c) (l : List α) : ∀ H, plen P T (sl c l) H = some (.int .i64 (l.length : Int)) := fun H => by
  unfold sl plen; simp only [s.hu, List.length_map]

theorem bd_pnat {o : Option Int} {d n : Nat} {k : IntKind} (h : bd o d = some n) : pnat (o.map (PVal.int k)) d = some n := by
  cases o with
  | none => exact h
  | some i => exact h

theorem SlT.sc (s : SlT P T e c) {l r : List α} {lo hi : Option Int} (h : slc l lo hi = some r) : pslice P T (sl c l) (lo.map (PVal.int .i64)) (hi.map (PVal.int .i64)) none = some (sl c r) := by
  unfold slc at h
  split at h
  · rename_i a b h1 h2
    split at h
    · rename_i hb
      cases h
      unfold sl pslice
      simp only [s.hu, bd_pnat h1]
      rw [show (l.map c).length = l.length by simp, bd_pnat h2]
      simp only
      have hx : ∀ x ∈ (l.map c).take 1, x.length = P.cellsOf e := fun x hx => by
        obtain ⟨y, _, rfl⟩ := List.mem_map.1 (List.mem_of_mem_take hx)
        exact s.hc y
      rw [if_pos ⟨hb.1, hb.2, s.hi, hx⟩, List.map_drop, List.map_take]
    · cases h
  · cases h

theorem SlT.ap (s : SlT P T e c) {l r z : List α} (h : app l r = some z) : pappend P T (l.map c) (r.map c) = some (sl c z) := by
  unfold app at h
  split at h
  · cases h
    unfold pappend sl
    simp only [s.hu, List.length_map]
    have h1 : ∀ x ∈ l.map c, x.length = P.cellsOf e := fun x hx => by obtain ⟨y, _, rfl⟩ := List.mem_map.1 hx; exact s.hc y
    have h2 : ∀ x ∈ r.map c, x.length = P.cellsOf e ∧ ∀ q ∈ x, q.one = true := fun x hx => by obtain ⟨y, _, rfl⟩ := List.mem_map.1 hx; exact ⟨s.hc y, s.ho y⟩
    rw [if_pos ⟨‹_›, s.hb, s.hp, s.hz, h1, h2⟩, List.map_append]
  · cases h

theorem pelems_ok {v : α → PVal} {sz : Nat} (hv : ∀ x, pcells (v x) = some (c x)) (hc : ∀ x, (c x).length = sz) : ∀ (l : List α) (i : Nat), pelems sz i ((l.map v).zipIdx i |>.map fun x => (x.2, x.1)) = some (l.map c)
  | [], i => by simp [pelems]
  | x :: l, i => by
    have ih := pelems_ok hv hc l (i + 1)
    simp only [List.map_cons, List.zipIdx_cons, pelems, hv x]
    simp [ih, hc x]

theorem SlT.mk' (s : SlT P T e c) {v : α → PVal} (hv : ∀ x, pcells (v x) = some (c x)) (l : List α) (n : Nat) (hn : (decide (l.length = n) && decide (n * P.cellsOf e ≤ 16777216)) = true) :
    pbuildSlice P T n ((l.map v).zipIdx 0 |>.map fun x => (x.2, x.1)) = some (sl c l) := by
  simp only [Bool.and_eq_true, decide_eq_true_eq] at hn
  unfold pbuildSlice sl
  simp only [s.hu, pelems_ok hv s.hc]
  have hz : (pzero P e).isSome = true := by
    cases h : pzero P e with
    | none => have := s.hz; rw [h] at this; cases this
    | some z => rfl
  rw [if_pos ⟨by simpa using hn.1, hz, s.hp, hn.2, s.hz⟩]

theorem strIx {t : TypeId} (h : P.underlying t = some .string) {s : Str} {i : Int} {k : IntKind} {x : Int} (hx : idxS s i = some x) : pindex P t (.str s) (.int k i) = some (.int .u8 x) := by
  unfold idxS at hx
  cases hi : idx s i with
  | none => rw [hi] at hx; cases hx
  | some b =>
    rw [hi] at hx; cases hx
    obtain ⟨h0, h1⟩ := idx_some hi
    unfold pindex
    simp only [h, if_pos h0, h1, Option.map_some]
theorem arrIx {β : Type} {t e : TypeId} {n : Nat} {v : β → PVal} {l : List β} (h : P.underlying t = some (.array n e)) (h1 : P.cellsOf e = 1) (h2 : (P.info? e).isSome = true) (h3 : (P.underlying e).any scalD = true) (h4 : decide (l.length = n) = true)
    {k : IntKind} {i : Int} {x : β} (hx : idx l i = some x) : pindex P t (.agg (l.map v)) (.int k i) = some (v x) := by
  obtain ⟨h0, hx⟩ := idx_some hx
  have hlt : i.toNat < l.length := (List.getElem?_eq_some_iff.1 hx).1
  have hl : l.length = n := by simpa using h4
  unfold pindex
  simp only [h]
  rw [if_pos ⟨h0, by omega, h2⟩, h1, Nat.mul_one, List.drop_eq_getElem_cons (by simpa using hlt)]
  rw [plook1 h3]
  simp only [List.getElem_map]
  rw [List.getElem?_eq_getElem hlt] at hx
  cases hx; rfl
theorem strLn {t : TypeId} (h : P.underlying t = some .string) (s : Str) : ∀ H, plen P t (.str s) H = some (.int .i64 (s.length : Int)) := fun H => by unfold plen; simp only [h]
theorem strSc {t : TypeId} (ht : P.underlying t = some .string) {l r : Str} {lo hi : Option Int} (h : slc l lo hi = some r) : pslice P t (.str l) (lo.map (PVal.int .i64)) (hi.map (PVal.int .i64)) none = some (.str r) := by
  unfold slc at h
  split at h
  · rename_i a b h1 h2
    split at h
    · rename_i hb
      cases h
      unfold pslice
      simp only [ht, bd_pnat h1, bd_pnat h2]
      rw [if_pos hb]
    · cases h
  · cases h
theorem strCat {t : TypeId} {a b z : Str} (h : cat a b = some z) : pbin P .add t (.str a) (.str b) = some (.str z) := by
  unfold cat at h
  unfold pbin pstr
  split at h
  · cases h; simp only; rw [if_pos ‹_›]
  · cases h
theorem binQu {t : TypeId} {k : IntKind} {a b z : Int} (h : qu k a b = some z) : pbin P .quo t (.int k a) (.int k b) = some (.int k z) := by
  unfold qu at h
  split at h
  · cases h
  · rename_i hb; cases h; simp only [pbin, pint, if_true, if_neg hb]
theorem binRe {t : TypeId} {k : IntKind} {a b z : Int} (h : re a b = some z) : pbin P .rem t (.int k a) (.int k b) = some (.int k z) := by
  unfold re at h
  split at h
  · cases h
  · rename_i hb; cases h; simp only [pbin, pint, if_true, if_neg hb]
theorem cvI {s d : TypeId} {k k' : IntKind} (h1 : P.underlying s = some (.int k)) (h2 : P.underlying d = some (.int k')) (n : Int) : pconv P s d (.int k n) = some (.int k' (k'.wrap n)) := by simp only [pconv, h1, h2]
def bytesStr : List Int → Option Str
  | [] => some []
  | n :: r => if 0 ≤ n ∧ n < 256 then (bytesStr r).map (UInt8.ofNat n.toNat :: ·) else none
theorem pbytes_map : ∀ (l : List Int), pbytes (l.map (cI .u8)) = bytesStr l
  | [] => rfl
  | n :: r => by simp only [List.map_cons, cI, pbytes, bytesStr]; rw [← pbytes_map r]
theorem cvB {s d e : TypeId} (h1 : P.underlying s = some (.slice e)) (h2 : P.underlying d = some .string) (h3 : P.underlying e = some (.int .u8)) {l : List Int} {r : Str} (h : bytesStr l = some r) : pconv P s d (sl (cI .u8) l) = some (.str r) := by
  unfold sl pconv
  simp only [h1, h2, h3, pbytes_map, h, Option.map_some]
theorem cvS {s d : TypeId} (h1 : P.underlying s = some .string) (h2 : P.underlying d = some .string) (x : Str) : pconv P s d (.str x) = some (.str x) := by simp only [pconv, h1, h2]

theorem pfind_mget {f : α → PVal} (k : Str) : ∀ (m : List (Str × α)) (i : Nat), pfind (.str k) (encM f m) i = some (match mget m k with
    | none => none
    | some v => some (i + (m.findIdx fun e => k == e.1), f v))
  | [], i => by simp [encM, pfind, mget]
  | e :: m, i => by
    have ih := pfind_mget (f := f) k m (i + 1)
    unfold encM at ih ⊢
    simp only [List.map_cons, pfind, pkeyEq]
    unfold mget at ih ⊢
    by_cases h : (k == e.1) = true
    · simp [h, List.findIdx_cons]
    · have h' : (k == e.1) = false := by simpa using h
      simp only [h', List.find?_cons, ih, List.findIdx_cons]
      cases hm : (List.find? (fun e => k == e.1) m) with
      | none => simp
      | some v => simp; omega

theorem mapGet {t kt et : TypeId} {f : α → PVal} (h1 : P.underlying t = some (.map kt et)) (h2 : P.underlying kt = some .string) {z : α} (hz : pzeroV P et = some (f z)) (m : List (Str × α)) (k : Str) :
    plookE P t (encM f m) (.str k) false = some (f ((mget m k).getD z)) := by
  unfold plookE
  simp only [h1, h2, keyKind, if_true, pfind_mget]
  cases mget m k with
  | none => simp [hz]
  | some v => simp
theorem mapGet2 {t kt et : TypeId} {f : α → PVal} (h1 : P.underlying t = some (.map kt et)) (h2 : P.underlying kt = some .string) {z : α} (hz : pzeroV P et = some (f z)) (m : List (Str × α)) (k : Str) :
    plookE P t (encM f m) (.str k) true = some (.tuple [f ((mget m k).getD z), .bool (mget m k).isSome]) := by
  unfold plookE
  simp only [h1, h2, keyKind, if_true, pfind_mget]
  cases mget m k with
  | none => simp [hz]
  | some v => simp
theorem mput_eq (f : α → PVal) (k : Str) (v : α) : ∀ (m : List (Str × α)), encM f (mput m k v) = match mget m k with
    | none => encM f m ++ [(.str k, f v)]
    | some _ => (encM f m).set (m.findIdx fun e => k == e.1) (.str k, f v)
  | [] => by simp [mput, mget, encM]
  | e :: m => by
    have ih := mput_eq f k v m
    unfold mget at ih ⊢
    unfold encM at ih ⊢
    by_cases h : (k == e.1) = true
    · simp [mput, h, List.findIdx_cons]
    · have h' : (k == e.1) = false := by simpa using h
      simp only [mput, h', List.find?_cons, List.findIdx_cons, List.map_cons]
      simp only [Bool.false_eq_true, if_false, List.map_cons, ih]
      cases (List.find? (fun e => k == e.1) m) with
      | none => simp
      | some v => simp
theorem mapPut {t kt et : TypeId} {f : α → PVal} (h1 : P.underlying t = some (.map kt et)) (h2 : P.underlying kt = some .string) (m : List (Str × α)) (k : Str) (v : α) :
    pmapE P t (encM f m) (.str k) (f v) = some (encM f (mput m k v)) := by
  unfold pmapE
  simp only [h1, h2, keyKind, if_true, pfind_mget, mput_eq]
  cases mget m k with
  | none => simp
  | some w => simp
end
end Go.Proofs.YtgiimiklbabhcaaDoor
