/-
  WHAT IS PROVED: the equations by which 'simp' runs a body in the abstract machine, one for each kind of operation on values of the forms that are met. No program in sight. Conditions: none.
-/
import Derived.Test.YtgiimiklbabhcaaDoorAbsS
namespace Go.Proofs.YtgiimiklbabhcaaDoor
open Go

attribute [simp] runW_skip runW_label runW_text runW_seq runW_cond runW_block runW_exit runW_ret loopQ_exit loopQ_ret onBool_true onBool_false onGuard_tt onGuard_tf onGuard_ft onGuard_ff onGuard_other
attribute [simp] pguardT pstep_def fdo_call fdo pdo pev fev opv pint pstr pboolOp pun goOn_def goOn_none goF_def callOk nilElem absV absC thenP blockP dropT renOwn makesBox pextract lookupG

/-- The check of a drawn region's edges, not to be looked into. -/
def drawR (P : Program) (ops : Array Oper) (n : Nat) : Prop := drawOK P ops n = true
@[simp] theorem runW_drawR (P : Program) (GE : List (Nat × List PVal)) (A : List Nat) (m : Nat) (Q : Exit → PSt → Prop) (tmps : List PVal) (boxes : List PBox) (own : List ((Nat × Nat) × TypeId)) (id : Nat) (ops : Array Oper) :
    runW P GE A m (.region id ops true) Q ⟨tmps, boxes, own⟩ = (drawR P ops tmps.length ∧ runF P GE ops (Q .normal) ops.toList boxes.length ⟨tmps, boxes ++ preBoxes P ops.toList, own.filter fun x => ops.toList.all fun o => o.dst != some x.1.1⟩) := propext ⟨fun h => h, fun h => h⟩

section
variable (P : Program) (GE : List (Nat × List PVal)) (A : List Nat) (ops : Array Oper) (K : PSt → Prop) (tmps : List PVal) (boxes : List PBox) (own : List ((Nat × Nat) × TypeId)) (id : Nat)
  (dst : Option Tmp) (op : Op) (ty : TypeId) (pos : String) (aft : Array Edge) (rest : List Oper)

/-- The boxes of one operation. -/
def preOf (P : Program) : Op → List PBox
  | .alloc t => [match pzero P t with
    | some zs => .cells zs (pzown P t)
    | none => .dead]
  | .box .. => [.dead]
  | .makeMap .. => [.map []]
  | _ => []
@[simp] theorem preBoxes_nil : preBoxes P [] = [] := rfl
@[simp] theorem preBoxes_cons (gd : Option (Nat × Bool)) : preBoxes P (⟨dst, op, ty, pos, aft, gd⟩ :: rest) = preOf P op ++ preBoxes P rest := by
  cases op <;> rfl
attribute [simp] preOf

@[simp] theorem runT_nil : runT P GE A ops K [] id ⟨tmps, boxes, own⟩ = K ⟨tmps, boxes, own⟩ := rfl
@[simp] theorem runT_none : runT P GE A ops K (⟨dst, op, ty, pos, aft, none⟩ :: rest) id ⟨tmps, boxes, own⟩ =
    pstep P GE A ⟨dst, op, ty, pos, aft, none⟩ id (runT P GE A ops K rest (id + if makesBox op then 1 else 0)) ⟨tmps, boxes, own⟩ := rfl
@[simp] theorem runT_some (j : Nat) (want : Bool) : runT P GE A ops K (⟨dst, op, ty, pos, aft, some (j, want)⟩ :: rest) id ⟨tmps, boxes, own⟩ =
    onGuard (pguardT ops tmps j) want (pstep P GE A ⟨dst, op, ty, pos, aft, some (j, want)⟩ id (runT P GE A ops K rest (id + if makesBox op then 1 else 0)))
      (skipTo dst (runT P GE A ops K rest (id + if makesBox op then 1 else 0))) ⟨tmps, boxes, own⟩ := rfl
@[simp] theorem runF_nil : runF P GE ops K [] id ⟨tmps, boxes, own⟩ = K ⟨tmps, boxes, own⟩ := propext ⟨fun h => h, fun h => h⟩
@[simp] theorem runF_none : runF P GE ops K (⟨dst, op, ty, pos, aft, none⟩ :: rest) id ⟨tmps, boxes, own⟩ =
    fstep P GE ⟨dst, op, ty, pos, aft, none⟩ id (runF P GE ops K rest (id + if makesBox op then 1 else 0)) ⟨tmps, boxes, own⟩ := propext ⟨fun h => h, fun h => h⟩
@[simp] theorem runF_some (j : Nat) (want : Bool) : runF P GE ops K (⟨dst, op, ty, pos, aft, some (j, want)⟩ :: rest) id ⟨tmps, boxes, own⟩ =
    onGuard (pguardT ops tmps j) want (fstep P GE ⟨dst, op, ty, pos, aft, some (j, want)⟩ id (runF P GE ops K rest (id + if makesBox op then 1 else 0)))
      (skipTo dst (runF P GE ops K rest (id + if makesBox op then 1 else 0))) ⟨tmps, boxes, own⟩ := propext ⟨fun h => h, fun h => h⟩
@[simp] theorem fstep_def (gd : Option (Nat × Bool)) : fstep P GE ⟨dst, op, ty, pos, aft, gd⟩ id K ⟨tmps, boxes, own⟩ = fdo P GE op id (opv GE tmps) boxes (goF K ⟨tmps, boxes, own⟩ dst) := propext ⟨fun h => h, fun h => h⟩
@[simp] theorem skipTo_def (d : Tmp) : skipTo (some d) K ⟨tmps, boxes, own⟩ = K ⟨tmps.set d (.val undef), boxes, dropT d own⟩ := rfl

end

/-- A text's byte, a list's text. -/
def ch (s : List UInt8) (i : Nat) : Nat := (s.getD i 0).toNat
def nth (l : List (List UInt8)) (i : Nat) : List UInt8 := l.getD i []

section
variable {P : Program} {t e : TypeId}

@[simp] theorem gres_bool (t : Nat) (b : Bool) : gres t (.bool b) = .is t b := rfl
@[simp] theorem gres_undef (t : Nat) : gres t (.val undef) = .other := rfl
@[simp] theorem gres_int (t : Nat) (k : IntKind) (n : Int) : gres t (.int k n) = .other := rfl
@[simp] theorem gres_str (t : Nat) (s : List UInt8) : gres t (.str s) = .other := rfl
@[simp] theorem pbin_int (op : BinOp) (T : TypeId) (k : IntKind) (a b : Int) : pbin P op T (.int k a) (.int k b) = pint op k a b := by simp [pbin]
@[simp] theorem pbin_str (op : BinOp) (T : TypeId) (a b : List UInt8) : pbin P op T (.str a) (.str b) = pstr op a b := rfl
theorem pbin_bool (op : BinOp) (T : TypeId) (a b : Bool) (h : P.underlying T = some .bool) : pbin P op T (.bool a) (.bool b) = pboolOp op a b := by simp [pbin, h]

theorem plen_str (H : List PBox) (s : List UInt8) (h : P.underlying t = some .string) : plen P t (.str s) H = some (.int .i64 s.length) := by simp [plen, h]
theorem plen_slice (H : List PBox) (es : List (List PVal)) (h : P.underlying t = some (.slice e)) : plen P t (.slice es) H = some (.int .i64 es.length) := by simp [plen, h]
theorem plen_strs (H : List PBox) (l : List (List UInt8)) (h : P.underlying t = some (.slice e)) : plen P t (strs l) H = some (.int .i64 l.length) := by simp [plen, strs, h]
theorem pindexAddr_strs (l : List (List UInt8)) (q : IntKind) (i : Nat) (h : P.underlying t = some (.slice e)) (hc : P.cellsOf e = 1) (hi : (P.info? e).isSome = true) (hl : i < l.length) :
    pindexAddr P t (strs l) (.int q i) = some (.eptr [.str (nth l i)]) := by
  simp [pindexAddr, strs, nth, h, hc, hi, hl]
theorem pindexAddr_strs0 (l : List (List UInt8)) (q : IntKind) (h : P.underlying t = some (.slice e)) (hc : P.cellsOf e = 1) (hi : (P.info? e).isSome = true) (hl : 0 < l.length) :
    pindexAddr P t (strs l) (.int q 0) = some (.eptr [.str (nth l 0)]) := pindexAddr_strs l q 0 h hc hi hl
theorem pload_str (s : List UInt8) (H : List PBox) (r : List PVal) (h : P.underlying t = some .string) : pload P t (.eptr (.str s :: r)) H = some (.str s) := by simp [pload, plook, h]
theorem pload_int (q q' : IntKind) (n : Int) (H : List PBox) (r : List PVal) (h : P.underlying t = some (.int q')) : pload P t (.eptr (.int q n :: r)) H = some (.int q n) := by simp [pload, plook, h]
theorem pload_bool (b : Bool) (H : List PBox) (r : List PVal) (h : P.underlying t = some .bool) : pload P t (.eptr (.bool b :: r)) H = some (.bool b) := by simp [pload, plook, h]
theorem pindex_str (s : List UInt8) (q : IntKind) (i : Nat) (h : P.underlying t = some .string) (hl : i < s.length) : pindex P t (.str s) (.int q i) = some (.int .u8 (ch s i)) := by
  simp [pindex, ch, h, hl]
theorem pindex_str0 (s : List UInt8) (q : IntKind) (h : P.underlying t = some .string) (hl : 0 < s.length) : pindex P t (.str s) (.int q 0) = some (.int .u8 (ch s 0)) := pindex_str s q 0 h hl

end

section
variable (k n : Nat)
@[simp] theorem ilit_le : ((no_index (@OfNat.ofNat Int k instOfNat)) ≤ (n : Int)) = (@OfNat.ofNat Nat k (instOfNatNat k) ≤ n) := propext ⟨fun h => Int.ofNat_le.1 h, fun h => Int.ofNat_le.2 h⟩
@[simp] theorem ile_lit : ((n : Int) ≤ (no_index (@OfNat.ofNat Int k instOfNat))) = (n ≤ @OfNat.ofNat Nat k (instOfNatNat k)) := propext ⟨fun h => Int.ofNat_le.1 h, fun h => Int.ofNat_le.2 h⟩
@[simp] theorem ilit_lt : ((no_index (@OfNat.ofNat Int k instOfNat)) < (n : Int)) = (@OfNat.ofNat Nat k (instOfNatNat k) < n) := propext ⟨fun h => Int.ofNat_lt.1 h, fun h => Int.ofNat_lt.2 h⟩
@[simp] theorem ilt_lit : ((n : Int) < (no_index (@OfNat.ofNat Int k instOfNat))) = (n < @OfNat.ofNat Nat k (instOfNatNat k)) := propext ⟨fun h => Int.ofNat_lt.1 h, fun h => Int.ofNat_lt.2 h⟩
@[simp] theorem ilit_eq : ((no_index (@OfNat.ofNat Int k instOfNat)) = (n : Int)) = (@OfNat.ofNat Nat k (instOfNatNat k) = n) := propext ⟨fun h => Int.ofNat_inj.1 h, fun h => congrArg Int.ofNat h⟩
@[simp] theorem ieq_lit : ((n : Int) = (no_index (@OfNat.ofNat Int k instOfNat))) = (n = @OfNat.ofNat Nat k (instOfNatNat k)) := propext ⟨fun h => Int.ofNat_inj.1 h, fun h => congrArg Int.ofNat h⟩
/-- A counter goes up. -/
theorem wrap_up (h : n < 4611686018427387904) : IntKind.i64.wrap ((n : Int) + 1) = ((n + 1 : Nat) : Int) := by
  rw [wrap64] <;> omega
end

/-- An array of texts. -/
def aggs (l : List (List UInt8)) : PVal := .agg (l.map .str)
theorem pload_aggs {P : Program} {t e : TypeId} {n : Nat} (l : List (List UInt8)) (H : List PBox) (h : P.underlying t = some (.array n e)) (hc : P.cellsOf t = l.length) : pload P t (.eptr (l.map .str)) H = some (aggs l) := by
  simp [pload, plook, h, hc, aggs]
  rw [List.take_of_length_le (by simp)]
theorem pindex_aggs {P : Program} {t e : TypeId} {n : Nat} (l : List (List UInt8)) (q : IntKind) (i : Nat) (h : P.underlying t = some (.array n e)) (he : P.underlying e = some .string) (hc : P.cellsOf e = 1) (hi : (P.info? e).isSome = true) (hn : i < n) (hl : n = l.length) :
    pindex P t (aggs l) (.int q i) = some (.str (nth l i)) := by
  subst hl
  have h1 : (i : Int) < l.length := by omega
  simp [pindex, aggs, h, he, hc, hi, h1, plook, nth, hn]

@[simp] theorem strs_cl (n : Nat) (l : List (List UInt8)) : (strs l).cl n = True := by
  simp only [strs, PVal.cl, eq_iff_iff, iff_true]
  induction l with
  | nil => simp [clLL]
  | cons s l ih => simp [clLL, clL, PVal.cl, ih]

@[simp] theorem aggs_cl (n : Nat) (l : List (List UInt8)) : (aggs l).cl n = True := by
  simp only [aggs, PVal.cl, eq_iff_iff, iff_true]
  induction l with
  | nil => simp [clL]
  | cons s l ih => simp [clL, PVal.cl, ih]

@[simp] theorem strs_nil : PVal.slice [] = strs [] := rfl

theorem take_succ_getD {α : Type} (l : List α) (i : Nat) (d : α) (h : i < l.length) : l.take (i + 1) = l.take i ++ [l.getD i d] := by
  rw [List.take_add_one]; simp [h]

section
variable {P : Program} {t e : TypeId}
theorem pslice_to (s : List UInt8) (q : IntKind) (j : Nat) (h : P.underlying t = some .string) (hj : j ≤ s.length) : pslice P t (.str s) none (some (.int q j)) none = some (.str (s.take j)) := by
  simp [pslice, pnat, h, hj]
theorem pslice_from (s : List UInt8) (q : IntKind) (i : Nat) (h : P.underlying t = some .string) (hi : i ≤ s.length) : pslice P t (.str s) (some (.int q i)) none none = some (.str (s.drop i)) := by
  simp [pslice, pnat, h, hi]
theorem pslice_from1 (s : List UInt8) (q : IntKind) (i : Nat) (h : P.underlying t = some .string) (hi : i < s.length) : pslice P t (.str s) (some (.int q ((i : Int) + 1))) none none = some (.str (s.drop (i + 1))) := by
  have := pslice_from (P := P) (t := t) s q (i + 1) h (by omega)
  simpa using this
theorem pslice_mid (s : List UInt8) (q q' : IntKind) (i j : Nat) (h : P.underlying t = some .string) (hi : i ≤ j) (hj : j ≤ s.length) : pslice P t (.str s) (some (.int q i)) (some (.int q' j)) none = some (.str ((s.take j).drop i)) := by
  simp [pslice, pnat, h, hi, hj]
theorem pslice_strs (l : List (List UInt8)) (q : IntKind) (i : Nat) (h : P.underlying t = some (.slice e)) (hc : P.cellsOf e = 1) (hi : (P.info? e).isSome = true) (hj : i ≤ l.length) : pslice P t (strs l) (some (.int q i)) none none = some (strs (l.drop i)) := by
  have hx : ∀ x ∈ (l.map fun s => [PVal.str s]).take 1, x.length = P.cellsOf e := by
    intro x hx
    have := List.mem_of_mem_take hx
    simp only [List.mem_map] at this
    obtain ⟨s, _, rfl⟩ := this
    simp [hc]
  simp only [pslice, strs, h, pnat]
  simp [hi, hj, List.map_drop]
  refine ⟨hx, ?_⟩
  rw [List.take_of_length_le (by simp)]
theorem pslice_strs1 (l : List (List UInt8)) (q : IntKind) (h : P.underlying t = some (.slice e)) (hc : P.cellsOf e = 1) (hi : (P.info? e).isSome = true) (hj : 1 ≤ l.length) : pslice P t (strs l) (some (.int q 1)) none none = some (strs (l.drop 1)) := pslice_strs l q 1 h hc hi hj
theorem pbuild_str1 (s : List UInt8) (h : P.underlying t = some (.slice e)) (hc : P.cellsOf e = 1) (hz : (pzero P e).map (·.length) = some 1) : pbuildSlice P t 1 [(0, .str s)] = some (strs [s]) := by
  have hz' : (pzero P e).isSome = true := by cases hx : pzero P e <;> simp [hx] at hz ⊢
  simp [pbuildSlice, pelems, pcells, PVal.one, h, hc, hz, hz', strs, -strs_nil]
theorem pbuild_str0 (h : P.underlying t = some (.slice e)) (hc : P.cellsOf e = 1) (hz : (pzero P e).map (·.length) = some 1) : pbuildSlice P t 0 [] = some (strs []) := by
  have hz' : (pzero P e).isSome = true := by cases hx : pzero P e <;> simp [hx] at hz ⊢
  simp [pbuildSlice, pelems, h, hc, hz, hz', strs, -strs_nil]

/-- An append, by its operands. -/
def pappV (P : Program) (T : TypeId) (x y : PVal) : Option (TypeId × PVal) :=
  match P.underlying T, x, y with
  | some (.slice e), .slice es, .slice ns => (pappend P T es ns).map fun p => (e, p)
  | _, _, _ => none
theorem pappV_strs (l m : List (List UInt8)) (h : P.underlying t = some (.slice e)) (hc : P.cellsOf e = 1) (hz : (pzero P e).map (·.length) = some 1) (hb : P.bytesOf e ≤ 65536) (hl : l.length + m.length ≤ appMax) :
    pappV P t (strs l) (strs m) = some (e, strs (l ++ m)) := by
  have h1 : ∀ x ∈ l.map (fun s => [PVal.str s]), x.length = P.cellsOf e := by
    intro x hx
    simp only [List.mem_map] at hx
    obtain ⟨s, _, rfl⟩ := hx
    simp [hc]
  have h2 : ∀ x ∈ m.map (fun s => [PVal.str s]), x.length = P.cellsOf e ∧ ∀ q ∈ x, q.one = true := by
    intro x hx
    simp only [List.mem_map] at hx
    obtain ⟨s, _, rfl⟩ := hx
    simp [hc, PVal.one]
  have hp : pappend P t (l.map fun s => [.str s]) (m.map fun s => [.str s]) = some (.slice (l.map (fun s => [.str s]) ++ m.map fun s => [.str s])) := by
    simp only [pappend, h]
    rw [if_pos ⟨by simpa using hl, hb, by omega, by rw [hz, hc], h1, h2⟩]
  simp [pappV, strs, h, hp]
@[simp high] theorem pstep_append (GE : List (Nat × List PVal)) (A : List Nat) (K : PSt → Prop) (tmps : List PVal) (boxes : List PBox) (own : List ((Nat × Nat) × TypeId)) (id d tt : Nat) (y : Operand) (T T' ty : TypeId) (pos : String) (aft : Array Edge) (gd : Option (Nat × Bool)) :
    pstep P GE A ⟨some d, .call { callee := .builtin .append, args := #[.tmp tt, y], argTypes := #[T, T'] }, ty, pos, aft, gd⟩ id K ⟨tmps, boxes, own⟩ =
      (match pappV P T (tmps.getD tt .undef) (opv GE tmps y) with
      | some (e, p) => T = T' ∧ d < tmps.length ∧ ((tt, 0), e) ∈ own ∧ K ⟨tmps.set d p, boxes, ((d, 0), e) :: dropT d (own.filter fun x => x.1 != (tt, 0))⟩
      | none => False) := by
  show (match P.underlying T, tmps.getD tt .undef, opv GE tmps y with
    | some (.slice e), .slice es, .slice ns => match pappend P T es ns with
      | some p => T = T' ∧ d < tmps.length ∧ ((tt, 0), e) ∈ own ∧ K ⟨tmps.set d p, boxes, ((d, 0), e) :: dropT d (own.filter fun x => x.1 != (tt, 0))⟩
      | none => False
    | _, _, _ => False) = _
  unfold pappV
  split
  · rename_i e es ns h1 h2 h3
    cases pappend P T es ns <;> rfl
  · rfl
end

/-- A test at all places from one to another. -/
def allAt (q : Nat → Bool) (i n : Nat) : Bool := (List.range n).all fun j => decide (j < i) || q j
theorem allAt_iff {q : Nat → Bool} {i n : Nat} : allAt q i n = true ↔ ∀ j, i ≤ j → j < n → q j = true := by
  simp only [allAt, List.all_eq_true, List.mem_range, Bool.or_eq_true, decide_eq_true_eq]
  exact ⟨fun h j h1 h2 => (h j h2).resolve_left (by omega), fun h j h2 => by
    by_cases h1 : j < i
    · exact .inl h1
    · exact .inr (h j (by omega) h2)⟩
theorem allAt_end (q : Nat → Bool) {i n : Nat} (h : n ≤ i) : allAt q i n = true := allAt_iff.2 fun j h1 h2 => by omega
theorem allAt_step (q : Nat → Bool) {i n : Nat} (h : i < n) : allAt q i n = (q i && allAt q (i + 1) n) := by
  rw [Bool.eq_iff_iff, Bool.and_eq_true, allAt_iff, allAt_iff]
  refine ⟨fun hh => ⟨hh i (Nat.le_refl _) h, fun j h1 h2 => hh j (by omega) h2⟩, fun hh j h1 h2 => ?_⟩
  by_cases hj : j = i
  · subst hj; exact hh.1
  · exact hh.2 j (by omega) h2
theorem allAt_last (q : Nat → Bool) {i n : Nat} (h : i ≤ n) : allAt q i (n + 1) = (allAt q i n && q n) := by
  rw [Bool.eq_iff_iff, Bool.and_eq_true, allAt_iff, allAt_iff]
  refine ⟨fun hh => ⟨fun j h1 h2 => hh j h1 (by omega), hh n h (by omega)⟩, fun hh j h1 h2 => ?_⟩
  by_cases hj : j = n
  · subst hj; exact hh.2
  · exact hh.1 j h1 (by omega)

/-- The first place of a text in a list from a place on, or -1. -/
def findAt (s : List UInt8) : List (List UInt8) → Nat → Int
  | [], _ => -1
  | x :: r, i => if x = s then i else findAt s r (i + 1)
theorem findAt_cons' (s x : List UInt8) (r : List (List UInt8)) (i : Nat) : findAt s (x :: r) i = if s = x then (i : Int) else findAt s r (i + 1) := by
  simp only [findAt, eq_comm]
theorem findAt_ge (s : List UInt8) : ∀ (l : List (List UInt8)) (i : Nat), findAt s l i = -1 ∨ (i : Int) ≤ findAt s l i
  | [], i => .inl rfl
  | x :: r, i => by
    simp only [findAt]
    split
    · exact .inr (by omega)
    · rcases findAt_ge s r (i + 1) with h | h
      · exact .inl h
      · exact .inr (by omega)
theorem drop_cons (l : List (List UInt8)) {i : Nat} (h : i < l.length) : l.drop i = nth l i :: l.drop (i + 1) := by
  rw [List.drop_eq_getElem_cons h, nth, List.getD_eq_getElem?_getD, List.getElem?_eq_getElem h]; rfl

end Go.Proofs.YtgiimiklbabhcaaDoor
