/-
  WHAT IS PROVED: structs and lists written out, lengths, the greatest of numbers, maps, appends in the abstract machine, and that the model's operations do the same. No program in sight. Conditions: none.
-/
import Derived.Test.YtgiimiklbabhcaaDoorAbsH
namespace Go.Proofs.YtgiimiklbabhcaaDoor
open Go

def keyKind (kd : TypeDesc) (k : PVal) : Bool := match kd, k with | .string, .str _ => true | .int q, .int q' _ => decide (q = q') | _, _ => false
def pzeroV (P : Program) (t : TypeId) : Option PVal := ((P.info? t).bind (·.zero)).map absV

/-- Two keys of a map: the same text or number. -/
def pkeyEq : PVal → PVal → Option Bool
  | .str a, .str b => some (a == b)
  | .int k a, .int k' b => if k = k' then some (a == b) else none
  | _, _ => none
def pfind (k : PVal) : List (PVal × PVal) → Nat → Option (Option (Nat × PVal))
  | [], _ => some none
  | (x, v) :: r, i => match pkeyEq k x with
    | some true => some (some (i, v))
    | some false => pfind k r (i + 1)
    | none => none
def plookup (P : Program) (t : TypeId) (m k : PVal) (ok : Bool) (H : List PBox) : Option PVal :=
  match P.underlying t, m with
  | some (.map kt e), .mapr i => match H[i]?, P.underlying kt with
    | some (.map es), some kd =>
      if keyKind kd k then
        match pfind k es 0, pzeroV P e with
        | some (some (_, v)), _ => some (if ok then .tuple [v, .bool true] else v)
        | some none, some z => some (if ok then .tuple [z, .bool false] else z)
        | _, _ => none
      else none
    | _, _ => none
  | _, _ => none
def pmapUpdate (P : Program) (t : TypeId) (m k v : PVal) (H : List PBox) : Option (List PBox) :=
  match P.underlying t, m with
  | some (.map kt _), .mapr i => match H[i]?, P.underlying kt with
    | some (.map es), some kd =>
      if keyKind kd k then
        match pfind k es 0 with
        | some (some (j, _)) => some (H.set i (.map (es.set j (k, v))))
        | some none => some (H.set i (.map (es ++ [(k, v)])))
        | none => none
      else none
    | _, _ => none
  | _, _ => none

section
variable {P : Program} {E : Ent} {Γ : Ghost} {bs : Boxes} {ow : Nat → Option Loc} {w : World} {a : Array Value} {st : PSt}

theorem pbuild_run {t : TypeId} {parts : List (Nat × PVal)} {vs : List (Nat × Value)} {p : PVal} (hl : parts.length = vs.length)
    (hv : ∀ (j : Nat) p v, parts[j]? = some p → vs[j]? = some v → p.1 = v.1 ∧ VR Γ bs w p.2 v.2) (h : pbuild P t parts = some p) :
    ∃ v, (Instr.build t vs.toArray).run P w = .ok v w ∧ VR Γ bs w p v := by
  unfold pbuild at h
  split at h
  · rename_i fs zs ht hz
    obtain ⟨z, hr, rfl, i, hi, hz'⟩ := run_zero_of (w := w) hz
    split at h
    · rename_i hall
      simp only [Option.map_eq_some_iff] at h
      obtain ⟨out, ho, rfl⟩ := h
      have hplaces : ∀ (l : List Field), (∀ f ∈ l, (P.info? f.type).isSome = true) → (l.mapM fun f => do pure (f.offset, ← sizeOf f.type) : Sem (List (Nat × Nat))).run P w = .ok (l.map fun f => (f.offset, P.cellsOf f.type)) w := by
        intro l hl
        induction l with
        | nil => simp
        | cons f l ih =>
          obtain ⟨inf, hinf⟩ := Option.isSome_iff_exists.1 (hl f (by simp))
          have := ih fun g hg => hl g (by simp [hg])
          simp only [List.mapM_cons, Sem.run_bind, run_sizeOf w hinf, Result.andThen_ok, this, Sem.run_pure, List.map_cons]
      have hp : (fs.mapM fun f => do pure (f.offset, ← sizeOf f.type) : Sem (Array (Nat × Nat))).run P w = .ok (fs.map fun f => (f.offset, P.cellsOf f.type)) w := by
        rw [Array.mapM_eq_mapM_toList]
        simp only [Sem.run_map]
        rw [hplaces fs.toList fun f hf => by
          have := Array.all_eq_true_iff_forall_mem.1 hall f (by simpa using hf)
          simpa using this]
        simp only [Result.andThen_ok]
        exact congrArg (fun x => Result.ok x w) (Array.ext' (by simp))
      obtain ⟨ov, r1, r2, r3⟩ := pfill_run (place' := ((fs.map fun f => (f.offset, P.cellsOf f.type))[·]?)) (fun i x hx => by simpa using hx) parts vs _ z.cells hl hv (by simp) (fun j p v hp hv => zero_vr j p v hp hv) ho
      refine ⟨.agg ov, ?_, .agg _ _ r2 r3⟩
      simp only [Instr.build, Sem.run_bind, hr, Result.andThen_ok, run_underlying ht, hp]
      rw [r1]
      simp
    · cases h
  · rename_i n e zs ht hz
    obtain ⟨z, hr, rfl, i, hi, hz'⟩ := run_zero_of (w := w) hz
    split at h
    · rename_i hinf
      obtain ⟨inf, hinf⟩ := Option.isSome_iff_exists.1 hinf
      simp only [Option.map_eq_some_iff] at h
      obtain ⟨out, ho, rfl⟩ := h
      obtain ⟨ov, r1, r2, r3⟩ := pfill_run (fun i x hx => hx) parts vs _ z.cells hl hv (by simp) (fun j p v hp hv => zero_vr j p v hp hv) ho
      refine ⟨.agg ov, ?_, .agg _ _ r2 r3⟩
      simp only [Instr.build, Sem.run_bind, hr, Result.andThen_ok, run_underlying ht, run_sizeOf w hinf]
      simp [r1]
    · cases h
  · cases h

theorem plen_run (h : SR P E Γ bs ow w a st) {t ty : TypeId} {x p : PVal} {vx : Value} (hx : VR Γ bs w x vx) (hp : plen P t x st.boxes = some p) :
    ∃ v, (Builtin.len_ #[t] ty #[vx]).run P w = .ok v w ∧ VR Γ bs w p v := by
  unfold plen at hp
  split at hp
  · rename_i s ht
    cases hp; cases hx
    have hsz : (ByteArray.mk s.toArray).size = s.length := by show s.toArray.size = _; simp
    exact ⟨.int .i64 s.length, by simp [Builtin.len_, run_underlying ht, goInt, hsz], .int _ _⟩
  · rename_i e es ht
    cases hp
    cases hx with
    | sliceNil => exact ⟨.int .i64 0, by simp [Builtin.len_, run_underlying ht, goInt], .int _ _⟩
    | sliceE a cap => exact ⟨.int .i64 0, by simp [Builtin.len_, run_underlying ht, goInt], .int _ _⟩
    | slice es b off cap n sz vals hcap hg hn hsz hc hv => exact ⟨.int .i64 es.length, by simp [Builtin.len_, run_underlying ht, goInt], .int _ _⟩
  · rename_i n e ht
    cases hp
    exact ⟨.int .i64 n, by simp [Builtin.len_, run_underlying ht, goInt], .int _ _⟩
  · rename_i k e i ht
    split at hp
    · rename_i es hB
      cases hp
      cases hx with
      | mapr i b hi =>
        obtain ⟨_, _, ents, clock, h1, h2, _⟩ := h.bx i b _ hi hB
        refine ⟨.int .i64 es.length, ?_, .int _ _⟩
        have hg : (getObj b).run P w = .ok (.map ents clock) w := by simp [getObj, Sem.run, h1]
        simp [Builtin.len_, run_underlying ht, hg, goInt, h2]
    · cases hp
  · cases hp

theorem pmax2_run {x y p : PVal} {vx vy : Value} (hx : VR Γ bs w x vx) (hy : VR Γ bs w y vy) (h : pmax2 x y = some p) : ∃ v, (Builtin.max2 vx vy).run P w = .ok v w ∧ VR Γ bs w p v := by
  unfold pmax2 at h
  split at h
  · cases h; cases hx; cases hy
    exact ⟨_, by simp [Builtin.max2], .int _ _⟩
  · cases h
theorem pmin2_run {x y p : PVal} {vx vy : Value} (hx : VR Γ bs w x vx) (hy : VR Γ bs w y vy) (h : pmin2 x y = some p) : ∃ v, (Builtin.min2 vx vy).run P w = .ok v w ∧ VR Γ bs w p v := by
  unfold pmin2 at h
  split at h
  · cases h; cases hx; cases hy
    exact ⟨_, by simp [Builtin.min2], .int _ _⟩
  · cases h
theorem pfold_run {f : PVal → PVal → Option PVal} {g : Value → Value → Sem Value} (hfg : ∀ {x y p : PVal} {vx vy : Value}, VR Γ bs w x vx → VR Γ bs w y vy → f x y = some p → ∃ v, (g vx vy).run P w = .ok v w ∧ VR Γ bs w p v) :
    ∀ (l : List PVal) (vs : List Value) (x : PVal) (vx : Value) {p : PVal}, l.length = vs.length → VR Γ bs w x vx → (∀ (j : Nat) p v, l[j]? = some p → vs[j]? = some v → VR Γ bs w p v) → pfold f x l = some p →
    ∃ v, (vs.foldlM g vx).run P w = .ok v w ∧ VR Γ bs w p v
  | [], [], x, vx, p, _, hx, _, h => by simp only [pfold, Option.some.injEq] at h; subst h; exact ⟨vx, by simp, hx⟩
  | [], _ :: _, _, _, _, hl, _, _, _ => by simp at hl
  | _ :: _, [], _, _, _, hl, _, _, _ => by simp at hl
  | y :: l, vy :: vs, x, vx, p, hl, hx, hv, h => by
    simp only [pfold] at h
    split at h
    · rename_i z hz
      obtain ⟨vz, r1, r2⟩ := hfg hx (hv 0 y vy rfl rfl) hz
      obtain ⟨v, r3, r4⟩ := pfold_run hfg l vs z vz (by simpa using hl) r2 (fun j p v hp hv' => hv (j + 1) p v (by simpa using hp) (by simpa using hv')) h
      exact ⟨v, by simp [r1, r3], r4⟩
    · cases h

end
end Go.Proofs.YtgiimiklbabhcaaDoor
