/-
  WHAT IS PROVED: what each operation on values does in the abstract machine, and that the model's operation does the same (third part: parts of structs, cuts, texts, lengths, loads, functions). No program in sight. Conditions: none.
-/
import Derived.Test.YtgiimiklbabhcaaDoorAbsE
namespace Go.Proofs.YtgiimiklbabhcaaDoor
open Go

section
variable {P : Program} {E : Ent} {Γ : Ghost} {bs : Boxes} {ow : Nat → Option Loc} {w : World} {a : Array Value} {st : PSt}

theorem part_run {t : TypeId} {cs : List PVal} {vs : Array Value} {off : Nat} {p : PVal} (hl : vs.size = cs.length)
    (hv : ∀ (i : Nat) q v, cs[i]? = some q → vs[i]? = some v → VR Γ bs w q v) (h : plook P t (cs.drop off) = some p) :
    ∃ v, (part t vs off).run P w = .ok v w ∧ VR Γ bs w p v := by
  have hagg : ∀ {d}, P.underlying t = some d → (match d with | .struct _ | .array _ _ => True | _ => False) → P.cellsOf t ≤ (cs.drop off).length →
      ∃ v, (part t vs off).run P w = .ok v w ∧ VR Γ bs w (.agg ((cs.drop off).take (P.cellsOf t))) v := by
    intro d hd hm hl'
    obtain ⟨i, hi⟩ := info_of_underlying hd
    refine ⟨.agg (vs.extract off (off + P.cellsOf t)), ?_, .agg _ _ ?_ fun k q u hq hu => ?_⟩
    · cases d <;> simp at hm <;> simp [part, isAgg, run_underlying hd, run_sizeOf w hi]
    · simp at hl' ⊢; omega
    · have hk : k < P.cellsOf t := by have := lt_of_get hq; simp at this; omega
      rw [List.getElem?_take_of_lt hk, List.getElem?_drop] at hq
      have hlt : k < off + P.cellsOf t - off := by omega
      rw [Array.getElem?_extract] at hu
      split at hu
      · exact hv _ _ _ hq hu
      · cases hu
  unfold plook at h
  split at h
  · rename_i fs hd
    split at h
    · cases h; exact hagg hd trivial ‹_›
    · cases h
  · rename_i n e hd
    split at h
    · cases h; exact hagg hd trivial ‹_›
    · cases h
  · rename_i d hns hna hd
    rw [List.head?_drop] at h
    have hlt : off < vs.size := by rw [hl]; exact lt_of_get h
    refine ⟨vs[off], ?_, hv off _ _ h (by simp [hlt])⟩
    cases d <;> simp at hns hna <;> simp [part, isAgg, run_underlying hd, hlt]
  · cases h

theorem pfield_run {t : TypeId} {f : Nat} {x p : PVal} {vx : Value} (hx : VR Γ bs w x vx) (h : pfield P t x f = some p) :
    ∃ v, (Instr.field t vx f).run P w = .ok v w ∧ VR Γ bs w p v := by
  unfold pfield at h
  split at h
  · rename_i fs cs ht
    split at h
    · rename_i fd hf
      cases hx with
      | agg cs vs hl hv =>
        obtain ⟨v, hr, hp⟩ := part_run hl hv h
        exact ⟨v, by simp [Instr.field, run_underlying ht, hf, asAgg, hr], hp⟩
    · cases h
  · cases h

theorem pindex_run {t : TypeId} {x ix p : PVal} {vx vi : Value} (hx : VR Γ bs w x vx) (hi : VR Γ bs w ix vi) (h : pindex P t x ix = some p) :
    ∃ v, (Instr.index t vx vi).run P w = .ok v w ∧ VR Γ bs w p v := by
  unfold pindex at h
  split at h
  · rename_i n e cs k i ht
    cases hi
    split at h
    · rename_i hh
      obtain ⟨h0, h1, hinf⟩ := hh
      obtain ⟨inf, hinf⟩ := Option.isSome_iff_exists.1 hinf
      cases hx with
      | agg cs vs hl hv =>
        obtain ⟨v, hr, hp⟩ := part_run hl hv h
        exact ⟨v, by simp [Instr.index, run_underlying ht, asIntOf, h0, h1, run_sizeOf w hinf, hr], hp⟩
    · cases h
  · rename_i s k i ht
    cases hi; cases hx
    split at h
    · rename_i h0
      simp only [Option.map_eq_some_iff] at h
      obtain ⟨c, hc, rfl⟩ := h
      have hlt := lt_of_get hc
      have hlt' : i.toNat < (ByteArray.mk s.toArray).size := by show i.toNat < s.toArray.size; simpa using hlt
      have hget : (ByteArray.mk s.toArray)[i.toNat]? = some c := by
        rw [getElem?_pos (ByteArray.mk s.toArray) i.toNat hlt']
        congr 1
        show s.toArray[i.toNat] = c
        rw [List.getElem?_eq_getElem hlt] at hc
        simpa using hc
      exact ⟨_, by simp [Instr.index, run_underlying ht, asIntOf, h0, hget], .int _ _⟩
    · cases h
  · cases h

theorem pextract_run {x p : PVal} {vx : Value} {i : Nat} (hx : VR Γ bs w x vx) (h : pextract x i = some p) :
    ∃ v, (Instr.extract vx i).run P w = .ok v w ∧ VR Γ bs w p v := by
  unfold pextract at h
  split at h
  · cases hx with
    | tuple cs vs hl hv =>
      have hlt : i < vs.size := by rw [hl]; exact lt_of_get h
      exact ⟨vs[i], by simp [Instr.extract, hlt], hv i _ _ h (by simp [hlt])⟩
  · cases h


theorem sliceBound_run {k : IntKind} {i : Int} {y : Nat} (code : BoundsCode) (h0 : 0 ≤ i) (h1 : i.toNat ≤ y) : (Instr.sliceBound (.int k i) y code).run P w = .ok i.toNat w := by
  have : i ≤ (y : Int) := by omega
  simp [Instr.sliceBound, asIntOf, h0, this]

theorem pnat_cases {x : Option PVal} {vx : Option Value} {d n : Nat} (h : pnat x d = some n) (r : ∀ p, x = some p → ∃ v, vx = some v ∧ VR Γ bs w p v) (e : x = none → vx = none) :
    (vx = none ∧ n = d) ∨ ∃ k i, vx = some (.int k i) ∧ 0 ≤ i ∧ n = i.toNat := by
  cases x with
  | none => simp [pnat] at h; exact .inl ⟨e rfl, h.symm⟩
  | some p =>
    obtain ⟨v, rfl, hv⟩ := r p rfl
    cases p <;> simp [pnat] at h
    cases hv
    exact .inr ⟨_, _, rfl, h.1, h.2.symm⟩

/-- The bounds of a cut. -/
theorem sliceBounds_run {isSlice : Bool} {len cap : Nat} {lo hi : Option PVal} {vlo vhi : Option Value} {l h : Nat} (hlo : pnat lo 0 = some l) (hhi : pnat hi len = some h)
    (rlo : ∀ p, lo = some p → ∃ v, vlo = some v ∧ VR Γ bs w p v) (nlo : lo = none → vlo = none) (rhi : ∀ p, hi = some p → ∃ v, vhi = some v ∧ VR Γ bs w p v) (nhi : hi = none → vhi = none)
    (hlh : l ≤ h) (hle : h ≤ len) (hlc : len ≤ cap) : (Instr.sliceBounds isSlice len cap vlo vhi none).run P w = .ok (l, h, cap) w := by
  rcases pnat_cases hhi rhi nhi with ⟨rfl, rfl⟩ | ⟨k, i, rfl, h0, rfl⟩ <;> rcases pnat_cases hlo rlo nlo with ⟨rfl, rfl⟩ | ⟨k', i', rfl, h0', rfl⟩
  · simp [Instr.sliceBounds]
  · simp [Instr.sliceBounds, sliceBound_run _ h0' hlh]
  · simp [Instr.sliceBounds, sliceBound_run _ h0 (Nat.le_trans hle hlc)]
  · simp [Instr.sliceBounds, sliceBound_run _ h0 (Nat.le_trans hle hlc), sliceBound_run _ h0' hlh]

theorem pslice_run {t : TypeId} {x p : PVal} {lo hi : Option PVal} {vx : Value} {vlo vhi : Option Value} (hx : VR Γ bs w x vx)
    (rlo : ∀ p, lo = some p → ∃ v, vlo = some v ∧ VR Γ bs w p v) (nlo : lo = none → vlo = none) (rhi : ∀ p, hi = some p → ∃ v, vhi = some v ∧ VR Γ bs w p v) (nhi : hi = none → vhi = none)
    (h : pslice P t x lo hi none = some p) :
    ∃ v, (Instr.sliceAt t vx vlo vhi none).run P w = .ok v w ∧ VR Γ bs w p v := by
  unfold pslice at h
  split at h
  · rename_i s ht _
    cases hx
    split at h
    · rename_i l hh hl hhi
      split at h
      · rename_i hb
        cases h
        have hb := sliceBounds_run (P := P) (isSlice := false) (cap := s.length) hl hhi rlo nlo rhi nhi hb.1 hb.2 (Nat.le_refl _)
        refine ⟨.string ⟨((s.take hh).drop l).toArray⟩, ?_, .str _⟩
        have hsz : (ByteArray.mk s.toArray).size = s.length := by show s.toArray.size = _; simp
        have hex : (ByteArray.mk s.toArray).extract l hh = ByteArray.mk ((s.take hh).drop l).toArray := by
          apply ByteArray.ext
          apply Array.ext'
          simp
          rw [List.drop_take]
        simp [Instr.sliceAt, Instr.slice, run_underlying ht, hsz, hb, hex]
      · cases h
    · cases h
  · rename_i e es ht _
    split at h
    · rename_i l hh hl hhi
      split at h
      · rename_i hb
        obtain ⟨hlh, hle, hinf, hel⟩ := hb
        obtain ⟨inf, hinf⟩ := Option.isSome_iff_exists.1 hinf
        cases h
        cases hx with
        | sliceNil =>
          have hb := sliceBounds_run (P := P) (isSlice := true) (cap := 0) hl hhi rlo nlo rhi nhi hlh hle (Nat.le_refl _)
          simp at hle; subst hle
          simp at hlh; subst hlh
          refine ⟨.slice none 0 0, ?_, .sliceNil⟩
          have hb' : (Instr.sliceBounds true 0 0 vlo vhi none).run P w = .ok (0, 0, 0) w := hb
          simp [Instr.sliceAt, Instr.slice, run_underlying ht, hb', run_sizeOf w hinf]
        | sliceE a cap =>
          have hb := sliceBounds_run (P := P) (isSlice := true) (cap := cap) hl hhi rlo nlo rhi nhi hlh hle (Nat.zero_le _)
          simp at hle; subst hle
          simp at hlh; subst hlh
          refine ⟨.slice (some a) 0 cap, ?_, .sliceE a cap⟩
          have hb' : (Instr.sliceBounds true 0 cap vlo vhi none).run P w = .ok (0, 0, cap) w := hb
          simp [Instr.sliceAt, Instr.slice, run_underlying ht, hb', run_sizeOf w hinf, Addr.add]
        | slice es b off cap n sz vals hcap hg hn hsz hc hv =>
          have hb := sliceBounds_run (P := P) (isSlice := true) (cap := cap) hl hhi rlo nlo rhi nhi hlh hle hcap
          have hlen : ((es.take hh).drop l).length = hh - l := by simp; omega
          have hget : ∀ {i : Nat} {x : List PVal}, ((es.take hh).drop l)[i]? = some x → es[l + i]? = some x := by
            intro i x hx
            rw [List.getElem?_drop] at hx
            have : l + i < hh := by have := lt_of_get hx; simp at this; omega
            rwa [List.getElem?_take_of_lt this] at hx
          have hszE : es ≠ [] → sz = P.cellsOf e := by
            intro hne
            cases es with
            | nil => exact absurd rfl hne
            | cons y ys => rw [← hel y (by simp)]; exact (hsz 0 y rfl).symm
          have hmain : VR Γ bs w (.slice ((es.take hh).drop l)) (.slice (some ⟨b, if cap = l then off else off + l * sz, none⟩) (hh - l) (cap - l)) := by
            rw [← hlen]
            have hmul : l * sz + (hh - l) * sz = hh * sz := by rw [← Nat.add_mul]; congr 1; omega
            have hmul2 : hh * sz ≤ es.length * sz := Nat.mul_le_mul_right sz hle
            by_cases hcl : cap = l
            · have h0 : (es.take hh).drop l = [] := by apply List.eq_nil_of_length_eq_zero; omega
              rw [h0, if_pos hcl]
              exact .slice [] b off (cap - l) n sz vals (by simp) hg (by simp; omega) (by simp) (by simp) (by simp)
            · rw [if_neg hcl]
              refine .slice _ b (off + l * sz) (cap - l) n sz (fun i k => vals (l + i) k) (by omega) hg (by rw [hlen]; omega) (fun i x hx => hsz _ _ (hget hx)) (fun i x k q hx hq => ?_) (fun i x k q hx hq => hv _ _ _ _ (hget hx) hq)
              have := hc _ _ _ _ (hget hx) hq
              rw [Nat.add_mul] at this
              rw [← this]
              congr 2
              omega
          refine ⟨_, ?_, hmain⟩
          by_cases hne : es = []
          · subst hne
            simp at hle; subst hle
            simp at hlh; subst hlh
            have hb' : (Instr.sliceBounds true 0 cap vlo vhi none).run P w = .ok (0, 0, cap) w := hb
            simp [Instr.sliceAt, Instr.slice, run_underlying ht, hb', run_sizeOf w hinf, Addr.add_lit]
          · have := hszE hne; subst this
            simp [Instr.sliceAt, Instr.slice, run_underlying ht, hb, run_sizeOf w hinf, Addr.add_lit]
            split <;> simp
      · cases h
    · cases h
  · cases h

end
end Go.Proofs.YtgiimiklbabhcaaDoor
