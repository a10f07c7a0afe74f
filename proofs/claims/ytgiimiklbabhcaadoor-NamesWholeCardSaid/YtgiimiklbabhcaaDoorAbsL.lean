/-
  WHAT IS PROVED: maps with texts or numbers as keys, slices of zero values, in the abstract machine, and that the model's operations do the same. No program in sight. Conditions: none.
-/
import Derived.Test.YtgiimiklbabhcaaDoorAbsK
namespace Go.Proofs.YtgiimiklbabhcaaDoor
open Go

def pmakeSlice (P : Program) (t : TypeId) (l c : PVal) : Option PVal :=
  match P.underlying t, l, c with
  | some (.slice e), .int _ n, .int _ m =>
    if n = m ∧ 0 ≤ n ∧ n ≤ appMax ∧ P.bytesOf e ≤ 65536 ∧ 0 < P.cellsOf e then
      match pzero P e with
      | some zs => if zs.length = P.cellsOf e then some (.slice (List.replicate n.toNat zs)) else none
      | none => none
    else none
  | _, _, _ => none

section
variable {P : Program} {E : Ent} {Γ : Ghost} {bs : Boxes} {ow : Nat → Option Loc} {w : World} {a : Array Value} {st : PSt}

theorem bytes_beq (a b : List UInt8) : ((ByteArray.mk a.toArray) == (ByteArray.mk b.toArray)) = (a == b) := by
  show (a.toArray == b.toArray) = _
  simp

theorem sameNow_of {kd : TypeDesc} {k x : PVal} {vk vx : Value} {t : Bool} (hk : VR Γ bs w k vk) (hx : VR Γ bs w x vx) (hkd : keyKind kd k = true) (h : pkeyEq k x = some t) : Instr.sameNow kd vk vx = some t := by
  unfold pkeyEq at h
  split at h
  · cases h; cases hk; cases hx
    cases kd <;> simp [keyKind] at hkd
    simp only [Instr.sameNow, bytes_beq]
  · split at h
    · rename_i hkk; subst hkk
      cases h; cases hk; cases hx
      cases kd <;> simp [keyKind] at hkd
      simp [Instr.sameNow]
    · cases h
  · cases h

theorem findNow_of {kd : TypeDesc} {k : PVal} {vk : Value} (hk : VR Γ bs w k vk) (hkd : keyKind kd k = true) : ∀ (es : List (PVal × PVal)) (ents : List MapEntry) (i : Nat) {r : Option (Nat × PVal)}, es.length = ents.length →
    (∀ (j : Nat) kx u x, es[j]? = some (kx, u) → ents[j]? = some x → VR Γ bs w kx x.key ∧ VR Γ bs w u x.val) → pfind k es i = some r →
    match r with
    | none => Instr.findNow kd vk ents i = some none
    | some (j, u) => ∃ v x, Instr.findNow kd vk ents i = some (some (j, v)) ∧ VR Γ bs w u v ∧ i ≤ j ∧ ents[j - i]? = some x ∧ x.val = v ∧ Instr.sameNow kd vk x.key = some true ∧ j - i < es.length
  | [], [], i, r, _, _, h => by simp only [pfind, Option.some.injEq] at h; subst h; rfl
  | [], _ :: _, _, _, hl, _, _ => by simp at hl
  | _ :: _, [], _, _, hl, _, _ => by simp at hl
  | (kx, u) :: es, x :: ents, i, r, hl, hv, h => by
    obtain ⟨h1, h2⟩ := hv 0 kx u x rfl rfl
    simp only [pfind] at h
    split at h
    · rename_i hq
      cases h
      have := sameNow_of hk h1 hkd hq
      exact ⟨x.val, x, by simp [Instr.findNow, this], h2, Nat.le_refl _, by simp, rfl, this, by simp⟩
    · rename_i hq
      have hs := sameNow_of hk h1 hkd hq
      have ih := findNow_of hk hkd es ents (i + 1) (by simpa using hl) (fun j kx u x hj hx => hv (j + 1) kx u x (by simpa using hj) (by simpa using hx)) h
      cases r with
      | none => simpa [Instr.findNow, hs] using ih
      | some ju =>
        obtain ⟨j, u'⟩ := ju
        obtain ⟨v, x', k1, k2, k3, k4, k5, k6, k7⟩ := ih
        refine ⟨v, x', by simpa [Instr.findNow, hs] using k1, k2, by omega, ?_, k5, k6, by simp; omega⟩
        rw [show j - i = (j - (i + 1)) + 1 from by omega]; simpa using k4
    · cases h

theorem run_checkKey {kt : TypeId} {kd : TypeDesc} {k : PVal} {vk : Value} (hkt : P.underlying kt = some kd) (hkd : keyKind kd k = true) (hk : VR Γ bs w k vk) (em : Bool) : (Instr.checkKey em 10000 kt vk).run P w = .ok () w := by
  show (Instr.checkKey em (9999 + 1) kt vk).run P w = _
  rw [Instr.checkKey]
  cases kd <;> simp [keyKind] at hkd <;> cases k <;> simp at hkd <;> cases hk <;> simp [run_underlying hkt]

theorem run_getObj_map {b : Nat} {ents : Array MapEntry} {clock : Nat} (h : w.heap[b]? = some (.map ents clock)) : (getObj b).run P w = .ok (.map ents clock) w := by simp [getObj, Sem.run, h]

theorem run_zeroV_of {t : TypeId} {z : PVal} (h : pzeroV P t = some z) : ∃ v, (zeroValue t).run P w = .ok v w ∧ VR Γ bs w z v := by
  unfold pzeroV at h
  simp only [Option.map_eq_some_iff, Option.bind_eq_some_iff] at h
  obtain ⟨v, ⟨i, hi, hz⟩, rfl⟩ := h
  exact ⟨v, by simp [zeroValue, run_typeInfo w hi, hz], .absV v⟩

theorem plookup_run (h : SR P E Γ bs ow w a st) {t : TypeId} {m k p : PVal} {vm vk : Value} {ok : Bool} (hm : VR Γ bs w m vm) (hk : VR Γ bs w k vk) (hp : plookup P t m k ok st.boxes = some p) :
    ∃ v, (Instr.lookup t vm vk ok).run P w = .ok v w ∧ VR Γ bs w p v := by
  unfold plookup at hp
  split at hp
  · rename_i kt e i ht
    split at hp
    · rename_i es kd hB hkt
      split at hp
      · rename_i hkd
        cases hm with
        | mapr i b hi =>
          obtain ⟨_, _, ents, clock, h1, h2, h3⟩ := h.bx i b _ hi hB
          have hch := run_checkKey (P := P) (w := w) hkt hkd hk ents.toList.isEmpty
          have hch' : (Instr.checkKey ents.isEmpty 10000 kt vk).run P w = .ok () w := by rw [show ents.isEmpty = ents.toList.isEmpty from by simp]; exact hch
          split at hp
          · rename_i j u zs hf
            cases hp
            obtain ⟨v, x, k1, k2, _⟩ := findNow_of hk hkd es ents.toList 0 (by simp [h2]) (fun j kx u x hj hx => h3 j kx u x hj (by simpa using hx)) hf
            refine ⟨if ok then .tuple #[v, .bool true] else v, ?_, ?_⟩
            · simp [Instr.lookup, run_underlying ht, run_getObj_map h1, hch', Instr.findKey, run_underlying hkt, k1]
            · cases ok
              · exact k2
              · refine .tuple _ _ rfl fun q p' v' hq hv' => ?_
                match q, hq, hv' with
                | 0, hq, hv' => simp at hq hv'; subst hq; subst hv'; exact k2
                | 1, hq, hv' => simp at hq hv'; subst hq; subst hv'; exact .bool _
                | q + 2, hq, _ => simp at hq
          · rename_i z hf hz
            cases hp
            obtain ⟨z', hr, hvz⟩ := run_zeroV_of (Γ := Γ) (bs := bs) (w := w) hz
            have hfn := findNow_of hk hkd es ents.toList 0 (by simp [h2]) (fun j kx u x hj hx => h3 j kx u x hj (by simpa using hx)) hf
            refine ⟨if ok then .tuple #[z', .bool false] else z', ?_, ?_⟩
            · simp only at hfn
              simp [Instr.lookup, run_underlying ht, run_getObj_map h1, hch', Instr.findKey, run_underlying hkt, hfn, hr]
            · cases ok
              · exact hvz
              · refine .tuple _ _ rfl fun q p' v' hq hv' => ?_
                match q, hq, hv' with
                | 0, hq, hv' => simp at hq hv'; subst hq; subst hv'; exact hvz
                | 1, hq, hv' => simp at hq hv'; subst hq; subst hv'; exact .bool _
                | q + 2, hq, _ => simp at hq
          · cases hp
      · cases hp
    · cases hp
  · cases hp

theorem sameBits_of {kd : TypeDesc} {vk x : Value} (h : Instr.sameNow kd vk x = some true) : Instr.sameBits 10000 x vk = true := by
  unfold Instr.sameNow at h
  split at h
  · split at h
    · rename_i hk
      subst hk
      simp only [Option.some.injEq, beq_iff_eq] at h
      subst h
      simp [Instr.sameBits]
    · cases h
  · rename_i p q
    have h' : (p.data == q.data) = true := Option.some.inj h
    show (q.data == p.data) = true
    rw [beq_iff_eq] at h' ⊢
    exact h'.symm
  · simp only [Option.some.injEq, beq_iff_eq] at h
    subst h
    simp [Instr.sameBits]
  · cases h

theorem pmapUpdate_run (h : SR P E Γ bs ow w a st) {t : TypeId} {m k u : PVal} {vm vk vu : Value} {H : List PBox} (hm : VR Γ bs w m vm) (hk : VR Γ bs w k vk) (hu : VR Γ bs w u vu) (hp : pmapUpdate P t m k u st.boxes = some H) :
    ∃ w', (Instr.mapUpdate t vm vk vu).run P w = .ok () w' ∧ SR P E Γ bs ow w' a { st with boxes := H } ∧ Γ.Le w Γ w' := by
  unfold pmapUpdate at hp
  split at hp
  · rename_i kt e i ht
    split at hp
    · rename_i es kd hB hkt
      split at hp
      · rename_i hkd
        cases hm with
        | mapr i b hi =>
          obtain ⟨hgb, hlt, ents, clock, h1, h2, h3⟩ := h.bx i b _ hi hB
          have hch := run_checkKey (P := P) (w := w) hkt hkd hk false
          have hset : ∀ o, (setObj b o).run P w = .ok () { w with heap := w.heap.setIfInBounds b o } := by
            intro o; simp [setObj, Sem.run, h1]
          have hheap : ∀ o, ({ w with heap := w.heap.setIfInBounds b o } : World).heap[b]? = some o := by
            intro o; simp [hlt]
          have hother : ∀ o b', b' ≠ b → ({ w with heap := w.heap.setIfInBounds b o } : World).heap[b']? = w.heap[b']? := by
            intro o b' hb'; exact Array.getElem?_setIfInBounds_ne (fun e => hb' e.symm)
          have hle : ∀ o, Γ.Le w Γ ({ w with heap := w.heap.setIfInBounds b o } : World) := fun o b' m hb' =>
            ⟨m, hb', Nat.le_refl _, fun o' _ => cell?_congr (hother o b' (fun e => by subst e; rw [hgb] at hb'; cases hb')) o'⟩
          have hbox : ∀ {o : Obj} {B : PBox}, BR Γ bs ({ w with heap := w.heap.setIfInBounds b o } : World) B b → (∀ cs own, B ≠ .cells cs own) →
              SR P E Γ bs ow ({ w with heap := w.heap.setIfInBounds b o } : World) a { st with boxes := st.boxes.set i B } := fun {o B} hB hne =>
            h.box_write hi rfl rfl rfl (by simp) (hother o) hB (fun b' L hL _ => hL) h.on (fun cs own he => absurd he (hne cs own))
          split at hp
          · rename_i j u0 hf
            cases hp
            obtain ⟨v, x, k1, k2, k3, k4, k5, k6, k7⟩ := findNow_of hk hkd es ents.toList 0 (by simp [h2]) (fun j kx u x hj hx => h3 j kx u x hj (by simpa using hx)) hf
            simp only [Nat.sub_zero, Array.getElem?_toList] at k4 k7
            have hsame := sameBits_of k6
            refine ⟨{ w with heap := w.heap.setIfInBounds b (.map (ents.modify j fun e => { e with key := vk, val := vu }) clock) }, ?_, hbox ⟨_, clock, hheap _, by simp [h2], fun q kx ux y hq hy => ?_⟩ (by simp), hle _⟩
            · simp [Instr.mapUpdate, run_underlying ht, run_getObj_map h1, hch, Instr.findKey, run_underlying hkt, k1, k4, Instr.keyThatStays, hsame, hset]
            · rw [Array.getElem?_modify] at hy
              by_cases hqj : q = j
              · subst hqj
                rw [List.getElem?_set_self k7] at hq
                simp [k4] at hy
                cases hq; subst hy
                exact ⟨hk.mono (hle _) (.refl _), hu.mono (hle _) (.refl _)⟩
              · rw [List.getElem?_set_ne (fun e => hqj e.symm)] at hq
                rw [if_neg (fun e => hqj e.symm)] at hy
                exact ⟨(h3 q kx ux y hq hy).1.mono (hle _) (.refl _), (h3 q kx ux y hq hy).2.mono (hle _) (.refl _)⟩
          · rename_i hf
            cases hp
            have hfn := findNow_of hk hkd es ents.toList 0 (by simp [h2]) (fun j kx u x hj hx => h3 j kx u x hj (by simpa using hx)) hf
            simp only at hfn
            refine ⟨{ w with heap := w.heap.setIfInBounds b (.map (ents.push { key := vk, val := vu, born := clock }) (clock + 1)) }, ?_, hbox ⟨_, _, hheap _, by simp [h2], fun q kx ux y hq hy => ?_⟩ (by simp), hle _⟩
            · simp [Instr.mapUpdate, run_underlying ht, run_getObj_map h1, hch, Instr.findKey, run_underlying hkt, hfn, hset]
            · rw [Array.getElem?_push] at hy
              by_cases hql : q = ents.size
              · subst hql
                rw [List.getElem?_append_right (by omega), ← h2, Nat.sub_self] at hq
                simp at hq hy
                obtain ⟨rfl, rfl⟩ := hq
                subst hy
                exact ⟨hk.mono (hle _) (.refl _), hu.mono (hle _) (.refl _)⟩
              · rw [if_neg hql] at hy
                have hlt2 : q < es.length := by rw [← h2]; exact (Array.getElem?_eq_some_iff.1 hy).1
                rw [List.getElem?_append_left hlt2] at hq
                exact ⟨(h3 q kx ux y hq hy).1.mono (hle _) (.refl _), (h3 q kx ux y hq hy).2.mono (hle _) (.refl _)⟩
          · cases hp
      · cases hp
    · cases hp
  · cases hp

end
end Go.Proofs.YtgiimiklbabhcaaDoor
