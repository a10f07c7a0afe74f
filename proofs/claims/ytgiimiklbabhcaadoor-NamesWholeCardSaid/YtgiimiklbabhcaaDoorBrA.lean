/-
  WHAT IS PROVED: the bridge between a given row's world and the abstract machine: how a call begins ('start_calls'), what arguments and listed tables read as. No program in sight. Conditions: none.
-/
import Derived.Test.YtgiimiklbabhcaaDoorSatF
import Derived.WalkKit
import Derived.ProofKit
import Derived.OpenShut
import Derived.Below
import Derived.ChangeSame
import Derived.SliceStrings
import Derived.ChangeMaps5
import Derived.WideKeyArgs
import Derived.Lib.LaidTab
namespace Go.Proofs.YtgiimiklbabhcaaDoor
open Go Go.RowKit Go.WideShapes Go.ChangeShapes Go.ChangeAt

/-- All that is there never changes. -/
def allG (W : World) : Ghost := fun b => match W.heap[b]? with
  | some (.cells c _ _) => some c.size
  | _ => none
theorem allG_some {W : World} {b : Nat} {c : Array Value} {t : TypeId} {fr : Nat × Nat} (h : W.heap[b]? = some (.cells c t fr)) : allG W b = some c.size := by unfold allG; rw [h]

/-- What a listed variable holds. -/
def GOk (W : World) (x : Nat × List PVal) : Prop := clL 0 x.2 ∧ ∃ c t fr, W.heap[x.1]? = some (.cells c t fr) ∧ c.size = x.2.length ∧ ∀ (i : Nat) p v, x.2[i]? = some p → c[i]? = some v → VR (allG W) [] W p v

section
variable {P : Program} {GE : List (Nat × List PVal)}

/-- A call from outside: it answers what its contract says, and nothing that was there has changed. -/
theorem start_calls {k : FuncId} {pargs : List PVal} {args : Array Value} {W : World} {b : Bool} (hC : C P GE k pargs [] [] (.bool b) [] []) (hl : args.size = pargs.length)
    (hv : ∀ (i : Nat) p v, pargs[i]? = some p → args[i]? = some v → VR (allG W) [] W p v) (hG : ∀ x ∈ GE, GOk W x) : Calls P k args W fun e W' => e = .returned (.bool b) ∧ Below W.heap.size W W' := by
  have hS : SR P ⟨GE, allG W, W, touches [] fun _ => none⟩ (allG W) [] (fun _ => none) W args ⟨pargs, [], []⟩ := {
    wi := fun b n hb => by
      unfold allG at hb
      split at hb
      · rename_i c t fr hh; cases hb; exact ⟨c, t, fr, hh, Nat.le_refl _⟩
      · cases hb
    sz := hl
    tm := hv
    bl := rfl
    bx := fun i b B hi => by simp at hi
    inj := fun i j b hi => by simp at hi
    bn := fun i b hi => by simp at hi
    on := fun b L hL => by cases hL
    ot := fun t k e he => by simp at he
    ob := fun i j e cs own b hB => by simp at hB
    gl := fun g cs hg => by
      obtain ⟨_, c, t, fr, h1, h2, h3⟩ := hG _ hg
      refine .eptr cs g 0 c.size (fun k => c.getD k undef) (allG_some h1) (by simp only at h2; omega) (fun k p hp => ?_) (fun k p hp => ?_)
      · have hk : k < c.size := by have := lt_of_get hp; simp only at h2; omega
        rw [Nat.zero_add, cell_of_row W g k c t fr h1]
        simp [Array.getD_eq_getD_getElem?, hk]
      · have hk : k < c.size := by have := lt_of_get hp; simp only at h2; omega
        exact h3 k p _ hp (by simp [Array.getD_eq_getD_getElem?, hk])
    gc := fun g cs hg => (hG _ hg).1
    gx := fun g cs hg => by
      obtain ⟨_, c, t, fr, h1, h2, _⟩ := hG _ hg
      refine ⟨(Array.getElem?_eq_some_iff.1 h1).1, fun hT => ?_, c, t, fr, h1, h2⟩
      rcases hT with ⟨i, hi⟩ | hT
      · simp at hi
      · exact hT rfl
    step := .refl _ _ _ _ }
  refine (hC.2 (allG W) [] (fun _ => none) W args hS).mono fun e W' he => ?_
  obtain ⟨v, Γ', ow', rfl, hS'⟩ := he
  have hv' := hS'.tm 0 (.bool b) v rfl rfl
  cases hv'
  refine ⟨rfl, hS'.step.os, hS'.step.tape, hS'.step.output, hS'.step.size, fun k hk => (hS'.step.keep k hk fun hT => ?_).1⟩
  rcases hT with ⟨i, hi⟩ | hT
  · simp at hi
  · exact hT rfl
end

section
variable {H : Type} {enc : TypeId × Value → H} {P : Program} {w : World} {base : Nat} {spare : Nat → Bool} {held : Bool} {t : TypeId} {fuel : Nat}

/-- The row's last step, from 'Below' alone (the guide's). -/
theorem post_of_below {f : Func} {s : ChangeSpec} {apart fresh handsOn again : Bool} {W W' : World} {args : Array Value} {v : Value} {ds gs : List (DataW H)} {before pa pv : List MemPlace}
    (hW : DataW.Whole enc P f.params.toList s.vars apart W args.toList ds gs before)
    (hres : ∀ (b : Nat) (sp : Nat → Bool) (hd : Bool), DataW.TrodAll enc P W' b sp hd f.resultTypes.toList (v.resultList f.resultTypes.size) (s.fn H (ds ++ gs)).results [])
    (hargs : ∀ sp : Nat → Bool, (∀ p ∈ before, sp p.block = true) → DataW.TrodAll enc P W' 0 sp true f.params.toList args.toList (s.fn H (ds ++ gs)).args pa)
    (hvars : ∀ sp : Nat → Bool, (∀ p ∈ before, sp p.block = true) → DataW.TrodVars enc P W' sp s.vars (s.fn H (ds ++ gs)).vars pv)
    (hps : before = pa ++ pv) (hb : Below W.heap.size W W')
    (hok : ∀ (j : Nat) (t : TypeId) (r : Value), f.resultTypes[j]? = some t → (v.resultList f.resultTypes.size)[j]? = some r → Value.okWide P W' .any 0 t r) :
    s.post enc P f apart fresh handsOn again W args v W' := by
  have hlt : ∀ p ∈ before, p.block < W.heap.size := fun p hp => hW.lt p hp
  have hold : ∀ p ∈ before, (fun b => decide (b < W.heap.size)) p.block = true := fun p hp => by simpa using hlt p hp
  refine ⟨ds, gs, before, [], pa, pv, hW, hres _ _ _, hargs _ hold, hvars _ hold, World.keptBut_mono (fun p hp => ⟨hp, ?_⟩) (hb.frame (· ∈ before)), fun _ => ?_⟩
  · rw [hps, List.mem_append] at hp
    exact Or.inr hp
  · obtain ⟨_, _, _, _, _, hz, hn⟩ := hW
    refine ⟨hok, _, _, ([] ++ pa) ++ pv, ⟨[] ++ pa, pv, trodAll_append (hargs _ (fun _ _ => rfl)) (hres _ _ _), hvars _ (fun _ _ => rfl), rfl, ?_, ?_⟩, ?_⟩
    · intro b off hp
      have hin : MemPlace.cell b off ∈ before := by rw [hps]; simpa using hp
      rw [hb.frozen (hlt _ hin)]
      exact hz b off hin
    · intro ha
      have := hn ha
      rw [hps] at this
      simpa using this
    · intro p hp _
      rw [hps]
      simpa using hp

/-- Arguments read as they read, where nothing that was there has changed. -/
theorem all_stays (hl : laidOutB P = true) {W W' : World} (hb : Below W.heap.size W W') {sp : Nat → Bool} : ∀ {ts : List TypeId} {vs : List Value} {ds : List (DataW H)} {ps : List MemPlace}, (∀ t ∈ ts, P.readableRec t = true ∧ t < P.types.size) →
    DataW.TrodAll enc P W 0 (fun _ => true) true ts vs ds ps → (∀ p ∈ ps, p.block < W.heap.size) → (∀ p ∈ ps, sp p.block = true) → DataW.TrodAll enc P W' 0 sp true ts vs ds ps
  | [], [], [], _, _, h, _, _ => h
  | t :: _, _ :: _, _ :: _, _, ht, ⟨p, q, h1, h2, e⟩, hlt, hs =>
    ⟨p, q, WideElems.Trod_stays hl (ht t (by simp)).1 (ht t (by simp)).2 h1 (fun x hx => hb.same (hlt x (by rw [e]; exact List.mem_append_left _ hx))) (fun x hx => hs x (by rw [e]; exact List.mem_append_left _ hx)),
      all_stays hl hb (fun t ht' => ht t (by simp [ht'])) h2 (fun x hx => hlt x (by rw [e]; exact List.mem_append_right _ hx)) (fun x hx => hs x (by rw [e]; exact List.mem_append_right _ hx)), e⟩

/-- The same for a law of one truth value without variables. -/
theorem law_post {f : Func} {s : ChangeSpec} {W W' : World} {args : Array Value} {ds gs : List (DataW H)} {before : List MemPlace} (hl : laidOutB P = true) (hr : f.resultTypes = #[t]) (hbt : P.underlying t = some .bool) (hsv : s.vars = [])
    (hfn : (s.fn H (ds ++ gs)).results = [.lit (.bool true)] ∧ (s.fn H (ds ++ gs)).args = ds ∧ (s.fn H (ds ++ gs)).vars = []) (hts : ∀ t ∈ f.params.toList, P.readableRec t = true ∧ t < P.types.size)
    (hW : DataW.Whole enc P f.params.toList s.vars false W args.toList ds gs before) (hb : Below W.heap.size W W') : s.post enc P f false true false false W args (.bool true) W' := by
  have hW' := hW
  obtain ⟨p, q, hA, hV, rfl, _, _⟩ := hW
  rw [hsv] at hV
  obtain ⟨rfl, rfl⟩ := trodVars_none hV
  have hlt : ∀ x ∈ p, x.block < W.heap.size := fun x hx => hW'.lt x (by simpa using hx)
  refine post_of_below (pa := p) (pv := []) hW' (fun b sp hd => ?_) (fun sp hs => ?_) (fun sp _ => ?_) rfl hb (fun j t' r hj hv => ?_)
  · rw [hr, hfn.1]
    exact trodAll_cons_mk (shut_bool hbt _) trodAll_mk0
  · rw [hfn.2.1]
    exact all_stays hl hb hts hA hlt (fun x hx => hs x (by simpa using hx))
  · rw [hsv, hfn.2.2]; rfl
  · exact ok_one hr rfl (okWide_bool_mk hbt _) j t' r hj hv

/-- A text that came in. -/
theorem in_str {W : World} {b0 : Nat} {v : Value} {d : DataW H} {p : List MemPlace} (ht : P.underlying t = some .string) (h : DataW.Trod enc P W base spare held t v d p) (hv : Value.okWide P W .any b0 t v) :
    ∃ s : Str, (∀ Γ bs, VR Γ bs W (.str s) v) ∧ d = .lit (.string s) ∧ s.length < 9223372036854775808 := by
  obtain ⟨s, rfl, rfl, _, hs⟩ := Go.ChangeMaps.open_string ht hv h
  exact ⟨s.data.toList, fun Γ bs => .str _, rfl, by
    have : s.data.toList.length = s.size := Array.length_toList
    have h2 : s.size ≤ 2 ^ 63 - 1 := hs
    omega⟩

theorem add_lit0 (a : Addr) (i : Nat) (h : a.spot = none) : a.add i = ⟨a.block, a.off + i, none⟩ := by
  obtain ⟨b, o, sp⟩ := a
  simp only at h
  subst h
  unfold Addr.add
  split
  · rename_i hi; subst hi; rfl
  · rfl

/-- A list of texts that came in. -/
theorem in_strs {W : World} {b0 : Nat} {e : TypeId} {v : Value} {d : DataW H} {p : List MemPlace} (ht : P.underlying t = some (.slice e)) (he : P.underlying e = some .string) (hce : P.cellsOf e = 1)
    (h : DataW.Trod enc P W base spare held t v d p) (hv : Value.okWide P W .any b0 t v) :
    ∃ l : List Str, VR (allG W) [] W (sl cS l) v ∧ ((d = .nil ∧ l = []) ∨ ∃ sp, d = .slice (l.map fun s => .lit (.string s)) sp) ∧ l.length < 9223372036854775808 := by
  obtain ⟨n, h⟩ := h
  unfold Value.okWide at hv
  rw [ht] at hv
  obtain ⟨a0, len0, cap0, rfl⟩ : ∃ a l c, v = .slice a l c := by
    have hv' : Cell.okWide P W .any b0 t v := hv
    unfold Cell.okWide at hv'
    cases v <;> simp [ht, Cell.ok] at hv' <;> exact ⟨_, _, _, rfl⟩
  rcases open_strings ht he hce h with ⟨hc, hx⟩ | ⟨a, len1, cap1, ss, hc, _, hlc, hmx, hss, hx, hcell, _⟩
  · have hc' : [Value.slice a0 len0 cap0] = [.slice none 0 0] := hc
    cases hc'
    cases hx
    exact ⟨[], .sliceNil, .inl ⟨rfl, rfl⟩, by decide⟩
  · have hc' : [Value.slice a0 len0 cap0] = [.slice (some a) len1 cap1] := hc
    cases hc'
    obtain ⟨len, hlen1⟩ : ∃ n, n = len0 := ⟨_, rfl⟩
    obtain ⟨cap, hcap1⟩ : ∃ n, n = cap0 := ⟨_, rfl⟩
    rw [← hlen1] at hlc hss hx ⊢
    rw [← hcap1] at hlc hss hmx ⊢
    have hmx : cap ≤ 2 ^ 63 - 1 := hmx
    have hlen : len ≤ ss.length := by rw [hss]; split <;> omega
    refine ⟨(ss.take len).map fun s => s.data.toList, ?_, .inr ⟨Go.ChangeShapes.strs (ss.drop len), ?_⟩, by simp; omega⟩
    · by_cases h0 : len = 0
      · subst h0
        exact .sliceE a cap
      · have hsp : a.spot = none := by
          have h1 := hcell 0 (by omega)
          unfold Addr.add at h1
          simp only [if_true] at h1
          unfold World.cell? at h1
          split at h1
          · split at h1
            · cases h1
            · rename_i hs; simpa using hs
          · cases h1
        have hcl : ∀ i, i < len → W.cell? ⟨a.block, a.off + i, none⟩ = some (.string (ss.getD i ByteArray.empty)) := fun i hi => by
          rw [← add_lit0 a i hsp]; exact hcell i (by omega)
        obtain ⟨c, ty, fr, hh⟩ : ∃ c ty fr, W.heap[a.block]? = some (.cells c ty fr) := by
          have h1 := hcl 0 (by omega)
          unfold World.cell? at h1
          split at h1
          · rename_i c ty fr hh; exact ⟨c, ty, fr, hh⟩
          · cases h1
        have hin : a.off + len ≤ c.size := by
          have h1 := hcl (len - 1) (by omega)
          rw [cell_of_row W _ _ c ty fr hh] at h1
          have := (Array.getElem?_eq_some_iff.1 h1).1
          omega
        have hL : ((ss.take len).map fun s => s.data.toList).length = len := by simp; omega
        have hgetL : ∀ (i : Nat) x, (((ss.take len).map fun s => s.data.toList).map cS)[i]? = some x → i < len ∧ x = cS (ss.getD i ByteArray.empty).data.toList := by
          intro i x hx
          have hi : i < len := by have := lt_of_get hx; simp at this; omega
          refine ⟨hi, ?_⟩
          simp only [List.getElem?_map, List.getElem?_take_of_lt hi] at hx
          rw [List.getElem?_eq_getElem (by omega)] at hx
          simp only [Option.map_some, Option.some.injEq] at hx
          rw [← hx, List.getD_eq_getElem?_getD, List.getElem?_eq_getElem (by omega)]
          rfl
        have := VR.slice (Γ := allG W) (bs := []) (w := W) (((ss.take len).map fun s => s.data.toList).map cS) a.block a.off cap c.size 1 (fun i _ => .string (ss.getD i ByteArray.empty)) (by simp; omega) (allG_some hh) (by simp; omega)
          (fun i x hx => by rw [(hgetL i x hx).2]; rfl)
          (fun i x k q hx hq => by
            obtain ⟨hi, rfl⟩ := hgetL i x hx
            have hk : k = 0 := by have := lt_of_get hq; simp [cS] at this; exact this
            subst hk
            rw [show a.off + i * 1 + 0 = a.off + i by omega]
            exact hcl i hi)
          (fun i x k q hx hq => by
            obtain ⟨hi, rfl⟩ := hgetL i x hx
            have hk : k = 0 := by have := lt_of_get hq; simp [cS] at this; exact this
            subst hk
            simp [cS] at hq; subst hq
            exact .str _)
        rw [List.length_map, hL] at this
        obtain ⟨ab, ao, asp⟩ := a
        simp only at hsp
        subst hsp
        exact this
    · cases hx
      simp [Go.ChangeShapes.strs, Function.comp_def]
end
end Go.Proofs.YtgiimiklbabhcaaDoor
