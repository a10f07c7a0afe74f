/-
  WHAT IS PROVED: the card of 'liquidchecklaw04.NamesWhole'. Conditions: those of the given row.
-/
import Derived.Test.YtgiimiklbabhcaaDoorCards
import Derived.Test.YtgiimiklbabhcaaDoorTie
import Derived.Test.YtgiimiklbabhcaaDoorBrB
import Derived.Test.YtgiimiklbabhcaaDoorPn5
import Derived.Deep.DeepHandedRow
import Derived.SizedLaws
namespace Go.Proofs.YtgiimiklbabhcaaDoor.lawWhole
open Go Go.ChangeShapes Go.WideShapes Go.ChangeAt Go.RowKit
set_option maxRecDepth 100000

theorem own : ownKnob Tryd.prog.godebug = none := by kernel_rfl
theorem lo : laidOutB Tryd.prog = true := by kernel_rfl
theorem rd : ∀ t ∈ Tryd.f8.params.toList, Tryd.prog.readableRec t = true ∧ t < Tryd.prog.types.size := by
  rw [Tryd.params8]
  intro t ht
  simp at ht
  subst ht
  all_goals exact ⟨by kernel_rfl, of_decide_eq_true (by kernel_rfl)⟩
theorem tabs {W : World} (h : laidMet Tryd.prog Rows.namesWholeRow.laid W) : ∀ x ∈ GE, GOk W x := by
  intro x hx
  simp only [GE, List.mem_cons, List.not_mem_nil, or_false] at hx
  rcases hx with rfl | rfl | rfl | rfl
  · exact gok_strs (name := "liquidcheck/names.keywords") h (.tail _ <| .tail _ <| .tail _ <| .head _) (by kernel_rfl) (by kernel_rfl) (by kernel_rfl) Tryd.underlying33 Tryd.underlying9 co9 co33
  · exact gok_ints (name := "internal/strconv.uint64pow10") h (.tail _ <| .tail _ <| .head _) (by kernel_rfl) (by kernel_rfl) (by kernel_rfl) Tryd.underlying75 Tryd.underlying62 co62 co75
  · exact gok_ints (name := "math/bits.deBruijn32tab") h (.head _) (by kernel_rfl) (by kernel_rfl) (by kernel_rfl) Tryd.underlying81 Tryd.underlying5 co5 co81
  · exact gok_ints (name := "math/bits.deBruijn64tab") h (.tail _ <| .head _) (by kernel_rfl) (by kernel_rfl) (by kernel_rfl) Tryd.underlying82 Tryd.underlying5 co5 co82
/-- What the walk gives, for every argument and every world that holds the tables. -/
theorem contract (H : Type) (enc : TypeId × Value → H) (W : World) (base : Nat) (args : Array Value) (ds gs : List (DataW H)) (before : List MemPlace)
    (hval : ∀ (j : Nat) t v, Tryd.f8.params[j]? = some t → args[j]? = some v → Value.okWide Tryd.prog W .any base t v)
    (hW : DataW.Whole enc Tryd.prog Tryd.f8.params.toList Rows.namesWholeSpec.vars false W args.toList ds gs before) (hL : laidMet Tryd.prog Rows.namesWholeRow.laid W) :
    Calls Tryd.prog 8 args W fun e W' => ∃ v, e = .returned v ∧ Rows.namesWholeSpec.post enc Tryd.prog Tryd.f8 false true false false W args v W' := by
  have hW' := hW
  obtain ⟨p, q, hA0, hV, rfl, hfz, hnd⟩ := hW
  have hA : DataW.TrodAll enc Tryd.prog W 0 (fun _ => true) true Tryd.f8.params.toList args.toList ds p := hA0
  obtain ⟨rfl, rfl⟩ := trodVars_none hV
  rw [Tryd.params8] at hA hval
  obtain ⟨v0, vs0, d0, ds0, p0, q0, hargs0, rfl, rfl, h0, r0⟩ := trodAll_cons hA
  obtain ⟨v1, vs1, d1, ds1, p1, q1, hargs1, rfl, rfl, h1, r1⟩ := trodAll_cons r0
  obtain ⟨rfl, rfl, rfl⟩ := trodAll_nil r1
  subst hargs1
  obtain rfl : args = #[v0, v1] := by cases args; simp_all
  obtain ⟨x0, e0, g0, l0⟩ := in_strs Tryd.underlying26 Tryd.underlying9 co9 h0 (hval 0 26 v0 rfl rfl)
  obtain ⟨x1, e1, g1, l1⟩ := in_strs Tryd.underlying26 Tryd.underlying9 co9 h1 (hval 1 26 v1 rfl rfl)
  refine (start_calls (pargs := [sl cS x0, sl cS x1]) (W04_NamesWhole_ok (law_Whole x0 x1 l0 l1)).2 rfl (fun i p v hp hv => ?_) (tabs hL)).mono fun e W' he => ?_
  · match i, hp, hv with
    | 0, hp, hv => cases hp; cases hv; exact e0
    | 1, hp, hv => cases hp; cases hv; exact e1
    | i + 2, hp, hv => simp at hp
  · exact ⟨_, he.1, law_post (t := 4) lo (by kernel_rfl) Tryd.underlying4 rfl ⟨rfl, rfl, rfl⟩ rd hW' he.2⟩

/-- A world for the witness. -/
noncomputable def laidWorld (os : Os) : World := layAt (World.holding Tryd.prog os ⟨#[], #[], []⟩) (tabsOf GE)
theorem laid_met (os : Os) : laidMet Tryd.prog Rows.namesWholeRow.laid ((laidWorld os).forCall (fun _ _ => 0) ⟨#[], #[.slice none 0 0, .slice none 0 0], []⟩).memory :=
  laidMet_of_run' 8 (by kernel_rfl) (by kernel_rfl)
theorem reads (os : Os) {H : Type} (enc : TypeId × Value → H) : ∃ places, DataW.whole enc Tryd.prog ((laidWorld os).forCall (fun _ _ => 0) ⟨#[], #[.slice none 0 0, .slice none 0 0], []⟩).memory Tryd.f8.params.toList Rows.namesWholeSpec.vars false (#[.slice none 0 0, .slice none 0 0] : Array Value).toList 8 = some ([.nil, .nil], [], places) :=
  ⟨[], by kernel_rfl⟩

theorem lifted (os : Os) (started : os.Started) (H : Type) (enc : TypeId × Value → H) (F : Stop.Interp) :
    ReturnsInHanded {} Tryd.checked os 8 .any ((OpenSpec.ofChange Rows.namesWholeSpec).preRow enc Tryd.prog Tryd.f8 Rows.namesWholeRow.domain false Rows.namesWholeRow.laid) (((OpenSpec.ofChange Rows.namesWholeSpec).at F).post enc Tryd.prog Tryd.f8 false true false false) := by
  obtain ⟨places, hx⟩ := reads os enc
  refine returnsInHanded_of_row (C := Tryd.checked) (s := OpenSpec.ofChange Rows.namesWholeSpec) own started (by kernel_rfl) Tryd.func8
    (witness_row_at (enc := enc) (C := Tryd.checked) false (laidWorld os) #[.slice none 0 0, .slice none 0 0] rfl (by kernel_rfl) (by kernel_rfl) (by kernel_rfl)
      (OpenSpec.preRow_of_cond 8 hx (by kernel_rfl) (fun k hk => by cases hk) (by kernel_rfl) (laid_met os))) ?_
  intro W base args ds gs before hval hW _ _ _ hL _ _
  exact contract H enc W base args ds gs before hval hW hL

theorem said : Rows.NamesWholeSaid :=
  OpenClaim.holds_of_cond 8 Tryd.f8 rfl rfl rfl rfl rfl rfl rfl ⟨rfl, rfl, rfl, rfl, rfl⟩ rfl rfl rfl rfl rfl (by kernel_rfl) Tryd.func8 (by kernel_rfl)
    (of_decide_eq_true (by kernel_rfl)) (by unfold Func.isWrapper; first | (rw [if_pos (by decide +kernel)]; kernel_rfl) | (rw [if_neg (by decide +kernel)]; exact ⟨rfl, rfl⟩))
    (fun os started H enc _ F => by rw [OpenClaim.pre_eq_preRow]; exact lifted os started H enc F)

theorem plain (f : FuncId) (fn : Func) (hf : Tryd.pinned.checked.prog.funcNamed "liquidcheck/liquidchecklaw04.NamesWhole" = some f) (hfn : Tryd.pinned.checked.prog.funcs[f]? = some fn) :
    false = Tryd.pinned.checked.prog.looks [] ∧ ∀ (j : Nat) t, fn.params[j]? = some t → Tryd.pinned.checked.prog.wantsStandIn t = false := by
  obtain rfl : f = 8 := Option.some.inj ((show Tryd.prog.funcNamed "liquidcheck/liquidchecklaw04.NamesWhole" = some 8 by kernel_rfl).symm.trans hf) |>.symm
  obtain rfl : fn = Tryd.f8 := (Option.some.inj (Tryd.func8.symm.trans hfn)).symm
  refine ⟨by kernel_rfl, fun j t ht => ?_⟩
  rw [Tryd.params8] at ht
  have hm := Array.mem_of_getElem? ht
  simp at hm
  subst hm
  · exact (show Tryd.prog.wantsStandIn 26 = false by kernel_rfl)

theorem card : Rows.NamesWholeCardSaid :=
  Claim7.holds_tied_plain_at .later [] _ _ _ _ said (fun _ h => by cases h) (by kernel_rfl) (fun _ h => by cases h) namesWhole_row_tie rfl ⟨rfl, rfl⟩ (by kernel_rfl) rfl plain (by kernel_rfl)
end Go.Proofs.YtgiimiklbabhcaaDoor.lawWhole
