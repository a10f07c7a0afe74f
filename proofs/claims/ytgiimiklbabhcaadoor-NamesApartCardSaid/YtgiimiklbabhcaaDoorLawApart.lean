/-
  WHAT IS PROVED: the card of 'liquidchecklaw04.NamesApart'. Conditions: those of the given row.
-/
import Derived.Test.YtgiimiklbabhcaaDoorCards
import Derived.Test.YtgiimiklbabhcaaDoorTie
import Derived.Test.YtgiimiklbabhcaaDoorBrB
import Derived.Test.YtgiimiklbabhcaaDoorPn5
import Derived.Deep.DeepHandedRow
import Derived.SizedLaws
namespace Go.Proofs.YtgiimiklbabhcaaDoor.lawApart
open Go Go.ChangeShapes Go.WideShapes Go.ChangeAt Go.RowKit
set_option maxRecDepth 100000

theorem own : ownKnob Tryd.prog.godebug = none := by kernel_rfl
theorem lo : laidOutB Tryd.prog = true := by kernel_rfl
theorem rd : ∀ t ∈ Tryd.f6.params.toList, Tryd.prog.readableRec t = true ∧ t < Tryd.prog.types.size := by
  rw [Tryd.params6]
  intro t ht
  simp at ht
  subst ht
  all_goals exact ⟨by kernel_rfl, of_decide_eq_true (by kernel_rfl)⟩
theorem tabs {W : World} (h : laidMet Tryd.prog Rows.namesApartRow.laid W) : ∀ x ∈ GE, GOk W x := by
  intro x hx
  simp only [GE, List.mem_cons, List.not_mem_nil, or_false] at hx
  rcases hx with rfl | rfl | rfl | rfl
  · exact gok_strs (name := "liquidcheck/names.keywords") h (.tail _ <| .tail _ <| .tail _ <| .head _) (by kernel_rfl) (by kernel_rfl) (by kernel_rfl) Tryd.underlying33 Tryd.underlying9 co9 co33
  · exact gok_ints (name := "internal/strconv.uint64pow10") h (.tail _ <| .tail _ <| .head _) (by kernel_rfl) (by kernel_rfl) (by kernel_rfl) Tryd.underlying75 Tryd.underlying62 co62 co75
  · exact gok_ints (name := "math/bits.deBruijn32tab") h (.head _) (by kernel_rfl) (by kernel_rfl) (by kernel_rfl) Tryd.underlying81 Tryd.underlying5 co5 co81
  · exact gok_ints (name := "math/bits.deBruijn64tab") h (.tail _ <| .head _) (by kernel_rfl) (by kernel_rfl) (by kernel_rfl) Tryd.underlying82 Tryd.underlying5 co5 co82
/-- What the walk gives, for every argument and every world that holds the tables. -/
theorem contract (H : Type) (enc : TypeId × Value → H) (W : World) (base : Nat) (args : Array Value) (ds gs : List (DataW H)) (before : List MemPlace)
    (hval : ∀ (j : Nat) t v, Tryd.f6.params[j]? = some t → args[j]? = some v → Value.okWide Tryd.prog W .any base t v)
    (hW : DataW.Whole enc Tryd.prog Tryd.f6.params.toList Rows.namesApartSpec.vars false W args.toList ds gs before) (hL : laidMet Tryd.prog Rows.namesApartRow.laid W) :
    Calls Tryd.prog 6 args W fun e W' => ∃ v, e = .returned v ∧ Rows.namesApartSpec.post enc Tryd.prog Tryd.f6 false true false false W args v W' := by
  have hW' := hW
  obtain ⟨p, q, hA0, hV, rfl, hfz, hnd⟩ := hW
  have hA : DataW.TrodAll enc Tryd.prog W 0 (fun _ => true) true Tryd.f6.params.toList args.toList ds p := hA0
  obtain ⟨rfl, rfl⟩ := trodVars_none hV
  rw [Tryd.params6] at hA hval
  obtain ⟨v0, vs0, d0, ds0, p0, q0, hargs0, rfl, rfl, h0, r0⟩ := trodAll_cons hA
  obtain ⟨rfl, rfl, rfl⟩ := trodAll_nil r0
  obtain rfl : args = #[v0] := by cases args; simp_all
  obtain ⟨x0, e0, g0, l0⟩ := in_str Tryd.underlying9 h0 (hval 0 9 v0 rfl rfl)
  refine (start_calls (pargs := [PVal.str x0]) (W04_NamesApart_ok (law_Apart x0 l0)).2 rfl (fun i p v hp hv => ?_) (tabs hL)).mono fun e W' he => ?_
  · match i, hp, hv with
    | 0, hp, hv => cases hp; cases hv; exact e0 _ _
    | i + 1, hp, hv => simp at hp
  · exact ⟨_, he.1, law_post (t := 4) lo (by kernel_rfl) Tryd.underlying4 rfl ⟨rfl, rfl, rfl⟩ rd hW' he.2⟩

/-- A world for the witness. -/
noncomputable def laidWorld (os : Os) : World := layAt (World.holding Tryd.prog os ⟨#[], #[], []⟩) (tabsOf GE)
theorem laid_met (os : Os) : laidMet Tryd.prog Rows.namesApartRow.laid ((laidWorld os).forCall (fun _ _ => 0) ⟨#[], #[.string ⟨#[]⟩], []⟩).memory :=
  laidMet_of_run' 8 (by kernel_rfl) (by kernel_rfl)
theorem reads (os : Os) {H : Type} (enc : TypeId × Value → H) : ∃ places, DataW.whole enc Tryd.prog ((laidWorld os).forCall (fun _ _ => 0) ⟨#[], #[.string ⟨#[]⟩], []⟩).memory Tryd.f6.params.toList Rows.namesApartSpec.vars false (#[.string ⟨#[]⟩] : Array Value).toList 8 = some ([.lit (.string [])], [], places) :=
  ⟨[], by kernel_rfl⟩

theorem lifted (os : Os) (started : os.Started) (H : Type) (enc : TypeId × Value → H) (F : Stop.Interp) :
    ReturnsInHanded {} Tryd.checked os 6 .any ((OpenSpec.ofChange Rows.namesApartSpec).preRow enc Tryd.prog Tryd.f6 Rows.namesApartRow.domain false Rows.namesApartRow.laid) (((OpenSpec.ofChange Rows.namesApartSpec).at F).post enc Tryd.prog Tryd.f6 false true false false) := by
  obtain ⟨places, hx⟩ := reads os enc
  refine returnsInHanded_of_row (C := Tryd.checked) (s := OpenSpec.ofChange Rows.namesApartSpec) own started (by kernel_rfl) Tryd.func6
    (witness_row_at (enc := enc) (C := Tryd.checked) false (laidWorld os) #[.string ⟨#[]⟩] rfl (by kernel_rfl) (by kernel_rfl) (by kernel_rfl)
      (OpenSpec.preRow_of_cond 8 hx (by kernel_rfl) (fun k hk => by cases hk) (by kernel_rfl) (laid_met os))) ?_
  intro W base args ds gs before hval hW _ _ _ hL _ _
  exact contract H enc W base args ds gs before hval hW hL

theorem said : Rows.NamesApartSaid :=
  OpenClaim.holds_of_cond 6 Tryd.f6 rfl rfl rfl rfl rfl rfl rfl ⟨rfl, rfl, rfl, rfl, rfl⟩ rfl rfl rfl rfl rfl (by kernel_rfl) Tryd.func6 (by kernel_rfl)
    (of_decide_eq_true (by kernel_rfl)) (by unfold Func.isWrapper; first | (rw [if_pos (by decide +kernel)]; kernel_rfl) | (rw [if_neg (by decide +kernel)]; exact ⟨rfl, rfl⟩))
    (fun os started H enc _ F => by rw [OpenClaim.pre_eq_preRow]; exact lifted os started H enc F)

theorem plain (f : FuncId) (fn : Func) (hf : Tryd.pinned.checked.prog.funcNamed "liquidcheck/liquidchecklaw04.NamesApart" = some f) (hfn : Tryd.pinned.checked.prog.funcs[f]? = some fn) :
    false = Tryd.pinned.checked.prog.looks [] ∧ ∀ (j : Nat) t, fn.params[j]? = some t → Tryd.pinned.checked.prog.wantsStandIn t = false := by
  obtain rfl : f = 6 := Option.some.inj ((show Tryd.prog.funcNamed "liquidcheck/liquidchecklaw04.NamesApart" = some 6 by kernel_rfl).symm.trans hf) |>.symm
  obtain rfl : fn = Tryd.f6 := (Option.some.inj (Tryd.func6.symm.trans hfn)).symm
  refine ⟨by kernel_rfl, fun j t ht => ?_⟩
  rw [Tryd.params6] at ht
  have hm := Array.mem_of_getElem? ht
  simp at hm
  subst hm
  · exact (show Tryd.prog.wantsStandIn 9 = false by kernel_rfl)

theorem card : Rows.NamesApartCardSaid :=
  Claim7.holds_tied_plain_at .later [] _ _ _ _ said (fun _ h => by cases h) (by kernel_rfl) (fun _ h => by cases h) namesApart_row_tie rfl ⟨rfl, rfl⟩ (by kernel_rfl) rfl plain (by kernel_rfl)
end Go.Proofs.YtgiimiklbabhcaaDoor.lawApart
