/-
  WHAT IS PROVED: parts of the proof, put together by a program out of smaller texts, their own names made short (LawAbstractFields). Conditions: none.
-/
import Derived.Test.YtgldgpdhblndkaaGreatDoorCards
import Derived.Test.YtgldgpdhblndkaaGreatDoorTie
import Derived.Test.YtgldgpdhblndkaaGreatDoorPkD25
import Derived.Test.YtgldgpdhblndkaaGreatDoorPkD29
import Derived.Test.YtgldgpdhblndkaaGreatDoorPkD48
import Derived.Deep.DeepHandedRow
import Derived.SizedLaws
namespace Go.Proofs.YtgldgpdhblndkaaGreatDoor.lawAbstractFields
open Go Go.ChangeShapes Go.WideShapes Go.ChangeAt Go.RowKit
set_option maxRecDepth 100000
set_option linter.unusedVariables false
theorem own:ownKnob Tryz.prog.godebug = none:=by kernel_rfl
theorem lo:laidOutB Tryz.prog = true:=by kernel_rfl
theorem flat:Flat Tryz.prog [57,50,61,9,22,36,88,74,59,63,27,33,26,31,28,3,29,51,231,229,250,52,233,23,226,55,247,244,239,240,241,253,242,255,245,4,35,24,76,25,228,53,236,234,252,54,238]:=qCd (by kernel_rfl)
theorem rd:∀ t ∈ Tryz.f5.params.toList,Tryz.prog.readableRec t = true∧t < Tryz.prog.types.size:=by
  rw [Tryz.params5]
  intro t ht
  simp at ht
  rcases ht with rfl | rfl | rfl
  all_goals exact ⟨by kernel_rfl,of_decide_eq_true (by kernel_rfl)⟩
theorem tabs {W:World} (h:laidMet Tryz.prog Rows.abstractFieldsUptoRow.laid W):∀ x ∈ GE,GOk W x:=by
  intro x hx
  simp only [GE,List.mem_cons,List.not_mem_nil,or_false] at hx
  rcases hx with rfl | rfl | rfl
  · exact qvq (name := "internal/strconv.uint64pow10") h (.tail _ <| .tail _ <| .head _) (by kernel_rfl) (by kernel_rfl) (by kernel_rfl) Tryz.underlying202 Tryz.underlying182 qC9 qC8
  · exact qvq (name := "math/bits.deBruijn32tab") h (.head _) (by kernel_rfl) (by kernel_rfl) (by kernel_rfl) Tryz.underlying208 Tryz.underlying5 co5 qCZ
  · exact qvq (name := "math/bits.deBruijn64tab") h (.tail _ <| .head _) (by kernel_rfl) (by kernel_rfl) (by kernel_rfl) Tryz.underlying209 Tryz.underlying5 co5 qC5
theorem contract (H:Type) (enc:TypeId×Value→H) (W:World) (base:Nat) (args:Array Value) (ds gs:List (DataW H)) (before:List MemPlace)
    (hval:∀ (j:Nat) t v,Tryz.f5.params[j]? = some t→args[j]? = some v→Value.okWide Tryz.prog W .any base t v)
    (hW:DataW.Whole enc Tryz.prog Tryz.f5.params.toList Rows.abstractFieldsSpec.vars false W args.toList ds gs before) (hL:laidMet Tryz.prog Rows.abstractFieldsUptoRow.laid W) (hb:Rows.uptoBulkAll (ds ++ gs) ≤ 1048576) :
    Calls Tryz.prog 5 args W fun e W' => ∃ v,e = .returned v∧Rows.abstractFieldsSpec.post enc Tryz.prog Tryz.f5 false true false false W args v W':=by
  have hW':=hW
  obtain ⟨p,q,hA0,hV,rfl,hfz,hnd⟩:=hW
  have hA:DataW.TrodAll enc Tryz.prog W 0 (fun _ => true) true Tryz.f5.params.toList args.toList ds p:=hA0
  obtain ⟨rfl,rfl⟩:=trodVars_none hV
  rw [Tryz.params5] at hA hval
  obtain ⟨v0,vs0,d0,ds0,p0,q0,hargs0,rfl,rfl,h0,r0⟩:=trodAll_cons hA
  obtain ⟨v1,vs1,d1,ds1,p1,q1,hargs1,rfl,rfl,h1,r1⟩:=trodAll_cons r0
  obtain ⟨v2,vs2,d2,ds2,p2,q2,hargs2,rfl,rfl,h2,r2⟩:=trodAll_cons r1
  obtain ⟨rfl,rfl,rfl⟩:=trodAll_nil r2
  subst hargs2
  subst hargs1
  obtain rfl:args = #[v0,v1,v2]:=by cases args; simp_all
  obtain ⟨n0,l0,e0,s0,k0⟩:=qzq flat (by decide) Tryz.underlying57 h0 (hval 0 57 v0 rfl rfl)
  obtain ⟨x0,rfl⟩:=qyu n0 l0 s0
  obtain ⟨n1,l1,e1,s1,k1⟩:=qBX flat (by decide) Tryz.underlying9 h1 (hval 1 9 v1 rfl rfl)
  obtain ⟨x1,z1⟩:=(in_s Tryz.underlying9) n1 _ s1
  obtain rfl:=qBH (f:=PVal.str) rfl z1
  obtain ⟨n2,l2,e2,s2,k2⟩:=qAG flat (by decide) Tryz.underlying29 h2 (hval 2 29 v2 rfl rfl)
  obtain ⟨x2,z2⟩:=(in_l Tryz.underlying29 qjl) n2 _ s2
  obtain rfl:=qBH (f:=sl qaa) rfl z2
  have hs:=qxn x0 x1 x2 (by simp only [List.append_nil,Rows.uptoBulkAll] at hb; omega)
  refine (qxc (pargs:=[.agg (qaL x0),.str x1,sl qaa x2]) (qm1 hs).2 rfl (fun i p v hp hv => ?_) (tabs hL)).mono fun e W' he => ?_
  · match i,hp,hv with
    | 0,hp,hv => cases hp; cases hv; exact e0
    | 1,hp,hv => cases hp; cases hv; exact e1
    | 2,hp,hv => cases hp; cases hv; exact e2
    | i + 3,hp,hv => simp at hp
  · exact ⟨_,he.1,qAH (t:=4) lo (by kernel_rfl) Tryz.underlying4 rfl ⟨rfl,rfl,rfl⟩ rd hW' he.2⟩
noncomputable def laidWorld (os:Os):World:=qC1 (World.holding Tryz.prog os ⟨#[],#[],[]⟩) (qCx GE)
theorem laid_met (os:Os):laidMet Tryz.prog Rows.abstractFieldsUptoRow.laid ((laidWorld os).forCall (fun _ _ => 0) ⟨#[],#[.agg #[.slice none 0 0,.slice none 0 0,.slice none 0 0,.slice none 0 0,.slice none 0 0,.slice none 0 0],.string ⟨#[]⟩,.slice none 0 0],[]⟩).memory :=
  laidMet_of_run' 8 (by kernel_rfl) (by kernel_rfl)
theorem reads (os:Os) {H:Type} (enc:TypeId×Value→H):∃ places,DataW.whole enc Tryz.prog ((laidWorld os).forCall (fun _ _ => 0) ⟨#[],#[.agg #[.slice none 0 0,.slice none 0 0,.slice none 0 0,.slice none 0 0,.slice none 0 0,.slice none 0 0],.string ⟨#[]⟩,.slice none 0 0],[]⟩).memory Tryz.f5.params.toList Rows.abstractFieldsSpec.vars false (#[.agg #[.slice none 0 0,.slice none 0 0,.slice none 0 0,.slice none 0 0,.slice none 0 0,.slice none 0 0],.string ⟨#[]⟩,.slice none 0 0]:Array Value).toList 8 = some ([.agg [.nil,.nil,.nil,.nil,.nil,.nil],.lit (.string []),.nil],[],places) :=
  ⟨[],by kernel_rfl⟩
theorem lifted (os:Os) (started:os.Started) (H:Type) (enc:TypeId×Value→H) (F:Stop.Interp) :
    ReturnsInHanded {} Tryz.checked os 5 .any ((Rows.OpenSpec.upto Rows.abstractFieldsSpec).preRow enc Tryz.prog Tryz.f5 Rows.abstractFieldsUptoRow.domain false Rows.abstractFieldsUptoRow.laid) (((Rows.OpenSpec.upto Rows.abstractFieldsSpec).at F).post enc Tryz.prog Tryz.f5 false true false false):=by
  obtain ⟨places,hx⟩:=reads os enc
  refine returnsInHanded_of_row (C:=Tryz.checked) (s:=Rows.OpenSpec.upto Rows.abstractFieldsSpec) own started (by kernel_rfl) Tryz.func5
    (witness_row_at (enc:=enc) (C:=Tryz.checked) false (laidWorld os) #[.agg #[.slice none 0 0,.slice none 0 0,.slice none 0 0,.slice none 0 0,.slice none 0 0,.slice none 0 0],.string ⟨#[]⟩,.slice none 0 0] rfl (by kernel_rfl) (by kernel_rfl) (by kernel_rfl)
      (OpenSpec.preRow_of_cond 8 hx (by kernel_rfl) (fun k hk => by cases hk; kernel_rfl) (by kernel_rfl) (laid_met os))) ?_
  intro W base args ds gs before hval hW _ hk _ hL _ _
  exact contract H enc W base args ds gs before hval hW hL (of_decide_eq_true (hk _ rfl))
theorem said:Rows.AbstractFieldsUptoSaid :=
  OpenClaim.holds_of_cond 5 Tryz.f5 rfl rfl rfl rfl rfl rfl rfl ⟨rfl,rfl,rfl,rfl,rfl⟩ rfl rfl rfl rfl rfl (by kernel_rfl) Tryz.func5 (by kernel_rfl)
    (of_decide_eq_true (by kernel_rfl)) (by unfold Func.isWrapper; first | (rw [if_pos (by decide +kernel)]; kernel_rfl) | (rw [if_neg (by decide +kernel)]; exact ⟨rfl,rfl⟩))
    (fun os started H enc _ F => by rw [OpenClaim.pre_eq_preRow]; exact lifted os started H enc F)
theorem plain (f:FuncId) (fn:Func) (hf:Tryz.pinned.checked.prog.funcNamed "liquidcheck/liquidchecklaw35.AbstractFields" = some f) (hfn:Tryz.pinned.checked.prog.funcs[f]? = some fn) :
    false = Tryz.pinned.checked.prog.looks []∧∀ (j:Nat) t,fn.params[j]? = some t→Tryz.pinned.checked.prog.wantsStandIn t = false:=by
  obtain rfl:f = 5:=Option.some.inj ((show Tryz.prog.funcNamed "liquidcheck/liquidchecklaw35.AbstractFields" = some 5 by kernel_rfl).symm.trans hf) |>.symm
  obtain rfl:fn = Tryz.f5:=(Option.some.inj (Tryz.func5.symm.trans hfn)).symm
  refine ⟨by kernel_rfl,fun j t ht => ?_⟩
  rw [Tryz.params5] at ht
  have hm:=Array.mem_of_getElem? ht
  simp at hm
  rcases hm with rfl | rfl | rfl
  all_goals exact (show Tryz.prog.wantsStandIn _ = false by kernel_rfl)
theorem card:Rows.AbstractFieldsUptoCardSaid :=
  Claim7.holds_tied_plain_at .later [] _ _ _ _ said (fun _ h => by cases h) (by kernel_rfl) (fun _ h => by cases h) abstractFieldsUpto_row_tie rfl ⟨rfl,rfl⟩ (by kernel_rfl) rfl plain (by kernel_rfl)
end Go.Proofs.YtgldgpdhblndkaaGreatDoor.lawAbstractFields
