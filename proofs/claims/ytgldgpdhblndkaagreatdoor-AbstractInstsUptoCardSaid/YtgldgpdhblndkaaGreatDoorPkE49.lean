/- WHAT IS PROVED: parts of the proof, put together by a program (LawAbstractInsts). Conditions: none. -/
import Derived.Test.YtgldgpdhblndkaaGreatDoorCards
import Derived.Test.YtgldgpdhblndkaaGreatDoorTie
import Derived.Test.YtgldgpdhblndkaaGreatDoorPkE22
import Derived.Test.YtgldgpdhblndkaaGreatDoorPkE26
import Derived.Test.YtgldgpdhblndkaaGreatDoorPkE48
import Derived.Deep.DeepHandedRow
import Derived.SizedLaws
noncomputable section
namespace Go.Proofs.YtgldgpdhblndkaaGreatDoor.lawAbstractInsts
open Go Go.ChangeShapes Go.WideShapes Go.ChangeAt Go.RowKit
set_option maxRecDepth 100000
set_option linter.unusedVariables false
theorem own:ownKnob Tryz.prog.godebug = none:=by kernel_rfl
theorem lo:laidOutB Tryz.prog = true:=by kernel_rfl
theorem flat:Flat Tryz.prog [33,26,9,27,22,31,28,3,29,24,76,74,38,82,36,88]:=qHm (by kernel_rfl)
theorem rd:∀ t ∈ Tryz.f4.params.toList,Tryz.prog.readableRec t = true∧t < Tryz.prog.types.size:=by
 rw [Tryz.params4]
 intro t ht
 simp at ht
 rcases ht with rfl | rfl | rfl
 all_goals exact ⟨by kernel_rfl,of_decide_eq_true (by kernel_rfl)⟩
theorem tabs {W:World} (h:laidMet Tryz.prog Rows.abstractInstsUptoRow.laid W):∀ x ∈ GE,GOk W x:=by
 intro x hx
 simp only [GE,List.mem_cons,List.not_mem_nil,or_false] at hx
 rcases hx with rfl | rfl | rfl
 ·exact qyv (name := "internal/strconv.uint64pow10") h (.tail _ <| .tail _ <| .head _) (by kernel_rfl) (by kernel_rfl) (by kernel_rfl) Tryz.underlying202 Tryz.underlying182 qIM qIL
 ·exact qyv (name := "math/bits.deBruijn32tab") h (.head _) (by kernel_rfl) (by kernel_rfl) (by kernel_rfl) Tryz.underlying208 Tryz.underlying5 co5 qIN
 ·exact qyv (name := "math/bits.deBruijn64tab") h (.tail _ <| .head _) (by kernel_rfl) (by kernel_rfl) (by kernel_rfl) Tryz.underlying209 Tryz.underlying5 co5 qIX
theorem contract (H:Type) (enc:TypeId×Value→H) (W:World) (base:Nat) (args:Array Value) (ds gs:List (DataW H)) (before:List MemPlace)
  (hval:∀ (j:Nat) t v,Tryz.f4.params[j]? = some t→args[j]? = some v→Value.okWide Tryz.prog W .any base t v)
  (hW:DataW.Whole enc Tryz.prog Tryz.f4.params.toList Rows.abstractInstsSpec.vars false W args.toList ds gs before) (hL:laidMet Tryz.prog Rows.abstractInstsUptoRow.laid W) (hb:Rows.uptoBulkAll (ds ++ gs) ≤ 1048576) :
  Calls Tryz.prog 4 args W fun e W' => ∃ v,e = .returned v∧Rows.abstractInstsSpec.post enc Tryz.prog Tryz.f4 false true false false W args v W':=by
 have hW':=hW
 obtain ⟨p,q,hA0,hV,rfl,hfz,hnd⟩:=hW
 have hA:DataW.TrodAll enc Tryz.prog W 0 (fun _ => true) true Tryz.f4.params.toList args.toList ds p:=hA0
 obtain ⟨rfl,rfl⟩:=trodVars_none hV
 rw [Tryz.params4] at hA hval
 obtain ⟨v0,vs0,d0,ds0,p0,q0,hargs0,rfl,rfl,h0,r0⟩:=trodAll_cons hA
 obtain ⟨v1,vs1,d1,ds1,p1,q1,hargs1,rfl,rfl,h1,r1⟩:=trodAll_cons r0
 obtain ⟨v2,vs2,d2,ds2,p2,q2,hargs2,rfl,rfl,h2,r2⟩:=trodAll_cons r1
 obtain ⟨rfl,rfl,rfl⟩:=trodAll_nil r2
 subst hargs2
 subst hargs1
 obtain rfl:args = #[v0,v1,v2]:=by cases args; simp_all
 obtain ⟨n0,l0,e0,s0,k0⟩:=qEV flat (by decide) Tryz.underlying33 h0 (hval 0 33 v0 rfl rfl)
 obtain ⟨x0,rfl⟩:=qGl n0 l0 s0
 obtain ⟨n1,l1,e1,s1,k1⟩:=qBJ flat (by decide) Tryz.underlying24 h1 (hval 1 24 v1 rfl rfl)
 obtain ⟨x1,z1⟩:=(in_l Tryz.underlying24 qHP) n1 _ s1
 obtain rfl:=qG9 (f:=sl qap) rfl z1
 obtain ⟨n2,l2,e2,s2,k2⟩:=qBJ flat (by decide) Tryz.underlying38 h2 (hval 2 38 v2 rfl rfl)
 obtain ⟨x2,z2⟩:=(in_l Tryz.underlying38 qF4) n2 _ s2
 obtain rfl:=qG9 (f:=sl qai) rfl z2
 have hs:=qCS x0 x1 x2 (by simp only [List.append_nil,Rows.uptoBulkAll] at hb; omega)
 refine (qBl (pargs:=[.agg (qac x0),sl qap x1,sl qai x2]) (qpp hs).2 rfl (fun i p v hp hv => ?_) (tabs hL)).mono fun e W' he => ?_
 ·match i,hp,hv with
  | 0,hp,hv => cases hp; cases hv; exact e0
  | 1,hp,hv => cases hp; cases hv; exact e1
  | 2,hp,hv => cases hp; cases hv; exact e2
  | i + 3,hp,hv => simp at hp
 ·exact ⟨_,he.1,qFP (t:=4) lo (by kernel_rfl) Tryz.underlying4 rfl ⟨rfl,rfl,rfl⟩ rd hW' he.2⟩
noncomputable def laidWorld (os:Os):World:=qIR (World.holding Tryz.prog os ⟨#[],#[],[]⟩) (qIy GE)
theorem laid_met (os:Os):laidMet Tryz.prog Rows.abstractInstsUptoRow.laid ((laidWorld os).forCall (fun _ _ => 0) ⟨#[],#[.agg #[.int .i64 0,.string ⟨#[]⟩,.slice none 0 0,.slice none 0 0,.int .i64 0,.string ⟨#[]⟩,.int .i64 0,.slice none 0 0,.slice none 0 0],.slice none 0 0,.slice none 0 0],[]⟩).memory :=
 laidMet_of_run' 8 (by kernel_rfl) (by kernel_rfl)
theorem reads (os:Os) {H:Type} (enc:TypeId×Value→H):∃ places,DataW.whole enc Tryz.prog ((laidWorld os).forCall (fun _ _ => 0) ⟨#[],#[.agg #[.int .i64 0,.string ⟨#[]⟩,.slice none 0 0,.slice none 0 0,.int .i64 0,.string ⟨#[]⟩,.int .i64 0,.slice none 0 0,.slice none 0 0],.slice none 0 0,.slice none 0 0],[]⟩).memory Tryz.f4.params.toList Rows.abstractInstsSpec.vars false (#[.agg #[.int .i64 0,.string ⟨#[]⟩,.slice none 0 0,.slice none 0 0,.int .i64 0,.string ⟨#[]⟩,.int .i64 0,.slice none 0 0,.slice none 0 0],.slice none 0 0,.slice none 0 0]:Array Value).toList 8 = some ([.agg [.lit (.int .i64 0),.lit (.string []),.nil,.nil,.agg [.lit (.int .i64 0),.lit (.string []),.lit (.int .i64 0),.nil],.nil],.nil,.nil],[],places) :=
 ⟨[],by kernel_rfl⟩
theorem lifted (os:Os) (started:os.Started) (H:Type) (enc:TypeId×Value→H) (F:Stop.Interp) :
  ReturnsInHanded {} Tryz.checked os 4 .any ((Rows.OpenSpec.upto Rows.abstractInstsSpec).preRow enc Tryz.prog Tryz.f4 Rows.abstractInstsUptoRow.domain false Rows.abstractInstsUptoRow.laid) (((Rows.OpenSpec.upto Rows.abstractInstsSpec).at F).post enc Tryz.prog Tryz.f4 false true false false):=by
 obtain ⟨places,hx⟩:=reads os enc
 refine returnsInHanded_of_row (C:=Tryz.checked) (s:=Rows.OpenSpec.upto Rows.abstractInstsSpec) own started (by kernel_rfl) Tryz.func4
  (witness_row_at (enc:=enc) (C:=Tryz.checked) false (laidWorld os) #[.agg #[.int .i64 0,.string ⟨#[]⟩,.slice none 0 0,.slice none 0 0,.int .i64 0,.string ⟨#[]⟩,.int .i64 0,.slice none 0 0,.slice none 0 0],.slice none 0 0,.slice none 0 0] rfl (by kernel_rfl) (by kernel_rfl) (by kernel_rfl)
   (OpenSpec.preRow_of_cond 8 hx (by kernel_rfl) (fun k hk => by cases hk; kernel_rfl) (by kernel_rfl) (laid_met os))) ?_
 intro W base args ds gs before hval hW _ hk _ hL _ _
 exact contract H enc W base args ds gs before hval hW hL (of_decide_eq_true (hk _ rfl))
theorem said:Rows.AbstractInstsUptoSaid :=
 OpenClaim.holds_of_cond 4 Tryz.f4 rfl rfl rfl rfl rfl rfl rfl ⟨rfl,rfl,rfl,rfl,rfl⟩ rfl rfl rfl rfl rfl (by kernel_rfl) Tryz.func4 (by kernel_rfl)
  (of_decide_eq_true (by kernel_rfl)) (by unfold Func.isWrapper; first | (rw [if_pos (by decide +kernel)]; kernel_rfl) | (rw [if_neg (by decide +kernel)]; exact ⟨rfl,rfl⟩))
  (fun os started H enc _ F => by rw [OpenClaim.pre_eq_preRow]; exact lifted os started H enc F)
theorem plain (f:FuncId) (fn:Func) (hf:Tryz.pinned.checked.prog.funcNamed "liquidcheck/liquidchecklaw35.AbstractInsts" = some f) (hfn:Tryz.pinned.checked.prog.funcs[f]? = some fn) :
  false = Tryz.pinned.checked.prog.looks []∧∀ (j:Nat) t,fn.params[j]? = some t→Tryz.pinned.checked.prog.wantsStandIn t = false:=by
 obtain rfl:f = 4:=Option.some.inj ((show Tryz.prog.funcNamed "liquidcheck/liquidchecklaw35.AbstractInsts" = some 4 by kernel_rfl).symm.trans hf) |>.symm
 obtain rfl:fn = Tryz.f4:=(Option.some.inj (Tryz.func4.symm.trans hfn)).symm
 refine ⟨by kernel_rfl,fun j t ht => ?_⟩
 rw [Tryz.params4] at ht
 have hm:=Array.mem_of_getElem? ht
 simp at hm
 rcases hm with rfl | rfl | rfl
 all_goals exact (show Tryz.prog.wantsStandIn _ = false by kernel_rfl)
theorem card:Rows.AbstractInstsUptoCardSaid :=
 Claim7.holds_tied_plain_at .later [] _ _ _ _ said (fun _ h => by cases h) (by kernel_rfl) (fun _ h => by cases h) abstractInstsUpto_row_tie rfl ⟨rfl,rfl⟩ (by kernel_rfl) rfl plain (by kernel_rfl)
end Go.Proofs.YtgldgpdhblndkaaGreatDoor.lawAbstractInsts
