/- PROVED: a part of the proof. Conditions: none. -/
import Derived.Test.YtankopenjcbeeaaGreatDoorCards
import Derived.Test.YtankopenjcbeeaaGreatDoorTie
import Derived.Test.YtankopenjcbeeaaGreatDoords9
import Derived.Test.YtankopenjcbeeaaGreatDoords10
import Derived.Test.YtankopenjcbeeaaGreatDoords20
import Derived.Deep.DeepHandedRow
import Derived.SizedLaws
set_option linter.unusedSimpArgs false
set_option linter.unusedVariables false
noncomputable section
namespace Go.Proofs.YtankopenjcbeeaaGreatDoor.lawDependSums
open Go Go.ChangeShapes Go.WideShapes Go.ChangeAt Go.RowKit Go.Proofs.Tryz
set_option maxRecDepth 100000
set_option linter.unusedVariables false
theorem own:ownKnob Tryz.prog.godebug=none:=by kernel_rfl
theorem lo:laidOutB Tryz.prog=true:=by kernel_rfl
theorem flat:RK Tryz.prog [9]:=TA (by kernel_rfl)
theorem rd:∀t∈Tryz.f4.params.toList,Tryz.prog.readableRec t=true/\t<Tryz.prog.types.size:=by
 rw[Tryz.params4]
 intro t ht
 simp at ht
 subst ht
 all_goals exact⟨by kernel_rfl,of_decide_eq_true (by kernel_rfl)⟩
theorem tabs{W:World}(h:laidMet Tryz.prog Rows.dependSumsUptoRow.laid W):∀x∈GE,V9 W x:=by
 intro x hx
 simp only[GE,List.mem_cons,List.not_mem_nil,or_false]at hx
 rcases hx with rfl|rfl|rfl|rfl|rfl
 ·exact NT (name:= "liquidcheck/print.signs") h (.tail _<|.tail _<|.tail _<|.tail _<|.head _) (by kernel_rfl) (by kernel_rfl) (by kernel_rfl) underlying231 underlying9 Vl W9
 ·exact NT (name:= "liquidcheck/names.keywords") h (.tail _<|.tail _<|.tail _<|.head _) (by kernel_rfl) (by kernel_rfl) (by kernel_rfl) underlying257 underlying9 Vl Xb
 ·exact JS (name:= "internal/strconv.uint64pow10") h (.tail _<|.tail _<|.head _) (by kernel_rfl) (by kernel_rfl) (by kernel_rfl) underlying287 underlying152 W8 Xc
 ·exact JS (name:= "math/bits.deBruijn32tab") h (.head _) (by kernel_rfl) (by kernel_rfl) (by kernel_rfl) underlying293 underlying5 X1 Xe
 ·exact JS (name:= "math/bits.deBruijn64tab") h (.tail _<|.head _) (by kernel_rfl) (by kernel_rfl) (by kernel_rfl) underlying294 underlying5 X1 Xf
theorem contract(H:Type)(enc:TypeId×Value->H)(W:World)(base:Nat)(args:Array Value)(ds gs:List (DataW H))(before:List MemPlace)
  (hval:∀(j:Nat) t v,Tryz.f4.params[j]? =some t->args[j]? =some v->Value.okWide Tryz.prog W .any base t v)
  (hW:DataW.Whole enc Tryz.prog Tryz.f4.params.toList Rows.dependSumsSpec.vars false W args.toList ds gs before) (hL:laidMet Tryz.prog Rows.dependSumsUptoRow.laid W) (hb:Rows.uptoBulkAll (ds++gs)<=1048576):
  Calls Tryz.prog 4 args W λe W'=>∃v,e=.returned v/\Rows.dependSumsSpec.post enc Tryz.prog Tryz.f4 false true false false W args v W':=by
 have hW':=hW
 obtain⟨p,q,hA0,hV,rfl,hfz,hnd⟩:=hW
 have hA:DataW.TrodAll enc Tryz.prog W 0 (λ_=>true) true Tryz.f4.params.toList args.toList ds p:=hA0
 obtain⟨rfl,rfl⟩:=trodVars_none hV
 rw[Tryz.params4]at hA hval
 obtain⟨v0,vs0,d0,ds0,p0,q0,hargs0,rfl,rfl,h0,r0⟩:=trodAll_cons hA
 obtain⟨rfl,rfl,rfl⟩:=trodAll_nil r0
 obtain rfl:args=#[v0]:=by cases args;simp_all
 obtain⟨n0,l0,e0,s0,k0⟩:=TD flat (by decide) underlying9 h0 (hval 0 9 v0 rfl rfl)
 obtain⟨x0,z0⟩:=(qb9 underlying9) n0 _ s0
 obtain rfl:=VB (f:=PVal.str) rfl z0
 have hs:=IR x0 (by simp only[List.append_nil,Rows.uptoBulkAll]at hb;omega)
 refine(Ol (pargs:=[.str x0]) (E8 _ hs).2 rfl (λi p v hp hv=>?_) (tabs hL)).mono λe W' he=>?_
 ·match i,hp,hv with
  |0,hp,hv=>cases hp;cases hv;exact e0
  |i+1,hp,hv=>simp at hp
 ·exact⟨_,he.1,So (t:=4) lo (by kernel_rfl) underlying4 rfl ⟨rfl,rfl,rfl⟩ rd hW' he.2⟩
noncomputable def laidWorld (os:Os):World:=Xr (World.holding Tryz.prog os ⟨#[],#[],[]⟩) (VN GE)
theorem laid_met(os:Os):laidMet Tryz.prog Rows.dependSumsUptoRow.laid ((laidWorld os).forCall (λ_ _=>0) ⟨#[],#[.string ⟨#[]⟩],[]⟩).memory:=
 laidMet_of_run' 8 (by kernel_rfl) (by kernel_rfl)
theorem reads(os:Os){H:Type}(enc:TypeId×Value->H):∃places,DataW.whole enc Tryz.prog ((laidWorld os).forCall (λ_ _=>0) ⟨#[],#[.string ⟨#[]⟩],[]⟩).memory Tryz.f4.params.toList Rows.dependSumsSpec.vars false (#[.string ⟨#[]⟩]:Array Value).toList 8=some ([.lit (.string [])],[],places):=
 ⟨[],by kernel_rfl⟩
theorem lifted(os:Os)(started:os.Started)(H:Type)(enc:TypeId×Value->H)(F:Stop.Interp):ReturnsInHanded {} Tryz.checked os 4 .any ((Rows.OpenSpec.upto Rows.dependSumsSpec).preRow enc Tryz.prog Tryz.f4 Rows.dependSumsUptoRow.domain false Rows.dependSumsUptoRow.laid) (((Rows.OpenSpec.upto Rows.dependSumsSpec).at F).post enc Tryz.prog Tryz.f4 false true false false):=by
 obtain⟨places,hx⟩:=reads os enc
 refine returnsInHanded_of_row (C:=Tryz.checked) (s:=Rows.OpenSpec.upto Rows.dependSumsSpec) own started (by kernel_rfl) func4
  (witness_row_at (enc:=enc) (C:=Tryz.checked) false (laidWorld os) #[.string ⟨#[]⟩] rfl (by kernel_rfl) (by kernel_rfl) (by kernel_rfl)
   (OpenSpec.preRow_of_cond 8 hx (by kernel_rfl) (λk hk=>by cases hk;kernel_rfl) (by kernel_rfl) (laid_met os))) ?_
 intro W base args ds gs before hval hW _ hk _ hL _ _
 exact contract H enc W base args ds gs before hval hW hL (of_decide_eq_true (hk _ rfl))
set_option maxHeartbeats 2000000 in
theorem closed:joinedFacts Tryz.pinned.checked.prog 4 Tryz.f4 (Rows.OpenSpec.upto Rows.dependSumsSpec).bare Rows.dependSumsUptoRow=true:=by
 unfold joinedFacts
 repeat' (with_reducible refine Bool.and_eq_true_iff.2 ⟨?_,?_⟩)
 all_goals as_aux_lemma=>kernel_rfl
theorem said:Rows.DependSumsUptoSaid:=
 OpenClaim.holds_of_cond 4 Tryz.f4 rfl rfl rfl rfl rfl rfl rfl ⟨rfl,rfl,rfl,rfl,rfl⟩ rfl rfl rfl rfl rfl (by as_aux_lemma=>kernel_rfl) func4 closed
  (of_decide_eq_true (by as_aux_lemma=>kernel_rfl)) (by as_aux_lemma=>unfold Func.isWrapper;first|(rw[if_pos (by decide+kernel)];kernel_rfl)|(rw[if_neg (by decide+kernel)];exact⟨rfl,rfl⟩))
  (λos started H enc _ F=>by rw[OpenClaim.pre_eq_preRow];exact lifted os started H enc F)
theorem plain(f:FuncId)(fn:Func)(hf:Tryz.pinned.checked.prog.funcNamed "liquidcheck/liquidchecklaw54.DependSums" =some f)(hfn:Tryz.pinned.checked.prog.funcs[f]? =some fn):false=Tryz.pinned.checked.prog.looks []∧∀(j:Nat) t,fn.params[j]? =some t→Tryz.pinned.checked.prog.wantsStandIn t=false:=by
 obtain rfl:f=4:=Option.some.inj ((show Tryz.prog.funcNamed "liquidcheck/liquidchecklaw54.DependSums" =some 4 by kernel_rfl).symm.trans hf)|>.symm
 obtain rfl:fn=Tryz.f4:=(Option.some.inj (func4.symm.trans hfn)).symm
 refine⟨by kernel_rfl,λj t ht=>?_⟩
 rw[Tryz.params4]at ht
 have hm:=Array.mem_of_getElem? ht
 simp at hm
 subst hm
 all_goals exact(show Tryz.prog.wantsStandIn _=false by kernel_rfl)
theorem card:Rows.DependSumsUptoCardSaid:=
 Claim7.holds_tied_plain_at .later [] _ _ _ _ said (λ_ h=>by cases h) (by kernel_rfl) (λ_ h=>by cases h) dependSumsUpto_row_tie rfl ⟨rfl,rfl⟩ (by kernel_rfl) rfl plain (by kernel_rfl)
end Go.Proofs.YtankopenjcbeeaaGreatDoor.lawDependSums
