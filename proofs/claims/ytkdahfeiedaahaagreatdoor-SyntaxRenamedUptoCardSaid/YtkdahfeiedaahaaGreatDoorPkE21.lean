/- PROVED: a part of the proof. Conditions: none. -/
import Derived.Test.YtkdahfeiedaahaaGreatDoorCards
import Derived.Test.YtkdahfeiedaahaaGreatDoorTie
import Derived.Test.YtkdahfeiedaahaaGreatDoorPkE8
import Derived.Test.YtkdahfeiedaahaaGreatDoorPkE9
import Derived.Test.YtkdahfeiedaahaaGreatDoorPkE20
import Derived.Deep.DeepHandedRow
import Derived.SizedLaws
noncomputable section
namespace Go.Proofs.YtkdahfeiedaahaaGreatDoor.lawSyntaxRenamed
open Go Go.ChangeShapes Go.WideShapes Go.ChangeAt Go.RowKit Go.Proofs.Tryz
set_option maxRecDepth 100000
set_option linter.unusedVariables false
theorem own:ownKnob Tryz.prog.godebug=none:=by kernel_rfl
theorem lo:laidOutB Tryz.prog=true:=by kernel_rfl
theorem flat:SS Tryz.prog [28,22,9,3,23,24,85,60,54,26,38,58,55,56,25,89]:=Tq (by kernel_rfl)
theorem rd:∀t∈Tryz.f5.params.toList,Tryz.prog.readableRec t=true/\t<Tryz.prog.types.size:=by
 rw[Tryz.params5]
 intro t ht
 simp at ht
 subst ht
 all_goals exact⟨by kernel_rfl,of_decide_eq_true (by kernel_rfl)⟩
theorem tabs{W:World}(h:laidMet Tryz.prog Rows.syntaxRenamedUptoRow.laid W):∀x∈GE,VD W x:=by
 intro x hx
 simp only[GE,List.mem_cons,List.not_mem_nil,or_false]at hx
 rcases hx with rfl|rfl|rfl|rfl
 ·exact HW (name:= "internal/strconv.uint64pow10") h (.tail _<|.tail _<|.head _) (by kernel_rfl) (by kernel_rfl) (by kernel_rfl) underlying216 underlying201 Wa Wb
 ·exact RI (name:= "liquidcheck/names.keywords") h (.tail _<|.tail _<|.tail _<|.head _) (by kernel_rfl) (by kernel_rfl) (by kernel_rfl) underlying218 underlying9 WN Wc
 ·exact HW (name:= "math/bits.deBruijn32tab") h (.head _) (by kernel_rfl) (by kernel_rfl) (by kernel_rfl) underlying223 underlying5 X3 Wd
 ·exact HW (name:= "math/bits.deBruijn64tab") h (.tail _<|.head _) (by kernel_rfl) (by kernel_rfl) (by kernel_rfl) underlying224 underlying5 X3 We
theorem contract(H:Type)(enc:TypeId×Value->H)(W:World)(base:Nat)(args:Array Value)(ds gs:List (DataW H))(before:List MemPlace)
  (hval:∀(j:Nat) t v,Tryz.f5.params[j]? =some t->args[j]? =some v->Value.okWide Tryz.prog W .any base t v)
  (hW:DataW.Whole enc Tryz.prog Tryz.f5.params.toList Rows.syntaxRenamedSpec.vars false W args.toList ds gs before) (hL:laidMet Tryz.prog Rows.syntaxRenamedUptoRow.laid W) (hb:Rows.uptoBulkAll (ds++gs)<=1048576):
  Calls Tryz.prog 5 args W fun e W'=>∃v,e=.returned v/\Rows.syntaxRenamedSpec.post enc Tryz.prog Tryz.f5 false true false false W args v W':=by
 have hW':=hW
 obtain⟨p,q,hA0,hV,rfl,hfz,hnd⟩:=hW
 have hA:DataW.TrodAll enc Tryz.prog W 0 (fun _=>true) true Tryz.f5.params.toList args.toList ds p:=hA0
 obtain⟨rfl,rfl⟩:=trodVars_none hV
 rw[Tryz.params5]at hA hval
 obtain⟨v0,vs0,d0,ds0,p0,q0,hargs0,rfl,rfl,h0,r0⟩:=trodAll_cons hA
 obtain⟨rfl,rfl,rfl⟩:=trodAll_nil r0
 obtain rfl:args=#[v0]:=by cases args;simp_all
 obtain⟨n0,l0,e0,s0,k0⟩:=PK flat (by decide) underlying28 h0 (hval 0 28 v0 rfl rfl)
 obtain⟨x0,rfl⟩:=RO n0 l0 s0
 have hs:=LF x0 (by simp only[List.append_nil,Rows.uptoBulkAll]at hb;omega)
 refine(Nc (pargs:=[.agg (ae x0)]) (zv hs).2 rfl (fun i p v hp hv=>?_) (tabs hL)).mono fun e W' he=>?_
 ·match i,hp,hv with
  |0,hp,hv=>cases hp;cases hv;exact e0
  |i+1,hp,hv=>simp at hp
 ·exact⟨_,he.1,RV (t:=4) lo (by kernel_rfl) underlying4 rfl ⟨rfl,rfl,rfl⟩ rd hW' he.2⟩
noncomputable def laidWorld (os:Os):World:=Wo (World.holding Tryz.prog os ⟨#[],#[],[]⟩) (U5 GE)
theorem laid_met(os:Os):laidMet Tryz.prog Rows.syntaxRenamedUptoRow.laid ((laidWorld os).forCall (fun _ _=>0) ⟨#[],#[.agg #[.int .i64 0,.string ⟨#[]⟩,.int .i64 0,.slice none 0 0,.slice none 0 0,.slice none 0 0,.slice none 0 0]],[]⟩).memory:=
 laidMet_of_run' 8 (by kernel_rfl) (by kernel_rfl)
theorem reads(os:Os){H:Type}(enc:TypeId×Value->H):∃places,DataW.whole enc Tryz.prog ((laidWorld os).forCall (fun _ _=>0) ⟨#[],#[.agg #[.int .i64 0,.string ⟨#[]⟩,.int .i64 0,.slice none 0 0,.slice none 0 0,.slice none 0 0,.slice none 0 0]],[]⟩).memory Tryz.f5.params.toList Rows.syntaxRenamedSpec.vars false (#[.agg #[.int .i64 0,.string ⟨#[]⟩,.int .i64 0,.slice none 0 0,.slice none 0 0,.slice none 0 0,.slice none 0 0]]:Array Value).toList 8=some ([.agg [.lit (.int .i64 0),.lit (.string []),.lit (.int .i64 0),.nil,.nil,.nil,.nil]],[],places):=
 ⟨[],by kernel_rfl⟩
theorem lifted(os:Os)(started:os.Started)(H:Type)(enc:TypeId×Value->H)(F:Stop.Interp):ReturnsInHanded {} Tryz.checked os 5 .any ((Rows.OpenSpec.upto Rows.syntaxRenamedSpec).preRow enc Tryz.prog Tryz.f5 Rows.syntaxRenamedUptoRow.domain false Rows.syntaxRenamedUptoRow.laid) (((Rows.OpenSpec.upto Rows.syntaxRenamedSpec).at F).post enc Tryz.prog Tryz.f5 false true false false):=by
 obtain⟨places,hx⟩:=reads os enc
 refine returnsInHanded_of_row (C:=Tryz.checked) (s:=Rows.OpenSpec.upto Rows.syntaxRenamedSpec) own started (by kernel_rfl) func5
  (witness_row_at (enc:=enc) (C:=Tryz.checked) false (laidWorld os) #[.agg #[.int .i64 0,.string ⟨#[]⟩,.int .i64 0,.slice none 0 0,.slice none 0 0,.slice none 0 0,.slice none 0 0]] rfl (by kernel_rfl) (by kernel_rfl) (by kernel_rfl)
   (OpenSpec.preRow_of_cond 8 hx (by kernel_rfl) (fun k hk=>by cases hk;kernel_rfl) (by kernel_rfl) (laid_met os))) ?_
 intro W base args ds gs before hval hW _ hk _ hL _ _
 exact contract H enc W base args ds gs before hval hW hL (of_decide_eq_true (hk _ rfl))
set_option maxHeartbeats 2000000 in
theorem closed:joinedFacts Tryz.pinned.checked.prog 5 Tryz.f5 (Rows.OpenSpec.upto Rows.syntaxRenamedSpec).bare Rows.syntaxRenamedUptoRow=true:=by
 unfold joinedFacts
 repeat' (with_reducible refine Bool.and_eq_true_iff.2 ⟨?_,?_⟩)
 all_goals as_aux_lemma=>kernel_rfl
theorem said:Rows.SyntaxRenamedUptoSaid:=
 OpenClaim.holds_of_cond 5 Tryz.f5 rfl rfl rfl rfl rfl rfl rfl ⟨rfl,rfl,rfl,rfl,rfl⟩ rfl rfl rfl rfl rfl (by as_aux_lemma=>kernel_rfl) func5 closed
  (of_decide_eq_true (by as_aux_lemma=>kernel_rfl)) (by as_aux_lemma=>unfold Func.isWrapper;first|(rw[if_pos (by decide+kernel)];kernel_rfl)|(rw[if_neg (by decide+kernel)];exact⟨rfl,rfl⟩))
  (fun os started H enc _ F=>by rw[OpenClaim.pre_eq_preRow];exact lifted os started H enc F)
theorem plain(f:FuncId)(fn:Func)(hf:Tryz.pinned.checked.prog.funcNamed "liquidcheck/liquidchecklaw20.SyntaxRenamed" =some f)(hfn:Tryz.pinned.checked.prog.funcs[f]? =some fn):false=Tryz.pinned.checked.prog.looks []∧∀(j:Nat) t,fn.params[j]? =some t→Tryz.pinned.checked.prog.wantsStandIn t=false:=by
 obtain rfl:f=5:=Option.some.inj ((show Tryz.prog.funcNamed "liquidcheck/liquidchecklaw20.SyntaxRenamed" =some 5 by kernel_rfl).symm.trans hf)|>.symm
 obtain rfl:fn=Tryz.f5:=(Option.some.inj (func5.symm.trans hfn)).symm
 refine⟨by kernel_rfl,fun j t ht=>?_⟩
 rw[Tryz.params5]at ht
 have hm:=Array.mem_of_getElem? ht
 simp at hm
 subst hm
 all_goals exact(show Tryz.prog.wantsStandIn _=false by kernel_rfl)
theorem card:Rows.SyntaxRenamedUptoCardSaid:=
 Claim7.holds_tied_plain_at .later [] _ _ _ _ said (fun _ h=>by cases h) (by kernel_rfl) (fun _ h=>by cases h) syntaxRenamedUpto_row_tie rfl ⟨rfl,rfl⟩ (by kernel_rfl) rfl plain (by kernel_rfl)
end Go.Proofs.YtkdahfeiedaahaaGreatDoor.lawSyntaxRenamed
