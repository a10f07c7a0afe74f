/- PROVED: a part of the proof. Conditions: none. -/
import Derived.Test.YtibglelmlnfojaaGreatDoorCards
import Derived.Test.YtibglelmlnfojaaGreatDoorTie
import Derived.Test.YtibglelmlnfojaaGreatDoorpt8
import Derived.Test.YtibglelmlnfojaaGreatDoorpt9
import Derived.Test.YtibglelmlnfojaaGreatDoorpt23
import Derived.Deep.DeepHandedRow
import Derived.SizedLaws
set_option linter.unusedSimpArgs false
set_option linter.unusedVariables false
noncomputable section
namespace Go.Proofs.YtibglelmlnfojaaGreatDoor.lawPrintTexts
open Go Go.ChangeShapes Go.WideShapes Go.ChangeAt Go.RowKit Go.Proofs.Tryz
set_option maxRecDepth 100000
set_option linter.unusedVariables false
theorem own:ownKnob Tryz.prog.godebug=none:=by kernel_rfl
theorem lo:laidOutB Tryz.prog=true:=by kernel_rfl
theorem flat:qga Tryz.prog [30,22,9,23,24,28,25,3,26,36,31,32,33,114,34,116]:=qg3 (by kernel_rfl)
theorem rd:∀t∈Tryz.f3.params.toList,Tryz.prog.readableRec t=true/\t<Tryz.prog.types.size:=by
 rw[Tryz.params3]
 intro t ht
 simp at ht
 rcases ht with rfl|rfl
 all_goals exact⟨by kernel_rfl,of_decide_eq_true (by kernel_rfl)⟩
theorem tabs{W:World}(h:laidMet Tryz.prog Rows.printTextsUptoRow.laid W):∀x∈GE,qj4 W x:=by
 intro x hx
 simp only[GE,List.mem_cons,List.not_mem_nil,or_false]at hx
 rcases hx with rfl|rfl|rfl|rfl|rfl
 ·exact YF (name:= "liquidcheck/print.signs") h (.tail _<|.tail _<|.tail _<|.tail _<|.head _) (by kernel_rfl) (by kernel_rfl) (by kernel_rfl) underlying156 underlying9 qjl qk1
 ·exact YF (name:= "liquidcheck/names.keywords") h (.tail _<|.tail _<|.tail _<|.head _) (by kernel_rfl) (by kernel_rfl) (by kernel_rfl) underlying229 underlying9 qjl qk6
 ·exact SB (name:= "internal/strconv.uint64pow10") h (.tail _<|.tail _<|.head _) (by kernel_rfl) (by kernel_rfl) (by kernel_rfl) underlying240 underlying224 qk5 qk7
 ·exact SB (name:= "math/bits.deBruijn32tab") h (.head _) (by kernel_rfl) (by kernel_rfl) (by kernel_rfl) underlying247 underlying5 ql2 qk8
 ·exact SB (name:= "math/bits.deBruijn64tab") h (.tail _<|.head _) (by kernel_rfl) (by kernel_rfl) (by kernel_rfl) underlying248 underlying5 ql2 qk9
theorem contract(H:Type)(enc:TypeId×Value->H)(W:World)(base:Nat)(args:Array Value)(ds gs:List (DataW H))(before:List MemPlace)
  (hval:∀(j:Nat) t v,Tryz.f3.params[j]? =some t->args[j]? =some v->Value.okWide Tryz.prog W .any base t v)
  (hW:DataW.Whole enc Tryz.prog Tryz.f3.params.toList Rows.printTextsSpec.vars false W args.toList ds gs before) (hL:laidMet Tryz.prog Rows.printTextsUptoRow.laid W) (hb:Rows.uptoBulkAll (ds++gs)<=1048576):
  Calls Tryz.prog 3 args W λe W'=>∃v,e=.returned v/\Rows.printTextsSpec.post enc Tryz.prog Tryz.f3 false true false false W args v W':=by
 have hW':=hW
 obtain⟨p,q,hA0,hV,rfl,hfz,hnd⟩:=hW
 have hA:DataW.TrodAll enc Tryz.prog W 0 (λ_=>true) true Tryz.f3.params.toList args.toList ds p:=hA0
 obtain⟨rfl,rfl⟩:=trodVars_none hV
 rw[Tryz.params3]at hA hval
 obtain⟨v0,vs0,d0,ds0,p0,q0,hargs0,rfl,rfl,h0,r0⟩:=trodAll_cons hA
 obtain⟨v1,vs1,d1,ds1,p1,q1,hargs1,rfl,rfl,h1,r1⟩:=trodAll_cons r0
 obtain⟨rfl,rfl,rfl⟩:=trodAll_nil r1
 subst hargs1
 obtain rfl:args=#[v0,v1]:=by cases args;simp_all
 obtain⟨n0,l0,e0,s0,k0⟩:=Vb flat (by decide) underlying30 h0 (hval 0 30 v0 rfl rfl)
 obtain⟨x0,rfl⟩:=SF n0 l0 s0
 obtain⟨n1,l1,e1,s1,k1⟩:=Vb flat (by decide) underlying36 h1 (hval 1 36 v1 rfl rfl)
 obtain⟨x1,rfl⟩:=qeH n1 l1 s1
 have hs:=QA x0 x1 (by simp only[List.append_nil,Rows.uptoBulkAll]at hb;omega)
 refine(Zu (Td:=[.agg (ai x0),.agg (ah x1)]) (LY _ hs).2 rfl (λi p v hp hv=>?_) (tabs hL)).mono λe W' he=>?_
 ·match i,hp,hv with
  |0,hp,hv=>cases hp;cases hv;exact e0
  |1,hp,hv=>cases hp;cases hv;exact e1
  |i+2,hp,hv=>simp at hp
 ·exact⟨_,he.1,qeP (t:=4) lo (by kernel_rfl) underlying4 rfl ⟨rfl,rfl,rfl⟩ rd hW' he.2⟩
noncomputable def laidWorld (os:Os):World:=qli (World.holding Tryz.prog os ⟨#[],#[],[]⟩) (qjO GE)
theorem laid_met(os:Os):laidMet Tryz.prog Rows.printTextsUptoRow.laid ((laidWorld os).forCall (λ_ _=>0) ⟨#[],#[.agg #[.int .i64 0,.string ⟨#[]⟩,.slice none 0 0,.slice none 0 0,.int .i64 0,.string ⟨#[]⟩,.int .i64 0,.slice none 0 0,.slice none 0 0],.agg #[.int .i64 0,.string ⟨#[]⟩,.int .i64 0,.slice none 0 0,.slice none 0 0,.slice none 0 0,.slice none 0 0]],[]⟩).memory:=
 laidMet_of_run' 8 (by kernel_rfl) (by kernel_rfl)
theorem reads(os:Os){H:Type}(enc:TypeId×Value->H):∃places,DataW.whole enc Tryz.prog ((laidWorld os).forCall (λ_ _=>0) ⟨#[],#[.agg #[.int .i64 0,.string ⟨#[]⟩,.slice none 0 0,.slice none 0 0,.int .i64 0,.string ⟨#[]⟩,.int .i64 0,.slice none 0 0,.slice none 0 0],.agg #[.int .i64 0,.string ⟨#[]⟩,.int .i64 0,.slice none 0 0,.slice none 0 0,.slice none 0 0,.slice none 0 0]],[]⟩).memory Tryz.f3.params.toList Rows.printTextsSpec.vars false (#[.agg #[.int .i64 0,.string ⟨#[]⟩,.slice none 0 0,.slice none 0 0,.int .i64 0,.string ⟨#[]⟩,.int .i64 0,.slice none 0 0,.slice none 0 0],.agg #[.int .i64 0,.string ⟨#[]⟩,.int .i64 0,.slice none 0 0,.slice none 0 0,.slice none 0 0,.slice none 0 0]]:Array Value).toList 8=some ([.agg [.lit (.int .i64 0),.lit (.string []),.nil,.nil,.agg [.lit (.int .i64 0),.lit (.string []),.lit (.int .i64 0),.nil],.nil],.agg [.lit (.int .i64 0),.lit (.string []),.lit (.int .i64 0),.nil,.nil,.nil,.nil]],[],places):=
 ⟨[],by kernel_rfl⟩
theorem lifted(os:Os)(started:os.Started)(H:Type)(enc:TypeId×Value->H)(F:Stop.Interp):ReturnsInHanded {} Tryz.checked os 3 .any ((Rows.OpenSpec.upto Rows.printTextsSpec).preRow enc Tryz.prog Tryz.f3 Rows.printTextsUptoRow.domain false Rows.printTextsUptoRow.laid) (((Rows.OpenSpec.upto Rows.printTextsSpec).at F).post enc Tryz.prog Tryz.f3 false true false false):=by
 obtain⟨places,hx⟩:=reads os enc
 refine returnsInHanded_of_row (C:=Tryz.checked) (s:=Rows.OpenSpec.upto Rows.printTextsSpec) own started (by kernel_rfl) func3
  (witness_row_at (enc:=enc) (C:=Tryz.checked) false (laidWorld os) #[.agg #[.int .i64 0,.string ⟨#[]⟩,.slice none 0 0,.slice none 0 0,.int .i64 0,.string ⟨#[]⟩,.int .i64 0,.slice none 0 0,.slice none 0 0],.agg #[.int .i64 0,.string ⟨#[]⟩,.int .i64 0,.slice none 0 0,.slice none 0 0,.slice none 0 0,.slice none 0 0]] rfl (by kernel_rfl) (by kernel_rfl) (by kernel_rfl)
   (OpenSpec.preRow_of_cond 8 hx (by kernel_rfl) (λk hk=>by cases hk;kernel_rfl) (by kernel_rfl) (laid_met os))) ?_
 intro W base args ds gs before hval hW _ hk _ hL _ _
 exact contract H enc W base args ds gs before hval hW hL (of_decide_eq_true (hk _ rfl))
set_option maxHeartbeats 2000000 in
theorem closed:joinedFacts Tryz.pinned.checked.prog 3 Tryz.f3 (Rows.OpenSpec.upto Rows.printTextsSpec).bare Rows.printTextsUptoRow=true:=by
 unfold joinedFacts
 repeat' (with_reducible refine Bool.and_eq_true_iff.2 ⟨?_,?_⟩)
 all_goals as_aux_lemma=>kernel_rfl
theorem said:Rows.PrintTextsUptoSaid:=
 OpenClaim.holds_of_cond 3 Tryz.f3 rfl rfl rfl rfl rfl rfl rfl ⟨rfl,rfl,rfl,rfl,rfl⟩ rfl rfl rfl rfl rfl (by as_aux_lemma=>kernel_rfl) func3 closed
  (of_decide_eq_true (by as_aux_lemma=>kernel_rfl)) (by as_aux_lemma=>unfold Func.isWrapper;first|(rw[if_pos (by decide+kernel)];kernel_rfl)|(rw[if_neg (by decide+kernel)];exact⟨rfl,rfl⟩))
  (λos started H enc _ F=>by rw[OpenClaim.pre_eq_preRow];exact lifted os started H enc F)
theorem plain(f:FuncId)(fn:Func)(hf:Tryz.pinned.checked.prog.funcNamed "liquidcheck/liquidchecklaw22.PrintTexts" =some f)(hfn:Tryz.pinned.checked.prog.funcs[f]? =some fn):false=Tryz.pinned.checked.prog.looks []∧∀(j:Nat) t,fn.params[j]? =some t→Tryz.pinned.checked.prog.wantsStandIn t=false:=by
 obtain rfl:f=3:=Option.some.inj ((show Tryz.prog.funcNamed "liquidcheck/liquidchecklaw22.PrintTexts" =some 3 by kernel_rfl).symm.trans hf)|>.symm
 obtain rfl:fn=Tryz.f3:=(Option.some.inj (func3.symm.trans hfn)).symm
 refine⟨by kernel_rfl,λj t ht=>?_⟩
 rw[Tryz.params3]at ht
 have hm:=Array.mem_of_getElem? ht
 simp at hm
 rcases hm with rfl|rfl
 all_goals exact(show Tryz.prog.wantsStandIn _=false by kernel_rfl)
theorem card:Rows.PrintTextsUptoCardSaid:=
 Claim7.holds_tied_plain_at .later [] _ _ _ _ said (λ_ h=>by cases h) (by kernel_rfl) (λ_ h=>by cases h) printTextsUpto_row_tie rfl ⟨rfl,rfl⟩ (by kernel_rfl) rfl plain (by kernel_rfl)
end Go.Proofs.YtibglelmlnfojaaGreatDoor.lawPrintTexts
