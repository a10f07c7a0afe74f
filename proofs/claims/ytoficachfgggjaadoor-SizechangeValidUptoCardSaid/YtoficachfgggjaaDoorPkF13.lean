/- PROVED: a part of the proof. Conditions: none. -/
import Derived.Test.YtoficachfgggjaaDoorCards
import Derived.Test.YtoficachfgggjaaDoorTie
import Derived.Test.YtoficachfgggjaaDoorPkF7
import Derived.Test.YtoficachfgggjaaDoorPkF8
import Derived.Test.YtoficachfgggjaaDoorPkF12
import Derived.Deep.DeepHandedRow
import Derived.SizedLaws
noncomputable section
namespace Go.Proofs.YtoficachfgggjaaDoor.lawSizechangeValid
open Go Go.ChangeShapes Go.WideShapes Go.ChangeAt Go.RowKit Go.Proofs.Tryd
set_option maxRecDepth 100000
set_option linter.unusedVariables false
theorem own:ownKnob Tryd.prog.godebug=none:=by kernel_rfl
theorem lo:laidOutB Tryd.prog=true:=by kernel_rfl
theorem flat:AI Tryd.prog [24,9,22,43,3,4]:=B7 (by kernel_rfl)
theorem rd:∀t∈Tryd.f3.params.toList,Tryd.prog.readableRec t=true/\t<Tryd.prog.types.size:=by
 rw[Tryd.params3]
 intro t ht
 simp at ht
 subst ht
 all_goals exact⟨by kernel_rfl,of_decide_eq_true (by kernel_rfl)⟩
theorem tabs{W:World}(h:laidMet Tryd.prog Rows.sizechangeValidUptoRow.laid W):∀x∈GE,Dw W x:=by
 intro x hx
 simp only[GE,List.mem_cons,List.not_mem_nil,or_false]at hx
 rcases hx with rfl|rfl|rfl|rfl
 ·exact A5 (name:= "liquidcheck/names.keywords") h (.tail _<|.tail _<|.tail _<|.head _) (by kernel_rfl) (by kernel_rfl) (by kernel_rfl) underlying101 underlying9 Eo DN
 ·exact ue (name:= "internal/strconv.uint64pow10") h (.tail _<|.tail _<|.head _) (by kernel_rfl) (by kernel_rfl) (by kernel_rfl) underlying115 underlying99 EJ DO
 ·exact ue (name:= "math/bits.deBruijn32tab") h (.head _) (by kernel_rfl) (by kernel_rfl) (by kernel_rfl) underlying120 underlying5 En DP
 ·exact ue (name:= "math/bits.deBruijn64tab") h (.tail _<|.head _) (by kernel_rfl) (by kernel_rfl) (by kernel_rfl) underlying121 underlying5 En DQ
theorem contract(H:Type)(enc:TypeId×Value->H)(W:World)(base:Nat)(args:Array Value)(ds gs:List (DataW H))(before:List MemPlace)
  (hval:∀(j:Nat) t v,Tryd.f3.params[j]? =some t->args[j]? =some v->Value.okWide Tryd.prog W .any base t v)
  (hW:DataW.Whole enc Tryd.prog Tryd.f3.params.toList Rows.sizechangeValidSpec.vars false W args.toList ds gs before) (hL:laidMet Tryd.prog Rows.sizechangeValidUptoRow.laid W) (hb:Rows.uptoBulkAll (ds++gs)<=1048576):
  Calls Tryd.prog 3 args W fun e W'=>∃v,e=.returned v/\Rows.sizechangeValidSpec.post enc Tryd.prog Tryd.f3 false true false false W args v W':=by
 have hW':=hW
 obtain⟨p,q,hA0,hV,rfl,hfz,hnd⟩:=hW
 have hA:DataW.TrodAll enc Tryd.prog W 0 (fun _=>true) true Tryd.f3.params.toList args.toList ds p:=hA0
 obtain⟨rfl,rfl⟩:=trodVars_none hV
 rw[Tryd.params3]at hA hval
 obtain⟨v0,vs0,d0,ds0,p0,q0,hargs0,rfl,rfl,h0,r0⟩:=trodAll_cons hA
 obtain⟨v1,vs1,d1,ds1,p1,q1,hargs1,rfl,rfl,h1,r1⟩:=trodAll_cons r0
 obtain⟨rfl,rfl,rfl⟩:=trodAll_nil r1
 subst hargs1
 obtain rfl:args=#[v0,v1]:=by cases args;simp_all
 obtain⟨n0,l0,e0,s0,k0⟩:=v7 flat (by decide) underlying24 h0 (hval 0 24 v0 rfl rfl)
 have w0:=BF flat (by kernel_rfl) n0 (by decide) s0
 obtain⟨x0,rfl⟩:=v8 n0 l0 s0
 obtain⟨n1,l1,e1,s1,k1⟩:=v7 flat (by decide) underlying24 h1 (hval 1 24 v1 rfl rfl)
 have w1:=BF flat (by kernel_rfl) n1 (by decide) s1
 obtain⟨x1,rfl⟩:=v8 n1 l1 s1
 have hs:=n9 x0 x1 (by simp only[List.append_nil,Rows.uptoBulkAll]at hb;omega) w0 w1
 refine(yu (pargs:=[.agg (ac x0),.agg (ac x1)]) (mz hs).2 rfl (fun i p v hp hv=>?_) (tabs hL)).mono fun e W' he=>?_
 ·match i,hp,hv with
  |0,hp,hv=>cases hp;cases hv;exact e0
  |1,hp,hv=>cases hp;cases hv;exact e1
  |i+2,hp,hv=>simp at hp
 ·exact⟨_,he.1,Bg (t:=4) lo (by kernel_rfl) underlying4 rfl ⟨rfl,rfl,rfl⟩ rd hW' he.2⟩
noncomputable def laidWorld (os:Os):World:=DX (World.holding Tryd.prog os ⟨#[],#[],[]⟩) (C7 GE)
theorem laid_met(os:Os):laidMet Tryd.prog Rows.sizechangeValidUptoRow.laid ((laidWorld os).forCall (fun _ _=>0) ⟨#[],#[.agg #[.string ⟨#[]⟩,.string ⟨#[]⟩,.slice none 0 0],.agg #[.string ⟨#[]⟩,.string ⟨#[]⟩,.slice none 0 0]],[]⟩).memory:=
 laidMet_of_run' 8 (by kernel_rfl) (by kernel_rfl)
theorem reads(os:Os){H:Type}(enc:TypeId×Value->H):∃places,DataW.whole enc Tryd.prog ((laidWorld os).forCall (fun _ _=>0) ⟨#[],#[.agg #[.string ⟨#[]⟩,.string ⟨#[]⟩,.slice none 0 0],.agg #[.string ⟨#[]⟩,.string ⟨#[]⟩,.slice none 0 0]],[]⟩).memory Tryd.f3.params.toList Rows.sizechangeValidSpec.vars false (#[.agg #[.string ⟨#[]⟩,.string ⟨#[]⟩,.slice none 0 0],.agg #[.string ⟨#[]⟩,.string ⟨#[]⟩,.slice none 0 0]]:Array Value).toList 8=some ([.agg [.lit (.string []),.lit (.string []),.nil],.agg [.lit (.string []),.lit (.string []),.nil]],[],places):=
 ⟨[],by kernel_rfl⟩
theorem lifted(os:Os)(started:os.Started)(H:Type)(enc:TypeId×Value->H)(F:Stop.Interp):ReturnsInHanded {} Tryd.checked os 3 .any ((Rows.OpenSpec.upto Rows.sizechangeValidSpec).preRow enc Tryd.prog Tryd.f3 Rows.sizechangeValidUptoRow.domain false Rows.sizechangeValidUptoRow.laid) (((Rows.OpenSpec.upto Rows.sizechangeValidSpec).at F).post enc Tryd.prog Tryd.f3 false true false false):=by
 obtain⟨places,hx⟩:=reads os enc
 refine returnsInHanded_of_row (C:=Tryd.checked) (s:=Rows.OpenSpec.upto Rows.sizechangeValidSpec) own started (by kernel_rfl) func3
  (witness_row_at (enc:=enc) (C:=Tryd.checked) false (laidWorld os) #[.agg #[.string ⟨#[]⟩,.string ⟨#[]⟩,.slice none 0 0],.agg #[.string ⟨#[]⟩,.string ⟨#[]⟩,.slice none 0 0]] rfl (by kernel_rfl) (by kernel_rfl) (by kernel_rfl)
   (OpenSpec.preRow_of_cond 8 hx (by kernel_rfl) (fun k hk=>by cases hk;kernel_rfl) (by kernel_rfl) (laid_met os))) ?_
 intro W base args ds gs before hval hW _ hk _ hL _ _
 exact contract H enc W base args ds gs before hval hW hL (of_decide_eq_true (hk _ rfl))
theorem said:Rows.SizechangeValidUptoSaid:=
 OpenClaim.holds_of_cond 3 Tryd.f3 rfl rfl rfl rfl rfl rfl rfl ⟨rfl,rfl,rfl,rfl,rfl⟩ rfl rfl rfl rfl rfl (by kernel_rfl) func3 (by kernel_rfl)
  (of_decide_eq_true (by kernel_rfl)) (by unfold Func.isWrapper;first|(rw[if_pos (by decide+kernel)];kernel_rfl)|(rw[if_neg (by decide+kernel)];exact⟨rfl,rfl⟩))
  (fun os started H enc _ F=>by rw[OpenClaim.pre_eq_preRow];exact lifted os started H enc F)
theorem plain(f:FuncId)(fn:Func)(hf:Tryd.pinned.checked.prog.funcNamed "liquidcheck/liquidchecklaw49.SizechangeValid" =some f)(hfn:Tryd.pinned.checked.prog.funcs[f]? =some fn):false=Tryd.pinned.checked.prog.looks []∧∀(j:Nat) t,fn.params[j]? =some t→Tryd.pinned.checked.prog.wantsStandIn t=false:=by
 obtain rfl:f=3:=Option.some.inj ((show Tryd.prog.funcNamed "liquidcheck/liquidchecklaw49.SizechangeValid" =some 3 by kernel_rfl).symm.trans hf)|>.symm
 obtain rfl:fn=Tryd.f3:=(Option.some.inj (func3.symm.trans hfn)).symm
 refine⟨by kernel_rfl,fun j t ht=>?_⟩
 rw[Tryd.params3]at ht
 have hm:=Array.mem_of_getElem? ht
 simp at hm
 subst hm
 all_goals exact(show Tryd.prog.wantsStandIn _=false by kernel_rfl)
theorem card:Rows.SizechangeValidUptoCardSaid:=
 Claim7.holds_tied_plain_at .later [] _ _ _ _ said (fun _ h=>by cases h) (by kernel_rfl) (fun _ h=>by cases h) sizechangeValidUpto_row_tie rfl ⟨rfl,rfl⟩ (by kernel_rfl) rfl plain (by kernel_rfl)
end Go.Proofs.YtoficachfgggjaaDoor.lawSizechangeValid
