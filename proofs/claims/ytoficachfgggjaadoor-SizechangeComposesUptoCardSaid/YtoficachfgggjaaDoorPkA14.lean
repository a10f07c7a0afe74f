/- PROVED: a part of the proof. Conditions: none. -/
import Derived.Test.YtoficachfgggjaaDoorCards
import Derived.Test.YtoficachfgggjaaDoorTie
import Derived.Test.YtoficachfgggjaaDoorPkA7
import Derived.Test.YtoficachfgggjaaDoorPkA8
import Derived.Test.YtoficachfgggjaaDoorPkA13
import Derived.Deep.DeepHandedRow
import Derived.SizedLaws
noncomputable section
namespace Go.Proofs.YtoficachfgggjaaDoor.lawSizechangeComposes
open Go Go.ChangeShapes Go.WideShapes Go.ChangeAt Go.RowKit Go.Proofs.Tryd
set_option maxRecDepth 100000
set_option linter.unusedVariables false
theorem own:ownKnob Tryd.prog.godebug=none:=by kernel_rfl
theorem lo:laidOutB Tryd.prog=true:=by kernel_rfl
theorem flat:Ck Tryd.prog [24,9,22,43,3,4]:=Cy (by kernel_rfl)
theorem rd:∀t∈Tryd.f4.params.toList,Tryd.prog.readableRec t=true/\t<Tryd.prog.types.size:=by
 rw[Tryd.params4]
 intro t ht
 simp at ht
 subst ht
 all_goals exact⟨by kernel_rfl,of_decide_eq_true (by kernel_rfl)⟩
theorem tabs{W:World}(h:laidMet Tryd.prog Rows.sizechangeComposesUptoRow.laid W):∀x∈GE,D3 W x:=by
 intro x hx
 simp only[GE,List.mem_cons,List.not_mem_nil,or_false]at hx
 rcases hx with rfl|rfl|rfl|rfl
 ·exact BB (name:= "liquidcheck/names.keywords") h (.tail _<|.tail _<|.tail _<|.head _) (by kernel_rfl) (by kernel_rfl) (by kernel_rfl) underlying101 underlying9 ES Ej
 ·exact ur (name:= "internal/strconv.uint64pow10") h (.tail _<|.tail _<|.head _) (by kernel_rfl) (by kernel_rfl) (by kernel_rfl) underlying115 underlying99 Ff Ek
 ·exact ur (name:= "math/bits.deBruijn32tab") h (.head _) (by kernel_rfl) (by kernel_rfl) (by kernel_rfl) underlying120 underlying5 F1 El
 ·exact ur (name:= "math/bits.deBruijn64tab") h (.tail _<|.head _) (by kernel_rfl) (by kernel_rfl) (by kernel_rfl) underlying121 underlying5 F1 Em
theorem contract(H:Type)(enc:TypeId×Value->H)(W:World)(base:Nat)(args:Array Value)(ds gs:List (DataW H))(before:List MemPlace)
  (hval:∀(j:Nat) t v,Tryd.f4.params[j]? =some t->args[j]? =some v->Value.okWide Tryd.prog W .any base t v)
  (hW:DataW.Whole enc Tryd.prog Tryd.f4.params.toList Rows.sizechangeComposesSpec.vars false W args.toList ds gs before) (hL:laidMet Tryd.prog Rows.sizechangeComposesUptoRow.laid W) (hb:Rows.uptoBulkAll (ds++gs)<=1048576):
  Calls Tryd.prog 4 args W fun e W'=>∃v,e=.returned v/\Rows.sizechangeComposesSpec.post enc Tryd.prog Tryd.f4 false true false false W args v W':=by
 have hW':=hW
 obtain⟨p,q,hA0,hV,rfl,hfz,hnd⟩:=hW
 have hA:DataW.TrodAll enc Tryd.prog W 0 (fun _=>true) true Tryd.f4.params.toList args.toList ds p:=hA0
 obtain⟨rfl,rfl⟩:=trodVars_none hV
 rw[Tryd.params4]at hA hval
 obtain⟨v0,vs0,d0,ds0,p0,q0,hargs0,rfl,rfl,h0,r0⟩:=trodAll_cons hA
 obtain⟨v1,vs1,d1,ds1,p1,q1,hargs1,rfl,rfl,h1,r1⟩:=trodAll_cons r0
 obtain⟨rfl,rfl,rfl⟩:=trodAll_nil r1
 subst hargs1
 obtain rfl:args=#[v0,v1]:=by cases args;simp_all
 obtain⟨n0,l0,e0,s0,k0⟩:=wl flat (by decide) underlying24 h0 (hval 0 24 v0 rfl rfl)
 obtain⟨x0,rfl⟩:=wm n0 l0 s0
 obtain⟨n1,l1,e1,s1,k1⟩:=wl flat (by decide) underlying24 h1 (hval 1 24 v1 rfl rfl)
 obtain⟨x1,rfl⟩:=wm n1 l1 s1
 have hs:=mw x0 x1 (by simp only[List.append_nil,Rows.uptoBulkAll]at hb;omega)
 refine(yR (pargs:=[.agg (ae x0),.agg (ae x1)]) (kT hs).2 rfl (fun i p v hp hv=>?_) (tabs hL)).mono fun e W' he=>?_
 ·match i,hp,hv with
  |0,hp,hv=>cases hp;cases hv;exact e0
  |1,hp,hv=>cases hp;cases hv;exact e1
  |i+2,hp,hv=>simp at hp
 ·exact⟨_,he.1,BI (t:=4) lo (by kernel_rfl) underlying4 rfl ⟨rfl,rfl,rfl⟩ rd hW' he.2⟩
noncomputable def laidWorld (os:Os):World:=Ev (World.holding Tryd.prog os ⟨#[],#[],[]⟩) (DE GE)
theorem laid_met(os:Os):laidMet Tryd.prog Rows.sizechangeComposesUptoRow.laid ((laidWorld os).forCall (fun _ _=>0) ⟨#[],#[.agg #[.string ⟨#[]⟩,.string ⟨#[]⟩,.slice none 0 0],.agg #[.string ⟨#[]⟩,.string ⟨#[]⟩,.slice none 0 0]],[]⟩).memory:=
 laidMet_of_run' 8 (by kernel_rfl) (by kernel_rfl)
theorem reads(os:Os){H:Type}(enc:TypeId×Value->H):∃places,DataW.whole enc Tryd.prog ((laidWorld os).forCall (fun _ _=>0) ⟨#[],#[.agg #[.string ⟨#[]⟩,.string ⟨#[]⟩,.slice none 0 0],.agg #[.string ⟨#[]⟩,.string ⟨#[]⟩,.slice none 0 0]],[]⟩).memory Tryd.f4.params.toList Rows.sizechangeComposesSpec.vars false (#[.agg #[.string ⟨#[]⟩,.string ⟨#[]⟩,.slice none 0 0],.agg #[.string ⟨#[]⟩,.string ⟨#[]⟩,.slice none 0 0]]:Array Value).toList 8=some ([.agg [.lit (.string []),.lit (.string []),.nil],.agg [.lit (.string []),.lit (.string []),.nil]],[],places):=
 ⟨[],by kernel_rfl⟩
theorem lifted(os:Os)(started:os.Started)(H:Type)(enc:TypeId×Value->H)(F:Stop.Interp):ReturnsInHanded {} Tryd.checked os 4 .any ((Rows.OpenSpec.upto Rows.sizechangeComposesSpec).preRow enc Tryd.prog Tryd.f4 Rows.sizechangeComposesUptoRow.domain false Rows.sizechangeComposesUptoRow.laid) (((Rows.OpenSpec.upto Rows.sizechangeComposesSpec).at F).post enc Tryd.prog Tryd.f4 false true false false):=by
 obtain⟨places,hx⟩:=reads os enc
 refine returnsInHanded_of_row (C:=Tryd.checked) (s:=Rows.OpenSpec.upto Rows.sizechangeComposesSpec) own started (by kernel_rfl) func4
  (witness_row_at (enc:=enc) (C:=Tryd.checked) false (laidWorld os) #[.agg #[.string ⟨#[]⟩,.string ⟨#[]⟩,.slice none 0 0],.agg #[.string ⟨#[]⟩,.string ⟨#[]⟩,.slice none 0 0]] rfl (by kernel_rfl) (by kernel_rfl) (by kernel_rfl)
   (OpenSpec.preRow_of_cond 8 hx (by kernel_rfl) (fun k hk=>by cases hk;kernel_rfl) (by kernel_rfl) (laid_met os))) ?_
 intro W base args ds gs before hval hW _ hk _ hL _ _
 exact contract H enc W base args ds gs before hval hW hL (of_decide_eq_true (hk _ rfl))
theorem said:Rows.SizechangeComposesUptoSaid:=
 OpenClaim.holds_of_cond 4 Tryd.f4 rfl rfl rfl rfl rfl rfl rfl ⟨rfl,rfl,rfl,rfl,rfl⟩ rfl rfl rfl rfl rfl (by kernel_rfl) func4 (by kernel_rfl)
  (of_decide_eq_true (by kernel_rfl)) (by unfold Func.isWrapper;first|(rw[if_pos (by decide+kernel)];kernel_rfl)|(rw[if_neg (by decide+kernel)];exact⟨rfl,rfl⟩))
  (fun os started H enc _ F=>by rw[OpenClaim.pre_eq_preRow];exact lifted os started H enc F)
theorem plain(f:FuncId)(fn:Func)(hf:Tryd.pinned.checked.prog.funcNamed "liquidcheck/liquidchecklaw49.SizechangeComposes" =some f)(hfn:Tryd.pinned.checked.prog.funcs[f]? =some fn):false=Tryd.pinned.checked.prog.looks []∧∀(j:Nat) t,fn.params[j]? =some t→Tryd.pinned.checked.prog.wantsStandIn t=false:=by
 obtain rfl:f=4:=Option.some.inj ((show Tryd.prog.funcNamed "liquidcheck/liquidchecklaw49.SizechangeComposes" =some 4 by kernel_rfl).symm.trans hf)|>.symm
 obtain rfl:fn=Tryd.f4:=(Option.some.inj (func4.symm.trans hfn)).symm
 refine⟨by kernel_rfl,fun j t ht=>?_⟩
 rw[Tryd.params4]at ht
 have hm:=Array.mem_of_getElem? ht
 simp at hm
 subst hm
 all_goals exact(show Tryd.prog.wantsStandIn _=false by kernel_rfl)
theorem card:Rows.SizechangeComposesUptoCardSaid:=
 Claim7.holds_tied_plain_at .later [] _ _ _ _ said (fun _ h=>by cases h) (by kernel_rfl) (fun _ h=>by cases h) sizechangeComposesUpto_row_tie rfl ⟨rfl,rfl⟩ (by kernel_rfl) rfl plain (by kernel_rfl)
end Go.Proofs.YtoficachfgggjaaDoor.lawSizechangeComposes
