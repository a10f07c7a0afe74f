/- PROVED: a part of the proof. Conditions: none. -/
import Derived.Test.YtoficachfgggjaaDoorCards
import Derived.Test.YtoficachfgggjaaDoorTie
import Derived.Test.YtoficachfgggjaaDoorPkB7
import Derived.Test.YtoficachfgggjaaDoorPkB8
import Derived.Test.YtoficachfgggjaaDoorPkB11
import Derived.Deep.DeepHandedRow
import Derived.SizedLaws
noncomputable section
namespace Go.Proofs.YtoficachfgggjaaDoor.lawSizechangeAssociates
open Go Go.ChangeShapes Go.WideShapes Go.ChangeAt Go.RowKit Go.Proofs.Tryd
set_option maxRecDepth 100000
set_option linter.unusedVariables false
theorem own:ownKnob Tryd.prog.godebug=none:=by kernel_rfl
theorem lo:laidOutB Tryd.prog=true:=by kernel_rfl
theorem flat:yH Tryd.prog [24,9,22,43,3,4]:=yX (by kernel_rfl)
theorem rd:∀t∈Tryd.f6.params.toList,Tryd.prog.readableRec t=true/\t<Tryd.prog.types.size:=by
 rw[Tryd.params6]
 intro t ht
 simp at ht
 subst ht
 all_goals exact⟨by kernel_rfl,of_decide_eq_true (by kernel_rfl)⟩
theorem tabs{W:World}(h:laidMet Tryd.prog Rows.sizechangeAssociatesUptoRow.laid W):∀x∈GE,Ap W x:=by
 intro x hx
 simp only[GE,List.mem_cons,List.not_mem_nil,or_false]at hx
 rcases hx with rfl|rfl|rfl|rfl
 ·exact xS (name:= "liquidcheck/names.keywords") h (.tail _<|.tail _<|.tail _<|.head _) (by kernel_rfl) (by kernel_rfl) (by kernel_rfl) underlying101 underlying9 B6 AC
 ·exact qv (name:= "internal/strconv.uint64pow10") h (.tail _<|.tail _<|.head _) (by kernel_rfl) (by kernel_rfl) (by kernel_rfl) underlying115 underlying99 Bt AD
 ·exact qv (name:= "math/bits.deBruijn32tab") h (.head _) (by kernel_rfl) (by kernel_rfl) (by kernel_rfl) underlying120 underlying5 B5 AE
 ·exact qv (name:= "math/bits.deBruijn64tab") h (.tail _<|.head _) (by kernel_rfl) (by kernel_rfl) (by kernel_rfl) underlying121 underlying5 B5 AF
theorem contract(H:Type)(enc:TypeId×Value->H)(W:World)(base:Nat)(args:Array Value)(ds gs:List (DataW H))(before:List MemPlace)
  (hval:∀(j:Nat) t v,Tryd.f6.params[j]? =some t->args[j]? =some v->Value.okWide Tryd.prog W .any base t v)
  (hW:DataW.Whole enc Tryd.prog Tryd.f6.params.toList Rows.sizechangeAssociatesSpec.vars false W args.toList ds gs before) (hL:laidMet Tryd.prog Rows.sizechangeAssociatesUptoRow.laid W) (hb:Rows.uptoBulkAll (ds++gs)<=1048576):
  Calls Tryd.prog 6 args W fun e W'=>∃v,e=.returned v/\Rows.sizechangeAssociatesSpec.post enc Tryd.prog Tryd.f6 false true false false W args v W':=by
 have hW':=hW
 obtain⟨p,q,hA0,hV,rfl,hfz,hnd⟩:=hW
 have hA:DataW.TrodAll enc Tryd.prog W 0 (fun _=>true) true Tryd.f6.params.toList args.toList ds p:=hA0
 obtain⟨rfl,rfl⟩:=trodVars_none hV
 rw[Tryd.params6]at hA hval
 obtain⟨v0,vs0,d0,ds0,p0,q0,hargs0,rfl,rfl,h0,r0⟩:=trodAll_cons hA
 obtain⟨v1,vs1,d1,ds1,p1,q1,hargs1,rfl,rfl,h1,r1⟩:=trodAll_cons r0
 obtain⟨v2,vs2,d2,ds2,p2,q2,hargs2,rfl,rfl,h2,r2⟩:=trodAll_cons r1
 obtain⟨rfl,rfl,rfl⟩:=trodAll_nil r2
 subst hargs2
 subst hargs1
 obtain rfl:args=#[v0,v1,v2]:=by cases args;simp_all
 obtain⟨n0,l0,e0,s0,k0⟩:=oK flat (by decide) underlying24 h0 (hval 0 24 v0 rfl rfl)
 obtain⟨x0,rfl⟩:=oL n0 l0 s0
 obtain⟨n1,l1,e1,s1,k1⟩:=oK flat (by decide) underlying24 h1 (hval 1 24 v1 rfl rfl)
 obtain⟨x1,rfl⟩:=oL n1 l1 s1
 obtain⟨n2,l2,e2,s2,k2⟩:=oK flat (by decide) underlying24 h2 (hval 2 24 v2 rfl rfl)
 obtain⟨x2,rfl⟩:=oL n2 l2 s2
 have hs:=jn x0 x1 x2 (by simp only[List.append_nil,Rows.uptoBulkAll]at hb;omega)
 refine(uD (pargs:=[.agg (ae x0),.agg (ae x1),.agg (ae x2)]) (ir hs).2 rfl (fun i p v hp hv=>?_) (tabs hL)).mono fun e W' he=>?_
 ·match i,hp,hv with
  |0,hp,hv=>cases hp;cases hv;exact e0
  |1,hp,hv=>cases hp;cases hv;exact e1
  |2,hp,hv=>cases hp;cases hv;exact e2
  |i+3,hp,hv=>simp at hp
 ·exact⟨_,he.1,xZ (t:=4) lo (by kernel_rfl) underlying4 rfl ⟨rfl,rfl,rfl⟩ rd hW' he.2⟩
noncomputable def laidWorld (os:Os):World:=AN (World.holding Tryd.prog os ⟨#[],#[],[]⟩) (zX GE)
theorem laid_met(os:Os):laidMet Tryd.prog Rows.sizechangeAssociatesUptoRow.laid ((laidWorld os).forCall (fun _ _=>0) ⟨#[],#[.agg #[.string ⟨#[]⟩,.string ⟨#[]⟩,.slice none 0 0],.agg #[.string ⟨#[]⟩,.string ⟨#[]⟩,.slice none 0 0],.agg #[.string ⟨#[]⟩,.string ⟨#[]⟩,.slice none 0 0]],[]⟩).memory:=
 laidMet_of_run' 8 (by kernel_rfl) (by kernel_rfl)
theorem reads(os:Os){H:Type}(enc:TypeId×Value->H):∃places,DataW.whole enc Tryd.prog ((laidWorld os).forCall (fun _ _=>0) ⟨#[],#[.agg #[.string ⟨#[]⟩,.string ⟨#[]⟩,.slice none 0 0],.agg #[.string ⟨#[]⟩,.string ⟨#[]⟩,.slice none 0 0],.agg #[.string ⟨#[]⟩,.string ⟨#[]⟩,.slice none 0 0]],[]⟩).memory Tryd.f6.params.toList Rows.sizechangeAssociatesSpec.vars false (#[.agg #[.string ⟨#[]⟩,.string ⟨#[]⟩,.slice none 0 0],.agg #[.string ⟨#[]⟩,.string ⟨#[]⟩,.slice none 0 0],.agg #[.string ⟨#[]⟩,.string ⟨#[]⟩,.slice none 0 0]]:Array Value).toList 8=some ([.agg [.lit (.string []),.lit (.string []),.nil],.agg [.lit (.string []),.lit (.string []),.nil],.agg [.lit (.string []),.lit (.string []),.nil]],[],places):=
 ⟨[],by kernel_rfl⟩
theorem lifted(os:Os)(started:os.Started)(H:Type)(enc:TypeId×Value->H)(F:Stop.Interp):ReturnsInHanded {} Tryd.checked os 6 .any ((Rows.OpenSpec.upto Rows.sizechangeAssociatesSpec).preRow enc Tryd.prog Tryd.f6 Rows.sizechangeAssociatesUptoRow.domain false Rows.sizechangeAssociatesUptoRow.laid) (((Rows.OpenSpec.upto Rows.sizechangeAssociatesSpec).at F).post enc Tryd.prog Tryd.f6 false true false false):=by
 obtain⟨places,hx⟩:=reads os enc
 refine returnsInHanded_of_row (C:=Tryd.checked) (s:=Rows.OpenSpec.upto Rows.sizechangeAssociatesSpec) own started (by kernel_rfl) func6
  (witness_row_at (enc:=enc) (C:=Tryd.checked) false (laidWorld os) #[.agg #[.string ⟨#[]⟩,.string ⟨#[]⟩,.slice none 0 0],.agg #[.string ⟨#[]⟩,.string ⟨#[]⟩,.slice none 0 0],.agg #[.string ⟨#[]⟩,.string ⟨#[]⟩,.slice none 0 0]] rfl (by kernel_rfl) (by kernel_rfl) (by kernel_rfl)
   (OpenSpec.preRow_of_cond 8 hx (by kernel_rfl) (fun k hk=>by cases hk;kernel_rfl) (by kernel_rfl) (laid_met os))) ?_
 intro W base args ds gs before hval hW _ hk _ hL _ _
 exact contract H enc W base args ds gs before hval hW hL (of_decide_eq_true (hk _ rfl))
theorem said:Rows.SizechangeAssociatesUptoSaid:=
 OpenClaim.holds_of_cond 6 Tryd.f6 rfl rfl rfl rfl rfl rfl rfl ⟨rfl,rfl,rfl,rfl,rfl⟩ rfl rfl rfl rfl rfl (by kernel_rfl) func6 (by kernel_rfl)
  (of_decide_eq_true (by kernel_rfl)) (by unfold Func.isWrapper;first|(rw[if_pos (by decide+kernel)];kernel_rfl)|(rw[if_neg (by decide+kernel)];exact⟨rfl,rfl⟩))
  (fun os started H enc _ F=>by rw[OpenClaim.pre_eq_preRow];exact lifted os started H enc F)
theorem plain(f:FuncId)(fn:Func)(hf:Tryd.pinned.checked.prog.funcNamed "liquidcheck/liquidchecklaw49.SizechangeAssociates" =some f)(hfn:Tryd.pinned.checked.prog.funcs[f]? =some fn):false=Tryd.pinned.checked.prog.looks []∧∀(j:Nat) t,fn.params[j]? =some t→Tryd.pinned.checked.prog.wantsStandIn t=false:=by
 obtain rfl:f=6:=Option.some.inj ((show Tryd.prog.funcNamed "liquidcheck/liquidchecklaw49.SizechangeAssociates" =some 6 by kernel_rfl).symm.trans hf)|>.symm
 obtain rfl:fn=Tryd.f6:=(Option.some.inj (func6.symm.trans hfn)).symm
 refine⟨by kernel_rfl,fun j t ht=>?_⟩
 rw[Tryd.params6]at ht
 have hm:=Array.mem_of_getElem? ht
 simp at hm
 subst hm
 all_goals exact(show Tryd.prog.wantsStandIn _=false by kernel_rfl)
theorem card:Rows.SizechangeAssociatesUptoCardSaid:=
 Claim7.holds_tied_plain_at .later [] _ _ _ _ said (fun _ h=>by cases h) (by kernel_rfl) (fun _ h=>by cases h) sizechangeAssociatesUpto_row_tie rfl ⟨rfl,rfl⟩ (by kernel_rfl) rfl plain (by kernel_rfl)
end Go.Proofs.YtoficachfgggjaaDoor.lawSizechangeAssociates
