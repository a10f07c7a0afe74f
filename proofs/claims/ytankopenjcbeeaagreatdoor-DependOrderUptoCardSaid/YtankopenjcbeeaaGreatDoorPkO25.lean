/- PROVED: a part of the proof. Conditions: none. -/
import Derived.Test.YtankopenjcbeeaaGreatDoorCards
import Derived.Test.YtankopenjcbeeaaGreatDoorTie
import Derived.Test.YtankopenjcbeeaaGreatDoorPkO9
import Derived.Test.YtankopenjcbeeaaGreatDoorPkO10
import Derived.Test.YtankopenjcbeeaaGreatDoorPkO24
import Derived.Deep.DeepHandedRow
import Derived.SizedLaws
set_option linter.unusedSimpArgs false set_option linter.defProp false
set_option linter.unusedVariables false
noncomputable section
namespace Go.Proofs.YtankopenjcbeeaaGreatDoor.lawDependOrder
open Go Go.ChangeShapes Go.WideShapes Go.ChangeAt Go.RowKit Go.Proofs.Tryz
open Option renaming some→O,none→N
open Go renaming TypeId→G,Value→D,Program→I,Oper→M,World→J,Code→W
open Bool renaming true→T,false→Z
open Decidable renaming decide→Y
open YtankopenjcbeeaaGreatDoor renaming PVal→U
set_option maxRecDepth 100000
def own:ownKnob Tryz.prog.godebug=N:=by kernel_rfl
def lo:laidOutB Tryz.prog=true:=by kernel_rfl
def qzI:qkw Tryz.prog [29,22,116,9,32,113,212,117,114,207,48,61,55,59,56,3,57,23,164,162,208,24,167,52,223,27,65,50,44,45,46,185,47,124,51,4,63,53,194,54,197,25,120,118,211,26,122]:=qld (by kernel_rfl)
def rd:∀t∈Tryz.f6.params.toList,Tryz.prog.readableRec t=T/\t<Tryz.prog.types.size:=by rw[Tryz.params6];intro t a;simp at a;subst a;all_goals exact⟨by kernel_rfl,of_decide_eq_true (by kernel_rfl)⟩
def qzK{b:J}(h:laidMet Tryz.prog Rows.dependOrderUptoRow.laid b):∀x∈GE,qo9 b x:=by
 intro x a;simp only[GE,List.mem_cons,List.not_mem_nil,or_false]at a;rcases a with rfl|rfl|rfl|rfl|rfl;.exact qbt (name:= "liquidcheck/print.signs") h (.tail _<|.tail _<|.tail _<|.tail _<|.head _) (by kernel_rfl) (by kernel_rfl) (by kernel_rfl) underlying231 underlying9 qnK qqj
 .exact qbt (name:= "liquidcheck/names.keywords") h (.tail _<|.tail _<|.tail _<|.head _) (by kernel_rfl) (by kernel_rfl) (by kernel_rfl) underlying257 underlying9 qnK qql
 .exact Vv (name:= "internal/strconv.uint64pow10") h (.tail _<|.tail _<|.head _) (by kernel_rfl) (by kernel_rfl) (by kernel_rfl) underlying287 underlying152 qqf qqm
 .exact Vv (name:= "math/bits.deBruijn32tab") h (.head _) (by kernel_rfl) (by kernel_rfl) (by kernel_rfl) underlying293 underlying5 qrD qqo
 .exact Vv (name:= "math/bits.deBruijn64tab") h (.tail _<|.head _) (by kernel_rfl) (by kernel_rfl) (by kernel_rfl) underlying294 underlying5 qrD qqp
def qyZ(H:Type)(d:G×D->H)(a2:J)(base:Nat)(a:Array D)(r x:List (DataW H))(b:List MemPlace)
  (c:∀(j:Nat) t v,Tryz.f6.params[j]? =O t->a[j]? =O v->Value.okWide Tryz.prog a2 .any base t v)
  (z:DataW.Whole d Tryz.prog Tryz.f6.params.toList Rows.dependOrderSpec.vars Z a2 a.toList r x b) (P:laidMet Tryz.prog Rows.dependOrderUptoRow.laid a2) (S:Rows.uptoBulkAll (r++x)<=1048576):
  Calls Tryz.prog 6 a a2 λe W'=>∃v,e=.returned v/\Rows.dependOrderSpec.post d Tryz.prog Tryz.f6 Z T Z Z a2 a v W':=by
 have w:=z
 obtain⟨p,q,s,R,rfl,X,a0⟩:=z
 have y:DataW.TrodAll d Tryz.prog a2 0 (λ_=>T) T Tryz.f6.params.toList a.toList r p:=s
 obtain⟨rfl,rfl⟩:=trodVars_none R
 rw[Tryz.params6]at y c
 obtain⟨v0,a1,d0,E,p0,q0,m,rfl,rfl,L,r0⟩:=trodAll_cons y
 obtain⟨rfl,rfl,rfl⟩:=trodAll_nil r0
 obtain rfl:a=#[v0]:=by cases a;simp_all
 let⟨n0,l0,F,s0,k0⟩:=qgf qzI (by decide) underlying29 L (c 0 29 v0 rfl rfl)
 obtain⟨B,rfl⟩:=qdy n0 l0 s0
 have hs:=So B (by simp only[List.append_nil,Rows.uptoBulkAll]at S;omega)
 refine(qcv (pargs:=[.agg (au B)]) (NN _ hs).2 rfl (λi p v h o=>?_) (qzK P)).mono λe W' A=>?_
 .match i,h,o with
  |0,h,o=>cases h;cases o;exact F
  |i+1,h,o=>simp at h
 .exact⟨_,A.1,qiL (t:=4) lo (by kernel_rfl) underlying4 rfl ⟨rfl,rfl,rfl⟩ rd w A.2⟩
noncomputable def qxk (a:Os):J:=qqF (World.holding Tryz.prog a ⟨#[],#[],[]⟩) (qoJ GE)
def qza(a:Os):laidMet Tryz.prog Rows.dependOrderUptoRow.laid ((qxk a).forCall (λ_ _=>0) ⟨#[],#[.agg #[.slice N 0 0,.slice N 0 0,.slice N 0 0,.slice N 0 0,.slice N 0 0,.slice N 0 0]],[]⟩).memory:=
 laidMet_of_run' 8 (by kernel_rfl) (by kernel_rfl)
def qzA(c:Os){H:Type}(b:G×D->H):∃a,DataW.whole b Tryz.prog ((qxk c).forCall (λ_ _=>0) ⟨#[],#[.agg #[.slice N 0 0,.slice N 0 0,.slice N 0 0,.slice N 0 0,.slice N 0 0,.slice N 0 0]],[]⟩).memory Tryz.f6.params.toList Rows.dependOrderSpec.vars Z (#[.agg #[.slice N 0 0,.slice N 0 0,.slice N 0 0,.slice N 0 0,.slice N 0 0,.slice N 0 0]]:Array D).toList 8=O ([.agg [.nil,.nil,.nil,.nil,.nil,.nil]],[],a):=
 ⟨[],by kernel_rfl⟩
def qzi(e:Os)(a:e.Started)(H:Type)(enc:G×D->H)(F:Stop.Interp):ReturnsInHanded {} Tryz.checked e 6 .any ((Rows.OpenSpec.upto Rows.dependOrderSpec).preRow enc Tryz.prog Tryz.f6 Rows.dependOrderUptoRow.domain Z Rows.dependOrderUptoRow.laid) (((Rows.OpenSpec.upto Rows.dependOrderSpec).at F).post enc Tryz.prog Tryz.f6 Z T Z Z):=by
 let⟨h,r⟩:=qzA e enc
 refine returnsInHanded_of_row (C:=Tryz.checked) (s:=Rows.OpenSpec.upto Rows.dependOrderSpec) own a (by kernel_rfl) func6
  (witness_row_at (enc:=enc) (C:=Tryz.checked) Z (qxk e) #[.agg #[.slice N 0 0,.slice N 0 0,.slice N 0 0,.slice N 0 0,.slice N 0 0,.slice N 0 0]] rfl (by kernel_rfl) (by kernel_rfl) (by kernel_rfl)
   (OpenSpec.preRow_of_cond 8 r (by kernel_rfl) (λk i=>by cases i;kernel_rfl) (by kernel_rfl) (qza e))) ?_
 intro t base c m o b d q _ i _ p _ _;exact qyZ H enc t base c m o b d q p (of_decide_eq_true (i _ rfl))
set_option maxHeartbeats 2000000 in
def closed:joinedFacts Tryz.pinned.checked.prog 6 Tryz.f6 (Rows.OpenSpec.upto Rows.dependOrderSpec).bare Rows.dependOrderUptoRow=true:=by
 unfold joinedFacts;repeat' (with_reducible refine Bool.and_eq_true_iff.2 ⟨?_,?_⟩)
 all_goals as_aux_lemma=>kernel_rfl
def qzJ:Rows.DependOrderUptoSaid:=
 OpenClaim.holds_of_cond 6 Tryz.f6 rfl rfl rfl rfl rfl rfl rfl ⟨rfl,rfl,rfl,rfl,rfl⟩ rfl rfl rfl rfl rfl (by as_aux_lemma=>kernel_rfl) func6 closed
  (of_decide_eq_true (by as_aux_lemma=>kernel_rfl)) (by as_aux_lemma=>unfold Func.isWrapper;first|(rw[if_pos (by decide+kernel)];kernel_rfl)|(rw[if_neg (by decide+kernel)];exact⟨rfl,rfl⟩))
  (λc a H b _ F=>by rw[OpenClaim.pre_eq_preRow];exact qzi c a H b F)
def nm(f:FuncId)(fn:Func)(d:Tryz.pinned.checked.prog.funcNamed "liquidcheck/liquidchecklaw54.DependOrder" =O f)(a:Tryz.pinned.checked.prog.funcs[f]? =O fn):Z=Tryz.pinned.checked.prog.looks []∧∀(j:Nat) t,fn.params[j]? =O t→Tryz.pinned.checked.prog.wantsStandIn t=false:=by obtain rfl:f=6:=Option.some.inj ((show Tryz.prog.funcNamed "liquidcheck/liquidchecklaw54.DependOrder" =O 6 by kernel_rfl).symm.trans d)|>.symm;obtain rfl:fn=Tryz.f6:=(Option.some.inj (func6.symm.trans a)).symm;refine⟨by kernel_rfl,λj t c=>?_⟩;rw[Tryz.params6]at c;have b:=Array.mem_of_getElem? c;simp at b;subst b;all_goals exact(show Tryz.prog.wantsStandIn _=Z by kernel_rfl)
theorem card:Rows.DependOrderUptoCardSaid:=
 Claim7.holds_tied_plain_at .later [] _ _ _ _ qzJ (λ_ h=>by cases h) (by kernel_rfl) (λ_ h=>by cases h) dependOrderUpto_row_tie rfl ⟨rfl,rfl⟩ (by kernel_rfl) rfl nm (by kernel_rfl)
end Go.Proofs.YtankopenjcbeeaaGreatDoor.lawDependOrder
