/- PROVED: a part of the proof. Conditions: none. -/
import Derived.Test.YtibglelmlnfojaaGreatDoorCards
import Derived.Test.YtibglelmlnfojaaGreatDoorTie
import Derived.Test.YtibglelmlnfojaaGreatDoorPkM8
import Derived.Test.YtibglelmlnfojaaGreatDoorPkM10
import Derived.Test.YtibglelmlnfojaaGreatDoorPkM24
import Derived.Deep.DeepHandedRow
import Derived.SizedLaws
set_option linter.unusedSimpArgs false set_option linter.defProp false
set_option linter.unusedVariables false
noncomputable section
namespace Go.Proofs.YtibglelmlnfojaaGreatDoor.lawPrintModules
open Go Go.ChangeShapes Go.WideShapes Go.ChangeAt Go.RowKit Go.Proofs.Tryz
open Option renaming some→O,none→N
open Go renaming TypeId→G,Value→D,Program→I,Oper→M,World→J,Code→W
open Bool renaming true→T,false→Z
open Decidable renaming decide→Y
open Go.Proofs.YtibglelmlnfojaaGreatDoor renaming PVal→U
set_option maxRecDepth 100000
set_option linter.unusedVariables false
def own:ownKnob Tryz.prog.godebug=N:=by kernel_rfl
def lo:laidOutB Tryz.prog=true:=by kernel_rfl
def qFX:qqg Tryz.prog [50,43,92,9,24,89,143,100,90,127,23,30,22,28,25,3,26,44,97,95,134,45,88,52,159,48,58,36,31,32,33,114,34,116,51,4,56,53,166,54,168,46,103,101,138,47,106]:=qrf (by kernel_rfl)
def rd:∀t∈Tryz.f4.params.toList,Tryz.prog.readableRec t=T/\t<Tryz.prog.types.size:=by rw[Tryz.params4];intro t a;simp at a;rcases a with rfl|rfl;all_goals exact⟨by kernel_rfl,of_decide_eq_true (by kernel_rfl)⟩
def qGw{b:J}(h:laidMet Tryz.prog Rows.printModulesUptoRow.laid b):∀x∈GE,quF b x:=by
 intro x a;simp only[GE,List.mem_cons,List.not_mem_nil,or_false]at a;rcases a with rfl|rfl|rfl|rfl|rfl;.exact qh0 (name:= "liquidcheck/print.signs") h (.tail _<|.tail _<|.tail _<|.tail _<|.head _) (by kernel_rfl) (by kernel_rfl) (by kernel_rfl) underlying156 underlying9 qtD qvV
 .exact qh0 (name:= "liquidcheck/names.keywords") h (.tail _<|.tail _<|.tail _<|.head _) (by kernel_rfl) (by kernel_rfl) (by kernel_rfl) underlying229 underlying9 qtD qv0
 .exact qby (name:= "internal/strconv.uint64pow10") h (.tail _<|.tail _<|.head _) (by kernel_rfl) (by kernel_rfl) (by kernel_rfl) underlying240 underlying224 qvZ qv1
 .exact qby (name:= "math/bits.deBruijn32tab") h (.head _) (by kernel_rfl) (by kernel_rfl) (by kernel_rfl) underlying247 underlying5 qxa qv2
 .exact qby (name:= "math/bits.deBruijn64tab") h (.tail _<|.head _) (by kernel_rfl) (by kernel_rfl) (by kernel_rfl) underlying248 underlying5 qxa qv3
def qFC(H:Type)(h:G×D->H)(a4:J)(base:Nat)(a:Array D)(r x:List (DataW H))(c:List MemPlace)
  (b:∀(j:Nat) t v,Tryz.f4.params[j]? =O t->a[j]? =O v->Value.okWide Tryz.prog a4 .any base t v)
  (z:DataW.Whole h Tryz.prog Tryz.f4.params.toList Rows.printModulesSpec.vars Z a4 a.toList r x c) (hL:laidMet Tryz.prog Rows.printModulesUptoRow.laid a4) (hb:Rows.uptoBulkAll (r++x)<=1048576):
  Calls Tryz.prog 4 a a4 λe W'=>∃v,e=.returned v/\Rows.printModulesSpec.post h Tryz.prog Tryz.f4 Z T Z Z a4 a v W':=by
 have w:=z
 obtain⟨p,q,s,hV,rfl,a0,a1⟩:=z
 have y:DataW.TrodAll h Tryz.prog a4 0 (λ_=>T) T Tryz.f4.params.toList a.toList r p:=s
 obtain⟨rfl,rfl⟩:=trodVars_none hV
 rw[Tryz.params4]at y b
 obtain⟨v0,a2,d0,L,p0,q0,o,rfl,rfl,X,r0⟩:=trodAll_cons y
 obtain⟨B,a3,d1,P,p1,q1,d,rfl,rfl,h1,r1⟩:=trodAll_cons r0
 obtain⟨rfl,rfl,rfl⟩:=trodAll_nil r1
 subst d
 obtain rfl:a=#[v0,B]:=by cases a;simp_all
 let⟨n0,l0,R,s0,k0⟩:=qej qFX (by decide) underlying50 X (b 0 50 v0 rfl rfl)
 obtain⟨E,rfl⟩:=qjz n0 l0 s0
 let⟨n1,l1,S,s1,k1⟩:=qej qFX (by decide) underlying58 h1 (b 1 58 B rfl rfl)
 obtain⟨F,rfl⟩:=qgd n1 l1 s1
 have hs:=Vx E F (by simp only[List.append_nil,Rows.uptoBulkAll]at hb;omega)
 refine(qiW (pargs:=[.agg (bo E),.agg (aV F)]) (RI _ hs).2 rfl (λi p v m n=>?_) (qGw hL)).mono λe W' A=>?_
 .match i,m,n with
  |0,m,n=>cases m;cases n;exact R
  |1,m,n=>cases m;cases n;exact S
  |i+2,m,n=>simp at m
 .exact⟨_,A.1,qon (t:=4) lo (by kernel_rfl) underlying4 rfl ⟨rfl,rfl,rfl⟩ rd w A.2⟩
noncomputable def FS (a:Os):J:=qwc (World.holding Tryz.prog a ⟨#[],#[],[]⟩) (quh GE)
def qFJ(a:Os):laidMet Tryz.prog Rows.printModulesUptoRow.laid ((FS a).forCall (λ_ _=>0) ⟨#[],#[.agg #[.slice N 0 0,.slice N 0 0,.slice N 0 0,.slice N 0 0,.slice N 0 0,.slice N 0 0],.agg #[.string ⟨#[]⟩,.slice N 0 0,.int .i64 0,.string ⟨#[]⟩,.int .i64 0,.slice N 0 0,.slice N 0 0,.slice N 0 0,.slice N 0 0,.int .i64 0,.bool Z,.slice N 0 0,.slice N 0 0,.slice N 0 0,.slice N 0 0,.int .i64 0,.string ⟨#[]⟩,.slice N 0 0,.slice N 0 0,.int .i64 0,.string ⟨#[]⟩,.int .i64 0,.slice N 0 0,.slice N 0 0,.slice N 0 0]],[]⟩).memory:=
 laidMet_of_run' 8 (by kernel_rfl) (by kernel_rfl)
def qGk(c:Os){H:Type}(b:G×D->H):∃a,DataW.whole b Tryz.prog ((FS c).forCall (λ_ _=>0) ⟨#[],#[.agg #[.slice N 0 0,.slice N 0 0,.slice N 0 0,.slice N 0 0,.slice N 0 0,.slice N 0 0],.agg #[.string ⟨#[]⟩,.slice N 0 0,.int .i64 0,.string ⟨#[]⟩,.int .i64 0,.slice N 0 0,.slice N 0 0,.slice N 0 0,.slice N 0 0,.int .i64 0,.bool Z,.slice N 0 0,.slice N 0 0,.slice N 0 0,.slice N 0 0,.int .i64 0,.string ⟨#[]⟩,.slice N 0 0,.slice N 0 0,.int .i64 0,.string ⟨#[]⟩,.int .i64 0,.slice N 0 0,.slice N 0 0,.slice N 0 0]],[]⟩).memory Tryz.f4.params.toList Rows.printModulesSpec.vars Z (#[.agg #[.slice N 0 0,.slice N 0 0,.slice N 0 0,.slice N 0 0,.slice N 0 0,.slice N 0 0],.agg #[.string ⟨#[]⟩,.slice N 0 0,.int .i64 0,.string ⟨#[]⟩,.int .i64 0,.slice N 0 0,.slice N 0 0,.slice N 0 0,.slice N 0 0,.int .i64 0,.bool Z,.slice N 0 0,.slice N 0 0,.slice N 0 0,.slice N 0 0,.int .i64 0,.string ⟨#[]⟩,.slice N 0 0,.slice N 0 0,.int .i64 0,.string ⟨#[]⟩,.int .i64 0,.slice N 0 0,.slice N 0 0,.slice N 0 0]]:Array D).toList 8=O ([.agg [.nil,.nil,.nil,.nil,.nil,.nil],.agg [.lit (.string []),.nil,.agg [.lit (.int .i64 0),.lit (.string []),.lit (.int .i64 0),.nil,.nil,.nil,.nil],.lit (.int .i64 0),.lit (.bool Z),.agg [.nil,.nil,.nil,.nil,.agg [.lit (.int .i64 0),.lit (.string []),.nil,.nil,.agg [.lit (.int .i64 0),.lit (.string []),.lit (.int .i64 0),.nil],.nil],.nil]]],[],a):=
 ⟨[],by kernel_rfl⟩
def qFQ(e:Os)(a:e.Started)(H:Type)(enc:G×D->H)(F:Stop.Interp):ReturnsInHanded {} Tryz.checked e 4 .any ((Rows.OpenSpec.upto Rows.printModulesSpec).preRow enc Tryz.prog Tryz.f4 Rows.printModulesUptoRow.domain Z Rows.printModulesUptoRow.laid) (((Rows.OpenSpec.upto Rows.printModulesSpec).at F).post enc Tryz.prog Tryz.f4 Z T Z Z):=by
 let⟨h,q⟩:=qGk e enc
 refine returnsInHanded_of_row (C:=Tryz.checked) (s:=Rows.OpenSpec.upto Rows.printModulesSpec) own a (by kernel_rfl) func4
  (witness_row_at (enc:=enc) (C:=Tryz.checked) Z (FS e) #[.agg #[.slice N 0 0,.slice N 0 0,.slice N 0 0,.slice N 0 0,.slice N 0 0,.slice N 0 0],.agg #[.string ⟨#[]⟩,.slice N 0 0,.int .i64 0,.string ⟨#[]⟩,.int .i64 0,.slice N 0 0,.slice N 0 0,.slice N 0 0,.slice N 0 0,.int .i64 0,.bool Z,.slice N 0 0,.slice N 0 0,.slice N 0 0,.slice N 0 0,.int .i64 0,.string ⟨#[]⟩,.slice N 0 0,.slice N 0 0,.int .i64 0,.string ⟨#[]⟩,.int .i64 0,.slice N 0 0,.slice N 0 0,.slice N 0 0]] rfl (by kernel_rfl) (by kernel_rfl) (by kernel_rfl)
   (OpenSpec.preRow_of_cond 8 q (by kernel_rfl) (λk i=>by cases i;kernel_rfl) (by kernel_rfl) (qFJ e))) ?_
 intro r base c m n b d p _ i _ o _ _;exact qFC H enc r base c m n b d p o (of_decide_eq_true (i _ rfl))
set_option maxHeartbeats 2000000 in
def closed:joinedFacts Tryz.pinned.checked.prog 4 Tryz.f4 (Rows.OpenSpec.upto Rows.printModulesSpec).bare Rows.printModulesUptoRow=true:=by
 unfold joinedFacts;repeat' (with_reducible refine Bool.and_eq_true_iff.2 ⟨?_,?_⟩)
 all_goals as_aux_lemma=>kernel_rfl
def qGv:Rows.PrintModulesUptoSaid:=
 OpenClaim.holds_of_cond 4 Tryz.f4 rfl rfl rfl rfl rfl rfl rfl ⟨rfl,rfl,rfl,rfl,rfl⟩ rfl rfl rfl rfl rfl (by as_aux_lemma=>kernel_rfl) func4 closed
  (of_decide_eq_true (by as_aux_lemma=>kernel_rfl)) (by as_aux_lemma=>unfold Func.isWrapper;first|(rw[if_pos (by decide+kernel)];kernel_rfl)|(rw[if_neg (by decide+kernel)];exact⟨rfl,rfl⟩))
  (λc a H b _ F=>by rw[OpenClaim.pre_eq_preRow];exact qFQ c a H b F)
def m0(f:FuncId)(fn:Func)(d:Tryz.pinned.checked.prog.funcNamed "liquidcheck/liquidchecklaw22.PrintModules" =O f)(a:Tryz.pinned.checked.prog.funcs[f]? =O fn):Z=Tryz.pinned.checked.prog.looks []∧∀(j:Nat) t,fn.params[j]? =O t→Tryz.pinned.checked.prog.wantsStandIn t=false:=by obtain rfl:f=4:=Option.some.inj ((show Tryz.prog.funcNamed "liquidcheck/liquidchecklaw22.PrintModules" =O 4 by kernel_rfl).symm.trans d)|>.symm;obtain rfl:fn=Tryz.f4:=(Option.some.inj (func4.symm.trans a)).symm;refine⟨by kernel_rfl,λj t c=>?_⟩;rw[Tryz.params4]at c;have b:=Array.mem_of_getElem? c;simp at b;rcases b with rfl|rfl;all_goals exact(show Tryz.prog.wantsStandIn _=Z by kernel_rfl)
theorem card:Rows.PrintModulesUptoCardSaid:=
 Claim7.holds_tied_plain_at .later [] _ _ _ _ qGv (λ_ h=>by cases h) (by kernel_rfl) (λ_ h=>by cases h) printModulesUpto_row_tie rfl ⟨rfl,rfl⟩ (by kernel_rfl) rfl m0 (by kernel_rfl)
end Go.Proofs.YtibglelmlnfojaaGreatDoor.lawPrintModules
