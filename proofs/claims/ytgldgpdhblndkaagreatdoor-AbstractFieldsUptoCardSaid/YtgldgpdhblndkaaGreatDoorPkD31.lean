/-
  WHAT IS PROVED: parts of the proof, put together by a program out of smaller texts, their own names made short (GL; VisC; VisD; VisE). Conditions: none.
-/
import Derived.Test.YtgldgpdhblndkaaGreatDoorPkD30
import Derived.Test.YtgldgpdhblndkaaGreatDoorPkD24
import Derived.Test.YtgldgpdhblndkaaGreatDoorPkD28
import Derived.Test.YtgldgpdhblndkaaGreatDoorPkD29
import Derived.Shelf.Strconv.Itoa3
import Derived.Shelf.Sort.Plain
import Derived.Shelf.Slices.In.CompactS
import Derived.Shelf.Slices.In.SortNone
namespace Go.Proofs.YtgldgpdhblndkaaGreatDoor
open Go
set_option linter.unusedVariables false
set_option maxRecDepth 100000
def VF {S:Type} (J:Bool→S→qa0→World→Prop) (Γ0:qa0) (w0:World) (b:Bool) (s:S) (st:PSt) (a:Array Value) (w:World):Prop := ∃ Γ,J b s Γ w∧Γ0.Le w0 Γ w∧∃ E bs ow,SR Pg E Γ bs ow w a st
structure Dd (st:PSt) (k:Nat):Prop where
  c:clL 0 st.tmps
  b:st.boxes = List.replicate k .dead
  o:st.own = []
structure R4 (c:Code):Prop where
  eq:c = .region (idA c) (opsA c) false
  rg:List.range (opsA c).size = [0,1] ++ 2 :: ([3] ++ [])
  p1:[0,1].map (fun i => (opsA c)[i]?) = ((opsA c).toList.take 2).map some
  p2:((opsA c).toList.take 2).all qwh = true
  o:(opsA c)[2]? = some (opA c 2)
  g:(opA c 2).guard = none
  q1:[3].map (fun i => (opsA c)[i]?) = ((opsA c).toList.drop 3).map some
  q2:((opsA c).toList.drop 3).all qwh = true
theorem r4_1:R4 vR1:=⟨by kernel_rfl,by kernel_rfl,by kernel_rfl,by kernel_rfl,by kernel_rfl,by kernel_rfl,by kernel_rfl,by kernel_rfl⟩
theorem r4_6:R4 vR6:=⟨by kernel_rfl,by kernel_rfl,by kernel_rfl,by kernel_rfl,by kernel_rfl,by kernel_rfl,by kernel_rfl,by kernel_rfl⟩
theorem qCC:(opA vR1 2).op = .call { callee := .value (.tmp 7),args := #[.tmp 8],argTypes:=tysA (opA vR1 2) }:=by kernel_rfl
theorem qC7:(opA vR1 2).dst = some 9:=by kernel_rfl
theorem qCH:(opA vR6 2).op = .call { callee := .value (.func fV),args := #[.tmp 18,.tmp 19],argTypes:=tysA (opA vR6 2) }:=by kernel_rfl
theorem qDg:(opA vR6 2).dst = some 20:=by kernel_rfl
section
variable {S:Type} {step:S→tPred→Option (Bool×S)} {J:Bool→S→qa0→World→Prop} {l:Nat} {Γ0:qa0} {w0:World} {b:Bool} {s:S} {st0 st1 stA stB:PSt} {k kA kB:Nat} {a:Array Value} {w:World} {n:Nat} {ds:List Deferred}
theorem VF.again (hY:Yd Pg GE l qaa step J) (hD:Dd st0 k) (h:VF J Γ0 w0 b s st0 a w):∃ Γ,J b s Γ w∧Γ0.Le w0 Γ w∧SR Pg (asd GE Γ w) Γ (List.replicate k none) (fun _ => none) w a st0:=by
  obtain ⟨Γ,hJ,hle,E,bs,ow,hS⟩:=h
  obtain ⟨tm,H,own⟩:=st0
  have hb:H = _:=hD.b
  have ho:own = []:=hD.o
  subst hb; subst ho
  exact ⟨Γ,hJ,hle,hS.again hD.c (hY.base _ _ _ _ hJ) (.refl _ _) k⟩
theorem VF.redo (hY:Yd Pg GE l qaa step J) (hD:Dd st0 k) (h:VF J Γ0 w0 b s st0 a w) (k':Nat):VF J Γ0 w0 b s ⟨st0.tmps,List.replicate k' .dead,[]⟩ a w:=by
  obtain ⟨Γ,hJ,hle,hS⟩:=h.again hY hD
  exact ⟨Γ,hJ,hle,_,_,_,hS.again hD.c (hY.base _ _ _ _ hJ) (.refl _ _) k'⟩
theorem VF.piece (hY:Yd Pg GE l qaa step J) {c:Code} {e:Exit} (hS:Sat Pg GE 0 c (EX e st1) st0) (hD:Dd st0 k) (h:VF J Γ0 w0 b s st0 a w) :
    c.wpIn Fence.wide n Pg (fun e' a' w' => e' = e∧a'.defers = ds∧VF J Γ0 w0 b s st1 a'.tmps w') ⟨a,ds⟩ w:=by
  obtain ⟨Γ,hJ,hle,hR⟩:=h.again hY hD
  refine wpIn_mono (hS.wide (hY.base _ _ _ _ hJ) hR n ds) ?_
  rintro e' a' w' ⟨hd,Γ',bs',ow',st',h',rfl,rfl⟩
  exact ⟨rfl,hd,Γ',hY.side _ _ _ _ hJ _ _ _ _ _ _ h',hle.trans h'.step.le,_,_,_,h'⟩
theorem VF.reg (hY:Yd Pg GE l qaa step J) {c:Code} (hR:R4 c) (hD:Dd st0 k) (hDB:Dd stB kB) (hpre:qb4 Pg GE [] (opsA c) (fun st => FG st stA) ((opsA c).toList.take 2) 0 st0) (hsuf:qb4 Pg GE [] (opsA c) (fun st => FG st st1) ((opsA c).toList.drop 3) 0 stB) {r:Bool×S}
    (hcall:∀ a w (next:Act→World→Prop) (Q:Exit→Act→World→Prop),VF J Γ0 w0 b s stA a w→(∀ a' w',VF J Γ0 w0 r.1 r.2 stB a' w'→next ⟨a',ds⟩ w')→(opA c 2).wpIn Fence.wide n Pg ⟨a,ds⟩ w next Q)
    (h:VF J Γ0 w0 b s st0 a w):c.wpIn Fence.wide n Pg (fun e' a' w' => e' = .normal∧a'.defers = ds∧VF J Γ0 w0 r.1 r.2 st1 a'.tmps w') ⟨a,ds⟩ w:=by
  have key:(Code.region (idA c) (opsA c) false).wpIn Fence.wide n Pg (fun e' a' w' => e' = .normal∧a'.defers = ds∧VF J Γ0 w0 r.1 r.2 st1 a'.tmps w') ⟨a,ds⟩ w:=by
    refine wpIn_region ?_
    rw [hR.rg]
    obtain ⟨Γ,hJ,hle,hS⟩:=h.again hY hD
    refine qqR (A:=[]) (K:=fun st => FG st stA) (fun Γ' bs' ow' a' w' st hS' hK => ?_) _ _ Γ _ _ a w st0 hR.p1 (qtl hR.p2) hS hpre
    obtain ⟨Γ2,bs2,ow2,hS2⟩:=FG.sr hS' hK
    refine qq5 hR.o hR.g (hcall a' w' _ _ ⟨Γ2,hY.side _ _ _ _ hJ _ _ _ _ _ _ hS2,hle.trans hS2.step.le,_,_,_,hS2⟩ fun a3 w3 h3 => ?_)
    obtain ⟨Γ3,hJ3,hle3,hS3⟩:=h3.again hY hDB
    refine qqR (A:=[]) (K:=fun st => FG st st1) (fun Γ' bs' ow' a' w' st hS' hK => ?_) _ _ Γ3 _ _ a3 w3 stB hR.q1 (qtl hR.q2) hS3 hsuf
    obtain ⟨Γ4,bs4,ow4,hS4⟩:=FG.sr hS' hK
    exact ⟨rfl,rfl,Γ4,hY.side _ _ _ _ hJ3 _ _ _ _ _ _ hS4,hle3.trans hS4.step.le,_,_,_,hS4⟩
  rw [← hR.eq] at key
  exact key
theorem VF.ev (h:VF J Γ0 w0 b s st0 a w) {t:Nat} {x:Bool} (ht:st0.tmps.getD t .undef = .bool x):(Act.mk a ds).eval (.tmp t) = .bool x:=by
  obtain ⟨Γ,hJ,hle,E,bs,ow,hS⟩:=h
  have h1:=hS.opv ds (.tmp t)
  have e1:opv E.GE st0.tmps (.tmp t) = .bool x:=ht
  rw [e1] at h1
  generalize (Act.mk a ds).eval (.tmp t) = v at h1
  cases h1
  rfl
theorem VF.put (hY:Yd Pg GE l qaa step J) (hD:Dd stA kA) {Γ Γ':qa0} {w':World} {E:Ent} {bs:qbn} {ow:Nat→Option Loc} (hS:SR Pg E Γ bs ow w a stA) (hle:Γ0.Le w0 Γ w) (hle':Γ.Le w Γ' w') {r:Bool×S} (hJ':J r.1 r.2 Γ' w') {d:Nat} (hB:stB = ⟨stA.tmps.set d (.bool r.1),List.replicate kA .dead,[]⟩) :
    VF J Γ0 w0 r.1 r.2 stB (a.setIfInBounds d (.bool r.1)) w':=by
  have hS':=(hS.again hD.c (hY.base _ _ _ _ hJ') hle' kA).set (d:=d) (p := .bool r.1) (v := .bool r.1) (.bool _)
  exact ⟨Γ',hJ',hle.trans hle',_,_,_,hB ▸ hS'⟩
theorem VF.yieldc (hY:Yd Pg GE l qaa step J) (hD:Dd stA kA) {p:tPred} {r:Bool×S} (hr:step s p = some r) {o:Oper} {f x d:Nat} {tys:Array TypeId} (h7:stA.tmps.getD f .undef = yv l) (h8:stA.tmps.getD x .undef = .agg (qaa p))
    (ho:o.op = .call { callee := .value (.tmp f),args := #[.tmp x],argTypes:=tys }) (hd:o.dst = some d) (hB:stB = ⟨stA.tmps.set d (.bool r.1),List.replicate kA .dead,[]⟩)
    {next:Act→World→Prop} {Q:Exit→Act→World→Prop} (h:VF J Γ0 w0 true s stA a w) (hn:∀ a' w',VF J Γ0 w0 r.1 r.2 stB a' w'→next ⟨a',ds⟩ w'):o.wpIn Fence.wide n Pg ⟨a,ds⟩ w next Q:=by
  obtain ⟨Γ,hJ,hle,hS⟩:=h.again hY hD
  have h1:=hS.opv ds (.tmp f)
  have h2:=hS.opv ds (.tmp x)
  have e1:opv (asd GE Γ w).GE stA.tmps (.tmp f) = yv l:=h7
  have e2:opv (asd GE Γ w).GE stA.tmps (.tmp x) = .agg (qaa p):=h8
  rw [e1] at h1; rw [e2] at h2
  have hev:(Act.mk a ds).eval (.tmp f) = .func (.yield l) #[] #[]:=by
    generalize (Act.mk a ds).eval (.tmp f) = v at h1
    cases h1; rfl
  refine qyD ho hev (R:=fun e w' => ∃ Γ',e = .returned (.bool r.1)∧Γ.Le w Γ' w'∧J r.1 r.2 Γ' w') ?_ ?_
  · have:=hY.yield s Γ w p _ (n - 1) r hJ (h2.clo (by simp only [PVal.cl]; exact qab p)) hr
    simpa using this
  · rintro e w' ⟨Γ',rfl,hle',hJ'⟩
    refine ⟨_,rfl,?_⟩
    rw [hd]
    exact hn _ _ (VF.put hY hD hS hle hle' hJ' hB)
def VOK (step:S→tPred→Option (Bool×S)) (J:Bool→S→qa0→World→Prop) (l:Nat) (p:tPred):Prop := ∀ s r Γ w v n,visP step p s = some r→J true s Γ w→VR Γ [] w (.agg (qaa p)) v →
  CallsIn Fence.wide n Pg fV #[v,.func (.yield l) #[] #[]] w fun e w' => ∃ Γ',e = .returned (.bool r.1)∧Γ.Le w Γ' w'∧J r.1 r.2 Γ' w'
theorem VF.visitc (hY:Yd Pg GE l qaa step J) (hD:Dd stA kA) {p:tPred} (hp:VOK step J l p) {r:Bool×S} (hr:visP step p s = some r) {o:Oper} {x y d:Nat} {tys:Array TypeId} (h7:stA.tmps.getD y .undef = yv l) (h8:stA.tmps.getD x .undef = .agg (qaa p))
    (ho:o.op = .call { callee := .value (.func fV),args := #[.tmp x,.tmp y],argTypes:=tys }) (hd:o.dst = some d) (hB:stB = ⟨stA.tmps.set d (.bool r.1),List.replicate kA .dead,[]⟩)
    {next:Act→World→Prop} {Q:Exit→Act→World→Prop} (h:VF J Γ0 w0 true s stA a w) (hn:∀ a' w',VF J Γ0 w0 r.1 r.2 stB a' w'→next ⟨a',ds⟩ w'):o.wpIn Fence.wide n Pg ⟨a,ds⟩ w next Q:=by
  obtain ⟨Γ,hJ,hle,hS⟩:=h.again hY hD
  have h1:=hS.opv ds (.tmp y)
  have h2:=hS.opv ds (.tmp x)
  have e1:opv (asd GE Γ w).GE stA.tmps (.tmp y) = yv l:=h7
  have e2:opv (asd GE Γ w).GE stA.tmps (.tmp x) = .agg (qaa p):=h8
  rw [e1] at h1; rw [e2] at h2
  have hev:(Act.mk a ds).eval (.tmp y) = .func (.yield l) #[] #[]:=by
    generalize (Act.mk a ds).eval (.tmp y) = v at h1
    cases h1; rfl
  refine qAc ho (g:=fV) (fs := #[]) (cs := #[]) rfl Tryz.call150 (R:=fun e w' => ∃ Γ',e = .returned (.bool r.1)∧Γ.Le w Γ' w'∧J r.1 r.2 Γ' w') ?_ ?_
  · have:=hp s r Γ w _ (n - 1) hr hJ (h2.clo (by simp only [PVal.cl]; exact qab p))
    simpa [hev] using this
  · rintro e w' ⟨Γ',rfl,hle',hJ'⟩
    refine ⟨_,rfl,?_⟩
    rw [hd]
    exact hn _ _ (VF.put hY hD hS hle hle' hJ' hB)
theorem VF.fin {x:Bool} {H:List PBox} (h:VF J Γ0 w0 b s (vE H x) a w):(results Tryz.f150 a).run Pg w = .ok (.bool x) w:=by
  obtain ⟨Γ,hJ,hle,E,bs,ow,hS⟩:=h
  obtain ⟨v,h1,h2,_⟩:=qky hS (fn:=Tryz.f150) (r := .bool x) (by kernel_rfl)
  cases h2
  exact h1
theorem dd1 {N:Nat} {L:List (Nat×PVal)} (h:clTm 0 L) (k:Nat) {H:List PBox} (hH:H = List.replicate k .dead):Dd (stt N L H []) k:=⟨qb1 h,hH,rfl⟩
theorem clsl (ks:List tPred):(sl qaa ks).cl 0:=qad qab ks
theorem qCO (l:Nat) (ks:List tPred) (i:Int):Dd (vS3 l ks i) 1:=dd1 (by exact aI trivial <| aI (clsl ks) <| aI trivial <| aI trivial trivial) 1 rfl
theorem qCT (l:Nat) (ks:List tPred) (i:Int):Dd (vS4 l ks i) 1:=dd1 (by exact aI trivial <| aI (clsl ks) <| aI trivial <| aI trivial <| aI trivial trivial) 1 rfl
theorem qCR (l:Nat) (ks:List tPred) (i:Int) (b:Bool):Dd (vS7 l ks i b) 2:=dd1 (by exact aI trivial <| aI (clsl ks) <| aI trivial <| aI trivial <| aI trivial trivial) 2 rfl
theorem qyz (hY:Yd Pg GE l qaa step J) (p:tPred) (hk:∀ x ∈ p.Kids,VOK step J l x):VOK step J l p:=by
  intro s r Γ w v n hv hJ hvr
  refine callsIn_of_wp Tryz.func150 (c:=bV) rfl trivial ?_
  have h0:VF J Γ w true s (stt 23 [(0,.agg (qaa p)),(1,yv l)] [] []) (#[v,.func (.yield l) #[] #[]] ++ Array.replicate 21 undef) w:=by
    refine ⟨Γ,hJ,.refl _ _,_,_,_,(hY.base _ _ _ _ hJ).fresh 0 (tmps:=[.agg (qaa p),yv l] ++ List.replicate 21 .undef) (by simp) fun t q u hq hu => ?_⟩
    by_cases ht:t < 2
    · rw [List.getElem?_append_left (by simpa using ht)] at hq
      rw [Array.getElem?_append_left (by simpa using ht)] at hu
      match t,ht with
      | 0,_ => simp at hq hu; subst hq; subst hu; exact hvr
      | 1,_ => simp at hq hu; subst hq; subst hu; exact .val _
    · rw [List.getElem?_append_right (by simpa using ht),List.getElem?_replicate] at hq
      split at hq <;> cases hq
      exact .undef u
  show bV.wpIn Fence.wide n Pg _ ⟨_,[]⟩ w
  rw [qB2] at hv
  obtain ⟨q,hq,hv⟩:=bnd hv
  have hb:Pg.funcs.size = Pg.funcs.size:=rfl
  have hret:∀ {b:Bool} {s:S} {x:Bool} {H:List PBox} {a':Act} {w':World},a'.defers = []→VF J Γ w b s (vE H x) a'.tmps w'→b = r.1→s = r.2→x = r.1 →
      bodyPost Pg Tryz.f150 (fun e w' => ∃ Γ',e = .returned (.bool r.1)∧Γ.Le w Γ' w'∧J r.1 r.2 Γ' w') .ret a' w':=by
    rintro b s x H a' w' hd h rfl rfl rfl
    refine ⟨hd,.bool r.1,h.fin,?_⟩
    obtain ⟨Γ',hJ',hle,_⟩:=h
    exact ⟨Γ',rfl,hle,hJ'⟩
  rw [qDc]
  refine wpIn_seq (wpIn_mono (VF.piece hY (v_0 p l) (k:=0) (dd1 (by exact aI (qab p) <| aI trivial trivial) 0 rfl) h0) ?_)
  rintro e ⟨a1,ds1⟩ w1 ⟨rfl,rfl,h1⟩
  have d2:(PVal.eptr (qaa p)).cl 0:=by simp only [PVal.cl]; exact qab p
  have d3:(PVal.agg (qaa p)).cl 0:=by simp only [PVal.cl]; exact qab p
  refine wpIn_seq (wpIn_seq (wpIn_mono (VF.reg hY r4_1 (k:=1) (kB:=1) (r:=q) (stB:=stt 23 [(1,yv l),(2,.eptr (qaa p)),(7,yv l),(8,.agg (qaa p)),(9,.bool q.1)] [.dead] []) (dd1 (by exact aI trivial <| aI d2 trivial) 1 rfl) (dd1 (by exact aI trivial <| aI d2 <| aI trivial <| aI d3 <| aI trivial trivial) 1 rfl) (v_1 p l) (v_1b p l q.1)
    (fun a w next Q h hn => VF.yieldc hY (kA:=1) (dd1 (by exact aI trivial <| aI d2 <| aI trivial <| aI d3 trivial) 1 rfl) hq (f:=7) (x:=8) (d:=9) rfl rfl qCC qC7 rfl h hn) h1) ?_))
  rintro e ⟨a2,ds2⟩ w2 ⟨rfl,rfl,h2⟩
  refine wpIn_cond (h2.ev (t:=10) (x := !q.1) rfl) ?_
  have dS2:∀ b:Bool,Dd (stt 23 [(1,yv l),(2,.eptr (qaa p)),(10,.bool b)] [.dead] []) 1:=fun b => dd1 (by exact aI trivial <| aI d2 <| aI trivial trivial) 1 rfl
  obtain ⟨q1,q2⟩:=q
  cases q1 with
  | false =>
    cases hv
    refine wpIn_mono (VF.piece hY (v_2 p l) (dS2 true) h2) ?_
    rintro e ⟨a3,ds3⟩ w3 ⟨rfl,rfl,h3⟩
    exact hret rfl h3 rfl rfl rfl
  | true =>
    simp only at hv
    split at hv
    case isFalse => cases hv
    rename_i hlen
    refine wpIn_skip ?_
    refine wpIn_seq (wpIn_seq (wpIn_mono (VF.piece hY (v_3 p l) (dS2 false) h2) ?_))
    rintro e ⟨a3,ds3⟩ w3 ⟨rfl,rfl,h3⟩
    refine wpIn_block (wpIn_loop_ghost (fun k a w' => a.defers = []∧∃ (i:Nat) (s':S),k = p.Kids.length - i∧i ≤ p.Kids.length∧visL step (p.Kids.drop i) s' = some r∧VF J Γ w true s' (vS3 l p.Kids (i:Int)) a.tmps w') (p.Kids.length)
      ⟨rfl,0,q2,rfl,Nat.zero_le _,hv,h3⟩ ?_)
    rintro k ⟨a4,ds4⟩ w4 ⟨hd4,i,s',rfl,hi,hvl,h4⟩
    simp only at hd4; subst hd4
    rw [qDi]
    refine wpIn_seq (wpIn_mono (VF.piece hY (v_4 l p.Kids i) (qCO _ _ _) h4) ?_)
    rintro e ⟨a5,ds5⟩ w5 ⟨rfl,rfl,h5⟩
    refine wpIn_seq (wpIn_cond (h5.ev (t:=15) (x:=decide ((i:Int) < (p.Kids.length:Int))) rfl) ?_)
    by_cases hlt:i < p.Kids.length
    · rw [decide_eq_true (by omega)]
      refine wpIn_skip ?_
      have hdrop:p.Kids.drop i = p.Kids[i] :: p.Kids.drop (i + 1):=List.drop_eq_getElem_cons hlt
      rw [hdrop,visL] at hvl
      obtain ⟨q',hq',hvl⟩:=bnd hvl
      have hx:idx p.Kids (i:Int) = some p.Kids[i]:=qcO _ _ hlt
      generalize hxx:p.Kids[i] = x at *
      have hxm:x ∈ p.Kids:=hxx ▸ List.getElem_mem hlt
      have e2:(PVal.eptr (qaa x)).cl 0:=by simp only [PVal.cl]; exact qab x
      have e3:(PVal.agg (qaa x)).cl 0:=by simp only [PVal.cl]; exact qab x
      refine wpIn_seq (wpIn_block (wpIn_seq (wpIn_mono (VF.piece hY (v_5 l p.Kids i x hx) (qCT _ _ _) h5) ?_)))
      rintro e ⟨a6,ds6⟩ w6 ⟨rfl,rfl,h6⟩
      refine wpIn_seq (wpIn_mono (VF.reg hY r4_6 (k:=2) (kB:=2) (r:=q') (stB:=vS6 l p.Kids i x q'.1) (dd1 (by exact aI trivial <| aI e2 <| aI (clsl _) <| aI trivial <| aI trivial trivial) 2 rfl) (dd1 (by exact aI trivial <| aI (clsl _) <| aI trivial <| aI trivial <| aI e3 <| aI trivial <| aI trivial trivial) 2 rfl) (v_6 l p.Kids i x) (v_6b l p.Kids i x q'.1)
        (fun a w next Q h hn => VF.visitc hY (kA:=2) (dd1 (by exact aI trivial <| aI (clsl _) <| aI trivial <| aI trivial <| aI e3 <| aI trivial trivial) 2 rfl) (hk x hxm) hq' (y:=19) (x:=18) (d:=20) rfl rfl qCH qDg rfl h hn) h6) ?_)
      rintro e ⟨a7,ds7⟩ w7 ⟨rfl,rfl,h7⟩
      refine wpIn_cond (h7.ev (t:=21) (x := !q'.1) rfl) ?_
      obtain ⟨q1,q2⟩:=q'
      cases q1 with
      | false =>
        cases hvl
        refine wpIn_mono (VF.piece hY (v_7 l p.Kids i) (qCR _ _ _ _) h7) ?_
        rintro e ⟨a8,ds8⟩ w8 ⟨rfl,rfl,h8⟩
        exact hret rfl h8 rfl rfl rfl
      | true =>
        refine wpIn_skip ?_
        refine wpIn_mono (VF.piece hY (v_8 l p.Kids i) (qCR _ _ _ _) h7) ?_
        rintro e ⟨a8,ds8⟩ w8 ⟨rfl,rfl,h8⟩
        refine ⟨p.Kids.length - (i + 1),by omega,rfl,i + 1,q2,rfl,hlt,hvl,?_⟩
        have e:w64 ((i:Int) + 1) = ((i + 1:Nat):Int):=by rw [qsR (by omega) (by omega)]; omega
        rw [e] at h8
        exact VF.redo (st0:=⟨(vS3 l p.Kids ((i + 1:Nat):Int)).tmps,[.dead,.dead],[]⟩) hY (k:=2) ⟨(qCO l p.Kids _).c,rfl,rfl⟩ h8 1
    · rw [decide_eq_false (by omega)]
      refine wpIn_exit ?_
      have hi':i = p.Kids.length:=by omega
      rw [List.drop_eq_nil_of_le (by omega),visL] at hvl
      cases hvl
      refine wpIn_mono (VF.piece hY (v_9 l p.Kids i) (qCT _ _ _) h5) ?_
      rintro e ⟨a6,ds6⟩ w6 ⟨rfl,rfl,h6⟩
      exact hret rfl h6 rfl rfl rfl
mutual
theorem qx6 (hY:Yd Pg GE l qaa step J):∀ p:tPred,VOK step J l p
  | ⟨o,n,k,ks⟩ => qyz hY ⟨o,n,k,ks⟩ (qwA hY ks)
theorem qwA (hY:Yd Pg GE l qaa step J):∀ ks:List tPred,∀ x ∈ ks,VOK step J l x
  | [],x,hx => by simp at hx
  | y :: ks,x,hx => by
    rcases List.mem_cons.1 hx with h | h
    · exact h ▸ qx6 hY y
    · exact qwA hY ks x h
end
end
end Go.Proofs.YtgldgpdhblndkaaGreatDoor
namespace Go.Proofs.YtgldgpdhblndkaaGreatDoor
open Go Go.Sort
set_option maxRecDepth 100000
noncomputable def qCQ (n:Int):Option Str:=if (decide (-9223372036854775808 ≤ n) && decide (n ≤ 9223372036854775807)) = true then some (Lib.itoa n) else none
theorem qAE:qeR = Lib.pow10Tab:=by kernel_rfl
theorem qzE {n:Int} {r:Str} (h:qCQ n = some r):CC Pg GE 122 [.int .i64 n] (.str r) []:=by
  rcases ifs h with ⟨b,h⟩ | ⟨b,h⟩
  · obtain rfl:=lf h
    simp only [Bool.and_eq_true,decide_eq_true_eq] at b
    refine CC.grownIS Tryz.call122 fun E Γ bs ow w a st hE hS => ?_
    have htab:Lib.TabIs Pg w "internal/strconv.uint64pow10" .u64 Lib.pow10Tab:=qCJ hS (g:=0) (by rw [hE,← qAE]; simp [GE]) (by kernel_rfl)
    refine (Any.strconv_Itoa Tryz.laysM171 n b.1 b.2 w htab).mono fun e w' he => ?_
    obtain ⟨rfl,k,os,rfl⟩:=he
    exact ⟨rfl,.of_grow _ _ _⟩
  · cases h
noncomputable def qoD (l:List Str):List Str:=l.mergeSort fun x y => decide (x ≤ y)
theorem qyj {w:World} {b:Nat} {cur:Array Value} {e:TypeId} {l:List Str} (hh:w.heap[b]? = some (.cells cur e (0,0))) (ht:cur.toList.take l.length = l.map fun s => Value.string ⟨s.toArray⟩):Holds encStr w b 0 l.toArray:=by
  intro j hj
  have hj':j < l.length:=by simpa using hj
  rw [Nat.zero_add]
  refine ⟨?_,frozen_of_row w b j cur e hh⟩
  rw [cell_of_row w b j cur e _ hh]
  have h1:(cur.toList.take l.length)[j]? = (l.map fun s => Value.string ⟨s.toArray⟩)[j]?:=by rw [ht]
  rw [List.getElem?_take_of_lt hj'] at h1
  simp only [Array.getElem?_toList,List.getElem?_map,List.getElem?_eq_getElem hj',Option.map_some] at h1
  rw [h1,getElem!_pos _ j hj]
  simp [encStr]
theorem qvI {w:World} {b n:Nat} {cur:Array Value} {e:TypeId} {os:Array Obj} (d l:List Str) (hh:w.heap[b]? = some (.cells cur e (0,0))) (hd:d.length ≤ cur.size) (hl:d.take l.length = l) :
    (∀ b',b' < w.heap.size→b' ≠ b→(grow (putRow encStr (Sort.ahead w n) b 0 d.toArray) os).heap[b']? = w.heap[b']?)∧w.heap.size ≤ (grow (putRow encStr (Sort.ahead w n) b 0 d.toArray) os).heap.size ∧
      ∃ cur',(grow (putRow encStr (Sort.ahead w n) b 0 d.toArray) os).heap[b]? = some (.cells cur' e (0,0))∧cur'.size = cur.size∧cur'.toList.take l.length = l.map fun s => Value.string ⟨s.toArray⟩:=by
  have hb:b < w.heap.size:=(Array.getElem?_eq_some_iff.1 hh).1
  have hsz:(putRow encStr (Sort.ahead w n) b 0 d.toArray).heap.size = w.heap.size:=by simp [putRow,mapBlock,Sort.ahead]
  refine ⟨fun b' h1 h2 => ?_,?_,putCells encStr 0 d.toArray cur,?_,by simp [putCells],?_⟩
  · show ((putRow encStr (Sort.ahead w n) b 0 d.toArray).heap ++ os)[b']? = _
    rw [Array.getElem?_append_left (by rw [hsz]; exact h1)]
    show (w.heap.modify b (onCells _))[b']? = _
    rw [Array.getElem?_modify,if_neg (fun e => h2 e.symm)]
  · show _ ≤ ((putRow encStr (Sort.ahead w n) b 0 d.toArray).heap ++ os).size
    rw [Array.size_append,hsz]; omega
  · show ((putRow encStr (Sort.ahead w n) b 0 d.toArray).heap ++ os)[b]? = _
    rw [Array.getElem?_append_left (by rw [hsz]; exact hb)]
    show (w.heap.modify b (onCells _))[b]? = _
    rw [Array.getElem?_modify,if_pos rfl,hh]
    rfl
  · have hll:l.length ≤ d.length:=by have h0:=congrArg List.length hl; rw [List.length_take] at h0; omega
    refine List.ext_getElem? fun i => ?_
    by_cases hi:i < l.length
    · have hdl:i < d.length:=by omega
      have hdi:d[i] = l[i]:=by
        have h1:(d.take l.length)[i]? = l[i]?:=by rw [hl]
        rw [List.getElem?_take_of_lt hi,List.getElem?_eq_getElem hdl,List.getElem?_eq_getElem hi] at h1
        exact Option.some.inj h1
      rw [List.getElem?_take_of_lt hi]
      simp only [Array.getElem?_toList,putCells,Array.getElem?_mapIdx,List.getElem?_map,List.getElem?_eq_getElem hi,Option.map_some]
      have hc:cur[i]? = some (cur[i]'(by omega)):=Array.getElem?_eq_getElem (by omega)
      rw [hc]
      simp only [Option.map_some]
      rw [if_pos ⟨Nat.zero_le _,by simp; omega⟩,Nat.sub_zero,getElem!_pos _ i (by simpa using hdl)]
      simp [encStr,hdi]
    · rw [List.getElem?_eq_none (by simp [putCells]; omega),List.getElem?_eq_none (by simp; omega)]
theorem qkw (l:List Str):(qoD l).length = l.length:=by unfold qoD; exact List.length_mergeSort _
theorem qBE {n:Nat} (h:n ≤ qdJ):n < 4611686018427387904:=by unfold qdJ at h; omega
theorem qBP:InPl Pg 136 9 (fun s => Value.string ⟨s.toArray⟩) qoD (fun _ _ _ => .tuple #[]):={
  call:=Tryz.call136
  row:=fun w b cap cur l hh hc hl hm hla ht => by
    have hlen:=qBE hla
    refine (Any.slices_Sort_string Tryz.lays190 b 0 cap l w (qyj hh ht) ((Array.getElem?_eq_some_iff.1 hh).1) hlen).mono fun r w' hr => ?_
    obtain ⟨rfl,n,os,rfl⟩:=hr
    obtain ⟨k1,k2,cur',k3,k4,k5⟩:=qvI (n:=n) (os:=os) (qoD l) (qoD l) hh (by rw [qkw]; omega) (List.take_length)
    exact ⟨rfl,by rw [qkw]; exact hl,rfl,rfl,rfl,k2,k1,cur',k3,by omega,k5⟩
  none:=fun w => ⟨by simp [qoD],Any.slices_Sort_string_none Tryz.lays190 Option.none 0 w⟩ }
theorem qvy (l:List Str):(Lib.compact l ++ List.replicate (l.length - (Lib.compact l).length) []).take (Lib.compact l).length = Lib.compact l:=by simp
theorem qw8 (l:List Str):(Lib.compact l).length ≤ l.length:=by
  unfold Lib.compact Lib.compactUpTo
  rw [List.length_map]
  exact Nat.le_trans (List.length_filter_le _ _) (by simp)
theorem qyL:InPl Pg 137 9 (fun s => Value.string ⟨s.toArray⟩) Lib.compact (fun x k c => .slice x k c):={
  call:=Tryz.call137
  row:=fun w b cap cur l hh hc hl hm hla ht => by
    have hlen:=qBE hla
    refine (calls_of_every_depth fun D => AnyS.slices_Compact_string_in Tryz.lays194 D b 0 cap l w (qyj hh ht) (by omega) hl).mono fun r w' hr => ?_
    obtain ⟨rfl,q,rfl⟩:=hr
    have hcl:=qw8 l
    obtain ⟨k1,k2,cur',k3,k4,k5⟩:=qvI (n:=q) (os := #[]) (Lib.compact l ++ List.replicate (l.length - (Lib.compact l).length) []) (Lib.compact l) hh (by simp; omega) (qvy l)
    rw [grow_empty] at k1 k2 k3
    exact ⟨rfl,by omega,rfl,rfl,rfl,k2,k1,cur',k3,by omega,k5⟩
  none:=fun w => ⟨by rfl,calls_of_every_depth fun D => AnyS.slices_Compact_string_empty_in Tryz.lays194 D Option.none 0 w⟩ }
noncomputable def qmb (a b:List Str):Option (List Str):=(app ([]:List Str) a).bind fun l => (app l b).bind fun l2 => some (Lib.compact (qoD l2))
noncomputable def qzi:Code:=Tryz.f121.body.getD .skip
theorem coS:Pg.cellsOf 9 = 1:=by kernel_rfl
theorem qBY (l:List Str) (h:l.length ≤ qdJ):Sat Pg GE 0 (qev qzi [true,true,false]) (EX .normal (own1 15 5 (qoD l) 9)) (own1 15 5 l 9) :=
  Sat.inplace (t:=5) (d1:=11) (d2:=12) qBP coS h rfl rfl rfl rfl rfl rfl (by decide) (.inl ⟨rfl,qkw l⟩)
theorem qCi (l:List Str) (h:l.length ≤ qdJ):Sat Pg GE 0 (qev qzi [true,true,true,false]) (EX .normal (own1 15 4 (Lib.compact l) 9)) (own1 15 5 l 9) :=
  Sat.inplace3 (t:=5) (d1:=13) (d2:=14) qyL coS h rfl rfl rfl rfl rfl rfl (by decide) (fun _ _ _ => rfl) rfl rfl rfl (by decide) (by decide)
theorem qCp {α:Type} {l r z:List α} (h:app l r = some z):z.length ≤ qdJ:=by
  unfold app at h
  split at h
  · cases h; simpa using ‹_›
  · cases h
theorem qo8 {a b:List Str} {r:List Str} (h:qmb a b = some r):CC Pg GE 121 [sl cS a,sl cS b] (sl cS r) [(0,9)]:=by
  obtain ⟨l,bl,h⟩:=bnd h
  obtain ⟨l2,bl2,h⟩:=bnd h
  obtain rfl:=lf h
  have h2:=qCp bl2
  have h3:(qoD l2).length ≤ qdJ:=by rw [qkw]; exact h2
  exact C.ev (A:=[8,10]) mixed Tryz.call121 Tryz.func121 (c:=qzi) rfl (aI (qad clS a) <| aI (qad clS b) trivial)
    [.v (sl cS ([]:List Str)),.v (sl cS l),.v (sl cS l2),.pa 0,.pc (own1 15 5 l2 9) .normal (own1 15 5 (qoD l2) 9),.pa 0,.pc (own1 15 5 (qoD l2) 9) .normal (own1 15 4 (Lib.compact (qoD l2)) 9)]
    (Eq.mp (by kernel_rfl) (aI (sT22.mk' (v:=PVal.str) pcS ([]:List Str) 0 (by kernel_rfl)) <| aI (sT22.ap bl) <| aI (sT22.ap bl2) <| aI (fr (own1 15 5 l2 9)) <| aI (qBY l2 h2) <|
      aI (fr (own1 15 5 (qoD l2) 9)) <| aI (qCi (qoD l2) h3) <| aI (rP (sl cS (Lib.compact (qoD l2)))) (qad clS (Lib.compact (qoD l2)))))
end Go.Proofs.YtgldgpdhblndkaaGreatDoor
namespace Go.Proofs.YtgldgpdhblndkaaGreatDoor
open Go
set_option linter.unusedVariables false
set_option maxRecDepth 100000
abbrev fB:Nat:=135
abbrev fW:Nat:=149
noncomputable def bW:Code:=Tryz.f149.body.getD .skip
noncomputable def bB:Code:=Tryz.f135.body.getD .skip
theorem qy7 (p:tPred):CC Pg GE fB [.agg (qaa p)] (.func (.func fW) [] [.eptr (qaa p)]) []:=by
  have z:=se (qat p) <| en (aI (rP (.func (.func fW) [] [.eptr (qaa p)])) <| (aI trivial (aI (show clL 0 (qaa p) from qab p) trivial)))
  exact C.evp (A:=[]) mixed Tryz.call135 Tryz.func135 (c:=bB) rfl (aI (qab p) trivial) z (by kernel_rfl)
theorem qDk:bW = .region (idA bW) (opsA bW) false:=by kernel_rfl
theorem qDh:List.range (opsA bW).size = [0,1] ++ 2 :: ([]:List Nat):=by kernel_rfl
theorem qDl:[0,1].map (fun i => (opsA bW)[i]?) = ((opsA bW).toList.take 2).map some:=by kernel_rfl
theorem qC2:((opsA bW).toList.take 2).all qwh = true:=by kernel_rfl
theorem bW_o:(opsA bW)[2]? = some (opA bW 2):=by kernel_rfl
theorem bW_g:(opA bW 2).guard = none:=by kernel_rfl
theorem qDa:(opA bW 2).op = .call { callee := .value (.func fV),args := #[.tmp 3,.tmp 4],argTypes:=tysA (opA bW 2) }:=by kernel_rfl
theorem bW_d:(opA bW 2).dst = some 5:=by kernel_rfl
theorem qCD (p:tPred) (l:Nat):qb4 Pg GE [] (opsA bW) (fun st => FG st (stt 6 [(3,.agg (qaa p)),(4,yv l)] [] [])) ((opsA bW).toList.take 2) 0 (stt 6 [(0,yv l),(1,.eptr (qaa p))] [] []):=by
  have z:=sv (qaj p) <| en (fr (stt 6 [(3,.agg (qaa p)),(4,yv l)] [] []))
  exact qs7 z (by kernel_rfl)
section
variable {S:Type} {step:S→tPred→Option (Bool×S)} {J:Bool→S→qa0→World→Prop} {l:Nat}
theorem qCE (hY:Yd Pg GE l qaa step J) (p:tPred) {s:S} {r:Bool×S} {Γ:qa0} {w:World} {v:Value} {n:Nat} (hv:visP step p s = some r) (hJ:J true s Γ w) (hvr:VR Γ [] w (.eptr (qaa p)) v) :
    CallsIn Fence.wide n Pg fW #[.func (.yield l) #[] #[],v] w fun e w' => (∃ u,e = .returned u)∧∃ Γ',Γ.Le w Γ' w'∧J r.1 r.2 Γ' w':=by
  refine callsIn_of_wp Tryz.func149 (c:=bW) rfl trivial ?_
  have h0:VF J Γ w true s (stt 6 [(0,yv l),(1,.eptr (qaa p))] [] []) (#[.func (.yield l) #[] #[],v] ++ Array.replicate 4 undef) w:=by
    refine ⟨Γ,hJ,.refl _ _,_,_,_,(hY.base _ _ _ _ hJ).fresh 0 (tmps:=[yv l,.eptr (qaa p)] ++ List.replicate 4 .undef) (by simp) fun t q u hq hu => ?_⟩
    by_cases ht:t < 2
    · rw [List.getElem?_append_left (by simpa using ht)] at hq
      rw [Array.getElem?_append_left (by simpa using ht)] at hu
      match t,ht with
      | 0,_ => simp at hq hu; subst hq; subst hu; exact .val _
      | 1,_ => simp at hq hu; subst hq; subst hu; exact hvr
    · rw [List.getElem?_append_right (by simpa using ht),List.getElem?_replicate] at hq
      split at hq <;> cases hq
      exact .undef u
  show bW.wpIn Fence.wide n Pg _ ⟨_,[]⟩ w
  have d2:(PVal.eptr (qaa p)).cl 0:=qab p
  have d3:(PVal.agg (qaa p)).cl 0:=qab p
  have key:(Code.region (idA bW) (opsA bW) false).wpIn Fence.wide n Pg (bodyPost Pg Tryz.f149 fun e w' => (∃ u,e = .returned u)∧∃ Γ',Γ.Le w Γ' w'∧J r.1 r.2 Γ' w') ⟨#[.func (.yield l) #[] #[],v] ++ Array.replicate 4 undef,[]⟩ w:=by
    refine wpIn_region ?_
    rw [qDh]
    obtain ⟨Γ1,hJ1,hle1,hS⟩:=VF.again hY (k:=0) (dd1 (L:=[(0,yv l),(1,.eptr (qaa p))]) (by exact aI trivial <| aI d2 trivial) 0 rfl) h0
    refine qqR (A:=[]) (K:=fun st => FG st (stt 6 [(3,.agg (qaa p)),(4,yv l)] [] [])) (fun Γ' bs' ow' a' w' st hS' hK => ?_) _ _ Γ1 _ _ _ w _ qDl (qtl qC2) hS (qCD p l)
    obtain ⟨Γ2,bs2,ow2,hS2⟩:=FG.sr hS' hK
    refine qq5 bW_o bW_g (VF.visitc hY (kA:=0) (stB:=stt 6 [(3,.agg (qaa p)),(4,yv l),(5,.bool r.1)] [] []) (dd1 (by exact aI d3 <| aI trivial trivial) 0 rfl) (qx6 hY p) hv (y:=4) (x:=3) (d:=5) rfl rfl qDa bW_d rfl ⟨Γ2,hY.side _ _ _ _ hJ1 _ _ _ _ _ _ hS2,hle1.trans hS2.step.le,_,_,_,hS2⟩ fun a3 w3 h3 => ?_)
    obtain ⟨Γ3,hJ3,hle3,E,bs3,ow3,hS3⟩:=h3
    obtain ⟨u,e1,_⟩:=qky hS3 (fn:=Tryz.f149) (r := .tuple []) (by kernel_rfl)
    exact ⟨rfl,u,e1,⟨u,rfl⟩,Γ3,hle3,hJ3⟩
  rw [← qDk] at key
  exact key
end
end Go.Proofs.YtgldgpdhblndkaaGreatDoor
namespace Go.Proofs.YtgldgpdhblndkaaGreatDoor
open Go
set_option linter.unusedVariables false
set_option maxRecDepth 100000
abbrev fFr:Nat:=119
noncomputable def bFr:Code:=Tryz.f119.body.getD .skip
def rfA:Code→Code
  | .rangeFunc _ _ a _ => a
  | _ => .skip
def rfB:Code→Code
  | .rangeFunc _ _ _ b => b
  | _ => .skip
noncomputable abbrev nR0:Code:=qev bFr [false]
noncomputable abbrev nR1:Code:=qev bFr [true,false]
noncomputable abbrev nR2:Code:=qev bFr [true,true,false,false]
noncomputable abbrev nRF:Code:=qev bFr [true,true,false,true,false]
noncomputable abbrev nR6:Code:=qev bFr [true,true,true,false]
theorem qCF:bFr = .seq nR0 (.seq nR1 (.seq (.seq nR2 (.block 0 (.rangeFunc (.tmp 6) #[7] (rfA nRF) (rfB nRF)))) (.seq nR6 .ret))):=by kernel_rfl
def qst (s:List Str) (x:tPred):Option (Bool×List Str):=if (x.Op == 3) = true then (app s [x.Name]).bind fun l => some (true,l) else some (true,s)
noncomputable def qsS (p:tPred):Option (List Str):=(visP qst p []).bind fun q => (qmb q.2 []).bind fun r => some r
abbrev bxs (s:List Str):List PBox:=[.dead,.cells [sl cS s] [(0,9)]]
abbrev stF (s:List Str):PSt:=stt 18 [(3,.bptr 1 0)] (bxs s) []
theorem n_0 (p:tPred):Sat Pg GE 0 nR0 (EX .normal (stt 18 [(1,.eptr (qaa p))] [.dead] [])) (stt 18 [(0,.agg (qaa p))] [] []):=by
  have z:=se (qat p) <| eF .normal (stt 18 [(1,.eptr (qaa p))] [.dead] [])
  exact qaR (A:=[]) mixed z (by kernel_rfl)
theorem n_1 (p:tPred):Sat Pg GE 0 nR1 (EX .normal (stt 18 [(1,.eptr (qaa p)),(3,.bptr 1 0)] (bxs []) [])) (stt 18 [(1,.eptr (qaa p))] [.dead] []):=by
  have z:=sx (show qhE Pg 22 = some [sl cS ([]:List Str)] by kernel_rfl) <| eF .normal (stt 18 [(1,.eptr (qaa p)),(3,.bptr 1 0)] (bxs []) [])
  exact qaR (A:=[]) mixed z (by kernel_rfl)
abbrev stR (p:tPred):PSt:=stt 18 [(3,.bptr 1 0),(6,.func (.func fW) [] [.eptr (qaa p)])] (bxs []) []
theorem n_2 (p:tPred):Sat Pg GE 0 nR2 (EX .normal (stR p)) (stt 18 [(1,.eptr (qaa p)),(3,.bptr 1 0)] (bxs []) []):=by
  have z:=sv (qaj p) <| sca (qy7 p) <| eF .normal (stR p)
  exact qaR (A:=[]) mixed z (by kernel_rfl)
abbrev stX (s:List Str) (x:tPred):PSt:=stt 18 [(3,.bptr 1 0),(4,.bptr 2 0)] (bxs s ++ [.cells (xpr x) []]) []
theorem n_3 (s:List Str) (x:tPred):Sat Pg GE 2 (rfA nRF) (EX .normal (stX s x)) (stt 18 [(3,.bptr 1 0),(7,.agg (qaa x))] (bxs s) []):=by
  have z:=sx pz31 <| sx (qan x) <| eF .normal (stX s x)
  exact qaR (A:=[]) mixed z (by kernel_rfl)
abbrev stY (r:List Str):PSt:=stt 18 [(3,.bptr 1 0)] (bxs r ++ [.dead]) []
theorem n_4 (s:List Str) (x:tPred) {r:Bool×List Str} (h:qst s x = some r):r.1 = true∧Sat Pg GE 2 (rfB nRF) (EX .normal (stY r.2)) (stX s x):=by
  unfold qst at h
  rcases ifs h with ⟨c1,h⟩ | ⟨c1,h⟩
  · obtain ⟨l,bl,h⟩:=bnd h
    cases h
    refine ⟨rfl,?_⟩
    have z:=ss <| sg 0 c1 <| ss <| sv (sT22.mk' (v:=PVal.str) pcS ([x.Name]:List Str) 1 (by kernel_rfl)) <| sv (sT22.ap bl) <| eF .normal (stY l)
    exact qaR (A:=[11]) mixed z (by kernel_rfl)
  · cases h
    refine ⟨rfl,?_⟩
    have z:=ss <| sg 0 c1 <| eF .normal (stY s)
    exact qaR (A:=[11]) mixed z (by kernel_rfl)
abbrev stZ (r:List Str):PSt:=stt 18 [(2,sl cS r)] [.dead,.dead] [((2,0),9)]
theorem n_6 (s:List Str) {r:List Str} (h:qmb s [] = some r):Sat Pg GE 2 (.seq nR6 .ret) (EX .ret (stZ r)) (stF s):=by
  have z:=sv (show qbA Pg 22 [sl cS s] = some (sl cS s) by kernel_rfl) <| sca (qo8 h) <| eF .ret (stZ r)
  exact qaR (A:=[]) mixed z (by kernel_rfl)
end Go.Proofs.YtgldgpdhblndkaaGreatDoor
