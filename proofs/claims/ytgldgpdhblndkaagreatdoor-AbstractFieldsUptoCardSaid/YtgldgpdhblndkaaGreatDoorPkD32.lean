/-
  WHAT IS PROVED: parts of the proof, put together by a program out of smaller texts, their own names made short (VisF). Conditions: none.
-/
import Derived.Test.YtgldgpdhblndkaaGreatDoorPkD31
namespace Go.Proofs.YtgldgpdhblndkaaGreatDoor
open Go
set_option linter.unusedVariables false
set_option maxRecDepth 100000
noncomputable abbrev recF (fn:FuncId) (a:Array Value) (D:Nat):Loop:={ state := .ready,pending:=none,fn:=fn,tmps:=a,params := #[7],assign:=rfA nRF,body:=rfB nRF,defers:=D }
def JF (Γe:qa0) (we:World) (bs:qbn) (a:Array Value) (fn:FuncId) (l D:Nat) (b:Bool) (s:List Str) (Γ:qa0) (w:World):Prop :=
  b = true∧∃ ow,SR Pg (asd GE Γe we) Γ bs ow w a (stF s)∧¬ qbi bs ow l∧¬ qbi bs ow D∧w.heap[l]? = some (.loop (recF fn a D))∧w.heap[D]? = some (.deferred (some []))
theorem qfp {w:World} {b:Nat} {o:Obj} (h:w.heap[b]? = some o):b < w.heap.size:=(Array.getElem?_eq_some_iff.1 h).1
theorem qC4 {Γe:qa0} {we:World} {bs:qbn} {a:Array Value} {fn:FuncId} {l D:Nat} (hl:we.heap.size ≤ l) (hD:we.heap.size ≤ D) (hne:D ≠ l) (hb:bs.length = 2):Yd Pg GE l qaa qst (JF Γe we bs a fn l D) where
  base:=fun b s Γ w ⟨_,ow,h,_⟩ => h.base
  side:=fun b s Γ w ⟨h0,ow,h,hTl,hTD,hhl,hhD⟩ Γ' bs' ow' w' a' st' h' =>
    ⟨h0,ow,h.aside h',hTl,hTD,(h'.step.keep l (qfp hhl) id).1.trans hhl,(h'.step.keep D (qfp hhD) id).1.trans hhD⟩
  yield:=fun s Γ w x v n r ⟨h0,ow,h,hTl,hTD,hhl,hhD⟩ hv hr => by
    obtain ⟨hr1,hS4⟩:=n_4 s x hr
    refine ⟨_,_,_,_,run_yield hhl rfl,?_⟩
    have hz:(((#[7]:Array Tmp).zip #[v]).foldl (fun tmps (t,a) => tmps.setIfInBounds t a) a) = a.setIfInBounds 7 v:=by simp
    show RoundIn Fence.wide n Pg l fn (((#[7]:Array Tmp).zip #[v]).foldl (fun tmps (t,a) => tmps.setIfInBounds t a) a) (rfA nRF) (rfB nRF) w _
    rw [hz]
    have h7:SR Pg (asd GE Γe we) Γ bs ow w (a.setIfInBounds 7 v) (stt 18 [(3,.bptr 1 0),(7,.agg (qaa x))] (bxs s) []):=h.set (d:=7) (p := .agg (qaa x)) (hv.mono (.refl _ _) (fun i b hi => by simp at hi))
    refine roundIn_of_wpIn trivial (wpIn_mono (Sat.on (n_3 s x) (by decide) h7 (by rw [hb]; decide) (some l) [] n) ?_)
    rintro e ⟨a1,ds1⟩ w1 ⟨rfl,Γ1,bs1,ow1,st1,h1,⟨rfl,rfl⟩,hbs1,hle1,hsz1,hk1⟩
    obtain ⟨k1,t1⟩:=hk1 l (qfp hhl) hTl
    obtain ⟨k1D,t1D⟩:=hk1 D (qfp hhD) hTD
    have hl1:=k1.trans hhl
    refine ⟨_,run_beginRound hl1 rfl,?_⟩
    obtain ⟨h1',hle1'⟩:=h1.putOther (l:=l) (o := .loop { recF fn a D with state := .busy }) t1 (.inr hl) (fun c t fr e => by rw [hl1] at e; cases e)
    have hb1:2 ≤ bs1.length:=by have:=h1.bl; rw [this]; exact Nat.le_of_ble_eq_true rfl
    refine wpIn_mono (Sat.on hS4 (by decide) h1' hb1 (some l) [] n) ?_
    rintro e ⟨a2,ds2⟩ w2 ⟨rfl,Γ2,bs2,ow2,st2,h2,⟨rfl,rfl⟩,hbs2,hle2,hsz2,hk2⟩
    have hl1':(w1.putObj l (.loop { recF fn a D with state := .busy })).heap[l]? = some (.loop { recF fn a D with state := .busy }):=World.putObj_heap_same (qfp hl1)
    have hD1':(w1.putObj l (.loop { recF fn a D with state := .busy })).heap[D]? = some (.deferred (some [])):=(World.putObj_heap_other hne).trans (k1D.trans hhD)
    obtain ⟨k2,t2⟩:=hk2 l (qfp hl1') t1
    obtain ⟨k2D,t2D⟩:=hk2 D (qfp hD1') t1D
    have hl2:=k2.trans hl1'
    refine ⟨_,_,run_endRound none hl2,?_⟩
    obtain ⟨h3,hle3⟩:=h2.putOther (l:=l) (o := .loop { { recF fn a D with state := .busy } with state:=if (none:Option Code).isNone then .ready else .done,pending:=none }) t2 (.inr hl) (fun c t fr e => by rw [hl2] at e; cases e)
    have hle:Γ.Le w Γ2 (w2.putObj l (.loop { { recF fn a D with state := .busy } with state:=if (none:Option Code).isNone then .ready else .done,pending:=none })):=((hle1.trans hle1').trans hle2).trans hle3
    obtain ⟨ow3,h4,hT4⟩:=h.back rfl h3 hle (H':=bxs r.2) (fun i hi => (hbs2 i (by omega)).trans (hbs1 i (by omega))) (by
      refine ⟨trivial,⟨rfl,aI (up (qad clS r.2)) trivial,fun x hx => hx⟩,trivial⟩) hb.symm
    refine ⟨Γ2,by rw [hr1]; rfl,hle,hr1,ow3,h4,fun hx => t2 (hT4 l hx),fun hx => t2D (hT4 D hx),?_,?_⟩
    · exact World.putObj_heap_same (qfp hl2)
    · exact (World.putObj_heap_other hne).trans (k2D.trans hD1')
theorem qrW {p:tPred} {r:List Str} (h:qsS p = some r):CC Pg GE fFr [.agg (qaa p)] (sl cS r) [(0,9)]:=by
  obtain ⟨q,hq,h⟩:=bnd h
  obtain ⟨r',hu,h⟩:=bnd h
  cases h
  refine ⟨aI (qab p) trivial,Tryz.call119,fun Γ bs ow w vs hS => (callsIn_wide (n:=0)).1 (callsIn_of_wp_marks Tryz.func119 (c:=bFr) rfl trivial ?_)⟩
  obtain rfl:bs = []:=List.eq_nil_of_length_eq_zero hS.bl
  obtain ⟨v,rfl⟩:∃ v,vs = #[v]:=Array.size_eq_one_iff.1 hS.sz
  have hB:Base GE Γ w:=hS.base
  have hE:EGood GE 0 (asd GE Γ w):=hB.good
  have hvr:VR Γ [] w (.agg (qaa p)) v:=hS.tm 0 _ _ rfl rfl
  have h0:SR Pg (asd GE Γ w) Γ [] (fun _ => none) w (#[v] ++ Array.replicate 17 undef) (stt 18 [(0,.agg (qaa p))] [] []):=by
    refine hB.fresh (a := #[v] ++ Array.replicate 17 undef) 0 (tmps:=[.agg (qaa p)] ++ List.replicate 17 .undef) (by simp) fun t q u hq hu => ?_
    by_cases ht:t < 1
    · rw [List.getElem?_append_left (by simpa using ht)] at hq
      rw [Array.getElem?_append_left (by simpa using ht)] at hu
      match t,ht with
      | 0,_ => simp at hq hu; subst hq; subst hu; exact hvr
    · rw [List.getElem?_append_right (by show 1 ≤ t; omega),List.getElem?_replicate] at hq
      split at hq <;> cases hq
      exact .undef u
  show bFr.wpIn Fence.wide 0 Pg _ ⟨#[v] ++ Array.replicate 17 undef,[]⟩ w
  rw [qCF]
  refine wpIn_seq (wpIn_mono (Sat.wideE (n_0 p) hE h0 0 []) ?_)
  rintro e ⟨a1,ds1⟩ w1 ⟨rfl,Γ1,bs1,ow1,st1,h1,rfl,rfl⟩
  refine wpIn_seq (wpIn_mono (Sat.wideE (n_1 p) hE h1 0 []) ?_)
  rintro e ⟨a2,ds2⟩ w2 ⟨rfl,Γ2,bs2,ow2,st2,h2,rfl,rfl⟩
  refine wpIn_seq (wpIn_seq (wpIn_mono (Sat.wideE (n_2 p) hE h2 0 []) ?_))
  rintro e ⟨a3,ds3⟩ w3 ⟨rfl,Γ3,bs3,ow3,st3,h3,rfl,rfl⟩
  have h6:=h3.opv [] (.tmp 6)
  have e6:opv (asd GE Γ w).GE (stR p).tmps (.tmp 6) = .func (.func fW) [] [.eptr (qaa p)]:=rfl
  rw [e6] at h6
  have hbl:bs3.length = 2:=h3.bl
  refine wpIn_block (wpIn_rangeFunc fun fn _ => ?_)
  obtain ⟨g1,l1⟩:=h3.allocO (.deferred (some []))
  obtain ⟨g2,l2⟩:=g1.allocO (.loop (recF fn a3 w3.heap.size))
  have gF:=g2.forgetT (tm:=(stF []).tmps) rfl
  have hsz3:w.heap.size ≤ w3.heap.size:=h3.step.size
  have htl:∀ b,w3.heap.size ≤ b→¬ qbi bs3 ow3 b:=fun b hb hx => by
    rcases hx with ⟨i,hi⟩ | hx
    · have hil:i < (stR p).boxes.length:=by rw [← h3.bl]; exact qae hi
      have:=(h3.bx i b _ hi (List.getElem?_eq_getElem hil)).2.1
      omega
    · cases hL:ow3 b with
      | none => exact hx hL
      | some L => have:=(h3.on b L hL).1; omega
  generalize hvf:(Act.mk a3 []).eval (.tmp 6) = vf at h6
  cases h6 with
  | func _ _ _ fs cs hl1 hl2 hf hc =>
  obtain rfl:fs = #[]:=Array.eq_empty_of_size_eq_zero hl1
  obtain ⟨cv,rfl⟩:∃ v,cs = #[v]:=Array.size_eq_one_iff.1 hl2
  have hcv:VR Γ3 bs3 w3 (.eptr (qaa p)) cv:=hc 0 _ _ rfl rfl
  have hJ:JF Γ w bs3 a3 fn (w3.heap.size + 1) w3.heap.size true [] Γ3 ((w3.alloc (.deferred (some []))).alloc (.loop (recF fn a3 w3.heap.size))):=by
    refine ⟨rfl,ow3,gF,htl _ (by omega),htl _ (Nat.le_refl _),?_,?_⟩
    · have:=World.alloc_heap_new (w3.alloc (.deferred (some []))) (.loop (recF fn a3 w3.heap.size))
      rwa [World.size_alloc] at this
    · rw [qcQ _ _ (by rw [World.size_alloc]; omega)]
      exact World.alloc_heap_new w3 _
  have hY:=qC4 (Γe:=Γ) (we:=w) (bs:=bs3) (a:=a3) (fn:=fn) (l:=w3.heap.size + 1) (D:=w3.heap.size) (by omega) hsz3 (by omega) hbl
  refine ⟨_,_,_,{ target := .fn (.func fW) #[cv],args := #[.func (.yield (w3.heap.size + 1)) #[] #[]] },(w3.alloc (.deferred (some []))).alloc (.loop (recF fn a3 w3.heap.size)),fW,#[.func (.yield (w3.heap.size + 1)) #[] #[],cv],(w3.alloc (.deferred (some []))).alloc (.loop (recF fn a3 w3.heap.size)),run_enterLoop_outer fn a3 #[7] (rfA nRF) (rfB nRF),?_,fun _ _ => trivial,?_,fun hx => by simp [Fence.wide] at hx,?_⟩
  · have hvf':(Act.mk a3 []).eval (.tmp 6) = .func (.func fW) #[] #[cv]:=hvf
    simp only [resolve,hvf',Deferred.ofValue]
    simp [Act.eval]
  · simp [invoke,Tryz.call149]
  · refine (qCE hY p (n:=0 - 1) hq hJ (((hcv.mono l1 (.refl _)).mono l2 (.refl _)).clo (show clL 0 (qaa p) from qab p))).mono ?_
    rintro e w4 ⟨⟨u,rfl⟩,Γ4,hle4,hq1,ow4,h4,tl4,tD4,hl4,hD4⟩
    refine ⟨none,_,run_endLoop hl4 (by simp),?_⟩
    obtain ⟨h5,hle5⟩:=h4.putOther (l:=w3.heap.size + 1) (o := .loop { recF fn a3 w3.heap.size with state := .exhausted }) tl4 (.inr (show w.heap.size ≤ _ by omega)) (fun c t fr e => by rw [hl4] at e; cases e)
    have hD5:(w4.putObj (w3.heap.size + 1) (.loop { recF fn a3 w3.heap.size with state := .exhausted })).heap[w3.heap.size]? = some (.deferred (some [])):=(World.putObj_heap_other (by omega)).trans hD4
    generalize w4.putObj (w3.heap.size + 1) (.loop { recF fn a3 w3.heap.size with state := .exhausted }) = w5 at h5 hle5 hD5
    show (Code.seq nR6 .ret).wpIn Fence.wide 0 Pg _ ⟨a3,[{ target := .collected w3.heap.size,args := #[] }]⟩ w5
    refine wpIn_mono (wpIn_wide.2 (Sat.on (n_6 q.2 hu) (by decide) h5 (by rw [hbl]; decide) none [{ target := .collected w3.heap.size,args := #[] }])) ?_
    rintro e ⟨a6,ds6⟩ w6 ⟨rfl,Γ6,bs6,ow6,st6,h6,⟨rfl,rfl⟩,hbs6,hle6,hsz6,hk6⟩
    obtain ⟨k6,t6⟩:=hk6 _ (qfp hD5) tD4
    have hD6:=k6.trans hD5
    obtain ⟨h7,hle7⟩:=h6.putOther (l:=w3.heap.size) (o := .deferred none) t6 (.inr hsz3) (fun c t fr e => by rw [hD6] at e; cases e)
    refine ⟨by simp,.inl ⟨w3.heap.size,_,rfl,run_takeDeferred hD6,?_⟩⟩
    have hS7:SR Pg ⟨GE,Γ,w,qbi [] ow⟩ Γ6 bs6 ow6 (w6.putObj w3.heap.size (.deferred none)) a6 (stZ r):={ h7 with
      bn:=fun i b hb => (h7.bn i b hb).elim False.elim .inr
      on:=fun b L hL => ⟨(h7.on b L hL).1,(h7.on b L hL).2.elim False.elim .inr⟩
      gx:=hS.gx
      step:={ h7.step with keep:=fun b hb _ => h7.step.keep b hb (fun hx => hx) } }
    obtain ⟨vr,e1,e2,e3⟩:=qky hS7 (fn:=Tryz.f119) (r:=sl cS r) (by kernel_rfl)
    refine ⟨vr,e1,vr,Γ6,qsI (qcF Tryz.f119.results.toList) [(0,9)] ow6,rfl,?_⟩
    have hrs:Tryz.f119.results.toList = [.tmp 2]:=by kernel_rfl
    have hf:=hS7.finish (H':=[]) (src:=qcF Tryz.f119.results.toList) (ro:=[(0,9)]) e2 (qad clS r) trivial (fun x hx => by
      simp only [List.mem_singleton] at hx
      subst hx
      refine ⟨?_,fun u v' => e3 0 u v' ?_⟩
      · rw [hrs]; exact List.mem_singleton.2 rfl
      · rw [hrs]; trivial) (fun x hx y hy _ => by
      simp only [List.mem_singleton] at hx hy
      rw [hx,hy])
    simpa using hf
end Go.Proofs.YtgldgpdhblndkaaGreatDoor
