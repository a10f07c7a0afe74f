/- WHAT IS PROVED: parts of the proof, put together by a program (SatD SatE). Conditions: none. -/
import Derived.Test.YtgldgpdhblndkaaGreatDoorPkE19
noncomputable section
namespace Go.Proofs.YtgldgpdhblndkaaGreatDoor
open Go
def FG (st st0:PSt):Prop:=fgT st.tmps st0.tmps = st0.tmps∧fgB st.boxes st0.boxes = st0.boxes∧(st0.own.all fun x => decide (x ∈ st.own)) = true
theorem fr (st:PSt):st.tmps = st.tmps∧st.boxes = st.boxes∧true = true:=⟨rfl,rfl,rfl⟩
theorem FG.weak {P:Program} {m:Nat} {st st0:PSt} (h:FG st st0):Weak P m st st0:=by
  obtain ⟨h1,h2,h3⟩:=h
  have:=Weak.forget (P:=P) (m:=m) (st:=st) st0.tmps st0.boxes st0.own (fun x hx => by simpa using List.all_eq_true.1 h3 x hx)
  rw [h1,h2] at this
  exact this
def evC (P:Program) (GE:List (Nat×List PVal)) (A:List Nat) (m:Nat):Code→List It→PSt→(Exit→List It→PSt→Prop)→Prop
  | .skip,sc,st,K => K .normal sc st
  | .label _,sc,st,K => K .normal sc st
  | .region _ ops draw,sc,st,K => match draw with
    | false => match ops.toList.all qd7 with
      | true => appK st.boxes (qdQ P ops.toList) fun H => qA1 P GE A ops (K .normal) ops.toList 0 st.boxes.length sc ⟨st.tmps,H,st.own⟩
      | false => False
    | true => match sc with
      | .dr an :: sc' => qCv P GE A ops an [] [] [] (K .normal) sc' st
      | .dx an X br rw :: sc' => qCv P GE A ops an X br rw (K .normal) sc' st
      | _ => False
  | .seq a b,sc,st,K =>
    let after (e:Exit) (sc:List It) (st:PSt):Prop:=match e with
      | .normal => fzK m sc st fun sc st => evC P GE A m b sc st K
      | e => K e sc st
    match sc with
    | .pa 0 :: .pc st0 e st1 :: sc' => FG st st0∧Sat P GE m a (EX e st1) st0∧after e sc' st1
    | .pa (n + 1) :: sc' => evC P GE A m a (.pa n :: sc') st after
    | sc => evC P GE A m a sc st after
  | .cond c a b,sc,st,K => opK GE st.tmps c fun v => match v with
    | .bool t => match sc with
      | .k :: sc' => match t with
        | true => fzK m sc' st fun sc st => evC P GE A m a sc st K
        | false => fzK m sc' st fun sc st => evC P GE A m b sc st K
      | .g _ x :: sc' => t = x∧match x with
        | true => fzK m sc' st fun sc st => evC P GE A m a sc st K
        | false => fzK m sc' st fun sc st => evC P GE A m b sc st K
      | _ => False
    | _ => False
  | .block id c,sc,st,K => evC P GE A m c sc st fun e sc st => match e with
    | .exit id' => if id' = id then K .normal sc st else K (.exit id') sc st
    | e => K e sc st
  | .exit id,sc,st,K => K (.exit id) sc st
  | .ret,sc,st,K => K .ret sc st
  | .loop c,sc,st,K => match sc with
    | .pc st0 e st1 :: sc' => FG st st0∧Sat P GE m (.loop c) (EX e st1) st0∧K e sc' st1
    | _ => False
  | _,_,_,_ => False
section
variable {P:Program} {GE:List (Nat×List PVal)} {A:List Nat} {m:Nat}
theorem qev (hf:P.follows .mixedOrders = true):∀ (c:Code) (sc:List It) (st:PSt) (K:Exit→List It→PSt→Prop),evC P GE A m c sc st K→Sat P GE m c (fun e st' => ∃ sc',K e sc' st') st
  | .skip,sc,st,K,h => Sat.skip ⟨sc,h⟩
  | .label _,sc,st,K,h => Sat.label ⟨sc,h⟩
  | .region id ops draw,sc,st,K,h => by
    simp only [evC] at h
    cases draw with
    | false =>
      simp only at h
      split at h
      · rename_i hd
        simp only [appK,qaq] at h
        exact Sat.text hd (qpa _ _ _ _ _ h)
      · exact h.elim
    | true =>
      simp only at h
      split at h
      · exact qt0 hf (fun st hx => hx) h
      · exact qt0 hf (fun st hx => hx) h
      · exact h.elim
  | .seq a b,sc,st,K,h => by
    have aft:∀ (e:Exit) (sc':List It) (st':PSt),(match e with | .normal => fzK m sc' st' (fun sc st => evC P GE A m b sc st K) | e => K e sc' st')→(match e with | .normal => Sat P GE m b (fun e st' => ∃ sc',K e sc' st') st' | e => ∃ sc',K e sc' st'):=by
      intro e sc' st' hx
      cases e with
      | normal =>
        obtain ⟨sc2,st2,hw,hx⟩:=qCy (P:=P) hx
        exact Sat.weak hw (qev hf b sc2 st2 K hx)
      | exit id => exact ⟨_,hx⟩
      | goto l => exact ⟨_,hx⟩
      | ret => exact ⟨_,hx⟩
      | panic c => exact ⟨_,hx⟩
      | outgrown => exact ⟨_,hx⟩
    simp only [evC] at h
    refine Sat.seq ?_
    split at h
    · rename_i st0 e st1 sc'
      obtain ⟨h1,h2,h3⟩:=h
      refine Sat.weak h1.weak (EX.of h2 ?_)
      have:=aft e sc' st1 h3
      cases e <;> exact this
    · exact (qev hf a _ st _ h).imp fun e st' hx => by
        obtain ⟨sc',hx⟩:=hx
        have:=aft e sc' st' hx
        cases e <;> exact this
    · exact (qev hf a _ st _ h).imp fun e st' hx => by
        obtain ⟨sc',hx⟩:=hx
        have:=aft e sc' st' hx
        cases e <;> exact this
  | .cond c a b,sc,st,K,h => by
    simp only [evC,qbr] at h
    have go:∀ {x:Code} (hx:∀ (sc:List It) (st:PSt),evC P GE A m x sc st K→Sat P GE m x (fun e st' => ∃ sc',K e sc' st') st) {sc:List It},fzK m sc st (fun sc st => evC P GE A m x sc st K)→Sat P GE m x (fun e st' => ∃ sc',K e sc' st') st:=by
      intro x hx sc h
      obtain ⟨sc2,st2,hw,h⟩:=qCy (P:=P) h
      exact Sat.weak hw (hx sc2 st2 h)
    split at h
    · rename_i t ht
      split at h
      · rename_i sc'
        refine Sat.cond ht (fun h1 => ?_) (fun h1 => ?_)
        · subst h1; exact go (fun sc st => qev hf a sc st K) h
        · subst h1; exact go (fun sc st => qev hf b sc st K) h
      · rename_i j x sc'
        obtain ⟨rfl,h⟩:=h
        refine Sat.cond ht (fun h1 => ?_) (fun h1 => ?_)
        · subst h1; exact go (fun sc st => qev hf a sc st K) h
        · subst h1; exact go (fun sc st => qev hf b sc st K) h
      · exact h.elim
    · exact h.elim
  | .block id c,sc,st,K,h => by
    simp only [evC] at h
    refine Sat.block ((qev hf c _ st _ h).imp fun e st' hx => ?_)
    obtain ⟨sc',hx⟩:=hx
    cases e with
    | exit id' =>
      simp only [qDA]
      simp only at hx
      split at hx
      · rename_i hid; rw [if_pos hid]; exact ⟨sc',hx⟩
      · rename_i hid; rw [if_neg hid]; exact ⟨sc',hx⟩
    | normal => exact ⟨sc',hx⟩
    | goto l => exact ⟨sc',hx⟩
    | ret => exact ⟨sc',hx⟩
    | panic c => exact ⟨sc',hx⟩
    | outgrown => exact ⟨sc',hx⟩
  | .exit id,sc,st,K,h => Sat.exit ⟨sc,h⟩
  | .ret,sc,st,K,h => Sat.ret ⟨sc,h⟩
  | .loop c,sc,st,K,h => by
    simp only [evC] at h
    split at h
    · rename_i st0 e st1 sc'
      obtain ⟨h1,h2,h3⟩:=h
      exact Sat.weak h1.weak (EX.of h2 ⟨sc',h3⟩)
    · exact h.elim
  | .rangeFunc ..,_,_,_,h => by simp [evC] at h
  | .scope _,_,_,_,h => by simp [evC] at h
  | .goto _,_,_,_,h => by simp [evC] at h
  | .refuse _,_,_,_,h => by simp [evC] at h
def FN (e0:Exit) (st0:PSt):Exit→List It→PSt→Prop:=fun e _ st => e0 = e∧FG st st0
theorem piece (hf:P.follows .mixedOrders = true) {c:Code} {e0:Exit} {st0 st:PSt} (sc:List It) (h:evC P GE A m c sc st (FN e0 st0)):Sat P GE m c (EX e0 st0) st :=
  (qev hf c sc st _ h).mono fun _ _ hx => by
    obtain ⟨_,hx⟩:=hx
    exact ⟨st0,hx.2.weak,hx.1.symm,rfl⟩
theorem next (hf:P.follows .mixedOrders = true) {σ X:Type} {S:σ→PSt} {ex:X→Exit} {so:X→PSt} {c:Code} {s:σ} {st:PSt} (sc:List It) (h:evC P GE A m c sc st (FN .normal (S s))):Sat P GE m c (LQ S ex so (.inl s)) st :=
  (piece hf sc h).imp fun _ _ hx => ⟨hx.1,hx.2⟩
theorem over (hf:P.follows .mixedOrders = true) {σ X:Type} {S:σ→PSt} {ex:X→Exit} {so:X→PSt} {c:Code} {x:X} {st:PSt} (sc:List It) (hn:ex x ≠ .normal) (h:evC P GE A m c sc st (FN (ex x) (so x))):Sat P GE m c (LQ S ex so (.inr x)) st :=
  (piece hf sc h).imp fun _ _ hx => ⟨by rw [hx.1]; exact hn,hx.1,hx.2⟩
def qsY (rs:List ResultVar) (ro:List (Nat×TypeId)) (st:PSt):Bool :=
  ro.all (fun x => decide ((qdl rs x.1,x.2) ∈ st.own) && (match rs with
    | [.tmp _] => true
    | [_] => false
    | rs => match rs[x.1]? with
      | some (.tmp t) => (st.tmps.getD t .undef).isSlice
      | _ => false)) && ro.all (fun x => ro.all fun y => !decide (qdl rs x.1 = qdl rs y.1) || decide (x.1 = y.1))
def PVal.isAgg:PVal→Bool
  | .agg _ => true
  | _ => false
def qA2 (P:Program) (rs:List ResultVar) (r:PVal) (ro:List (Nat×TypeId)) (st:PSt):Prop :=
  ∃ (t:Tmp) (ty:TypeId) (i off:Nat) (cs:List PVal) (own:List (Nat×TypeId)) (l:List PVal),rs = [.cell t ty]∧(∃ fs,P.underlying ty = some (.struct fs))∧st.tmps.getD t .undef = .bptr i off∧st.boxes[i]? = some (.cells cs own) ∧
    r = .agg l∧qbg P ty (cs.drop off) = some (.agg l)∧r.cl 0∧(∀ x ∈ ro,(off + x.1,x.2) ∈ own∧x.1 < l.length)∧(ro.map (·.1)).Nodup
def qHd (P:Program) (rs:List ResultVar) (r:PVal) (ro:List (Nat×TypeId)) (e:Exit) (st:PSt):Prop :=
  retP P rs r ro [] e st∨((e = .normal∨e = .ret)∧qA2 P rs r ro st)
def qFr (P:Program) (rs:List ResultVar) (ro:List (Nat×TypeId)) (st:PSt):Bool:=match rs with
  | [.cell t ty] => match P.underlying ty with
    | some (.struct _) => match st.tmps.getD t .undef with
      | .bptr i off => match st.boxes[i]? with
        | some (.cells _ own) => ro.all (fun x => decide ((off + x.1,x.2) ∈ own) && decide (x.1 < P.cellsOf ty)) && qn8 (ro.map (·.1))
        | _ => false
      | _ => false
    | _ => false
  | _ => false
section
variable {P:Program} {E:Ent} {Γ:qaP} {bs:qbj} {ow:Nat→Option Loc} {w:World} {a:Array Value} {st:PSt}
theorem SR.pushed (h:SR P E Γ bs ow w a st) {v:Value} {p:PVal} (hv:VR Γ bs w p v):SR P E Γ bs ow w (a.push v) { st with tmps:=st.tmps ++ [p] } :=
  { h with
    sz:=by simp [h.sz]
    tm:=fun t q u hq hu => by
      by_cases ht:t < a.size
      · rw [Array.getElem?_push_lt ht] at hu
        simp only at hq
        rw [List.getElem?_append_left (by rw [← h.sz]; exact ht)] at hq
        exact h.tm t q u hq (by rw [← hu]; simp [ht])
      · have hlt:t < (a.push v).size:=(Array.getElem?_eq_some_iff.1 hu).1
        have ht2:t = a.size:=by simp at hlt; omega
        subst ht2
        simp only at hq
        rw [List.getElem?_append_right (by rw [h.sz]; exact Nat.le_refl _),h.sz] at hq
        simp at hq hu
        subst hq; subst hu; exact hv
    ot:=fun t k e he => by
      obtain ⟨u,v',h1,h2,h3,h4⟩:=h.ot t k e he
      have hlt:t < a.size:=(Array.getElem?_eq_some_iff.1 h1).1
      exact ⟨u,v',by rw [Array.getElem?_push_lt hlt,← h1]; simp [hlt],h2,h3,h4⟩ }
theorem SR.finishCell (h:SR P E Γ bs ow w a st) {fn:Func} {r:PVal} {ro:List (Nat×TypeId)} (hr:qA2 P fn.results.toList r ro st) :
    ∃ v ow',(results fn a).run P w = .ok v w∧SR P E Γ [] ow' w #[v] ⟨[r],[],ro.map fun x => ((0,x.1),x.2)⟩:=by
  obtain ⟨t,ty,i,off,cs,own,l,hrs,⟨fs,hfs⟩,ht,hB,rfl,hp,hcl,hro,hnd⟩:=hr
  have hrv:retV P st fn.results.toList = some (.agg l):=by
    rw [hrs]
    show qkH P ty (st.tmps.getD t .undef) st.boxes = _
    rw [ht]
    simp only [qkH,hB,hp]
  obtain ⟨v,e1,e2,_⟩:=qmD h hrv
  have hvt:=h.getD t
  rw [ht] at hvt
  generalize hva:a.getD t undef = vt at hvt
  cases hvt with
  | bptr _ _ b hb =>
  obtain ⟨v2,q1,q2,q3⟩:=qsH h hb hB hp
  have hvv:v2 = v:=by
    have hres:fn.results = #[.cell t ty]:=by
      have:fn.results = fn.results.toList.toArray:=by simp
      rw [this,hrs]
    have hrun:(results fn a).run P w = .ok v2 w:=by
      simp [results,hres,asAddr]
      have hva':a[t]?.getD undef = .pointer (some ⟨b,off,none⟩):=by rw [← Array.getD_eq_getD_getElem?]; exact hva
      rw [hva']
      simp [q1]
    rw [e1] at hrun
    cases hrun
    rfl
  subst hvv
  have g1:=h.pushed e2
  obtain ⟨ow',g2⟩:=SR.takeOwns (off:=off) (d:=a.size) (u:=v2) hb (by simp) ro g1 hB (fun x hx => (hro x hx).1) hnd fun x hx => by
    have:=q3 ⟨_,hfs,trivial⟩ x.1 (hro x hx).2
    obtain ⟨v',z1,_⟩:=h.ob i (off + x.1) x.2 cs own b hB (hro x hx).1 hb
    exact ⟨v',this.trans z1,z1⟩
  refine ⟨v2,qwZ (fun k => (a.size,k)) ro ow',e1,?_⟩
  have hf:=g2.finish (H':=[]) (src:=fun k => (a.size,k)) (ro:=ro) e2 hcl (by unfold qbQ; trivial) (fun x hx => ⟨?_,fun u v' hu hv' => ?_⟩) (fun x _ y _ e => by simpa using e)
  · simpa using hf
  · exact List.mem_append_left _ (List.mem_reverse.2 (List.mem_map.2 ⟨x,hx,rfl⟩))
  · simp at hu; subst hu; exact hv'
end
def FRs (P:Program) (rs:List ResultVar) (r:PVal) (ro:List (Nat×TypeId)) (st:PSt):Prop:=match qsY rs ro st with
  | true => match retV P st rs with
    | some p => p = r∧r.cl 0
    | none => False
  | false => match qFr P rs ro st with
    | true => match retV P st rs with
      | some p => p = r∧r.cl 0∧r.isAgg = true
      | none => False
    | false => False
def FR (P:Program) (rs:List ResultVar) (r:PVal) (ro:List (Nat×TypeId)):Exit→List It→PSt→Prop:=fun e _ st => match e with
  | .normal => FRs P rs r ro st
  | .ret => FRs P rs r ro st
  | _ => False
theorem C.ofSat {f:FuncId} {fn:Func} {c:Code} {args:List PVal} {r:PVal} {ro:List (Nat×TypeId)}
    (hcall:∀ vs w,(callFunc f vs).run P w = .ok (.enter f vs) w) (hfn:P.funcs[f]? = some fn) (hb:fn.body = some c)
    (hp:Sat P GE 0 c (qHd P fn.results.toList r ro) ⟨args ++ List.replicate (fn.ntmps - args.length) .undef,[],[]⟩):C P GE f args [] [] r ro []:=by
  refine ⟨hcall,fun Γ bs ow w vs h => calls_of_wp hfn hb ?_⟩
  have hbl:bs.length = 0:=h.bl
  obtain rfl:bs = []:=List.eq_nil_of_length_eq_zero hbl
  have h0:SR P ⟨GE,Γ,w,fun _ => False⟩ Γ [] (fun _ => none) w (vs ++ Array.replicate (fn.ntmps - vs.size) undef) ⟨args ++ List.replicate (fn.ntmps - args.length) .undef,[],[]⟩:=by
    have hsz:vs.size = args.length:=h.sz
    exact {
      wi:=h.wi
      sz:=by simp [hsz]
      tm:=fun t p v hp hv => by
        simp only at hp
        by_cases ht:t < args.length
        · rw [List.getElem?_append_left ht] at hp
          rw [Array.getElem?_append_left (by omega)] at hv
          exact h.tm t p v hp hv
        · rw [List.getElem?_append_right (by omega),List.getElem?_replicate] at hp
          split at hp <;> cases hp
          exact .undef v
      bl:=rfl
      bx:=fun i b B hi => by simp at hi
      inj:=fun i j b hi => by simp at hi
      bn:=fun i b hi => by simp at hi
      on:=fun b L hL => by cases hL
      ot:=fun t k e he => by simp at he
      ob:=fun i j e cs own b hB => by simp at hB
      gl:=h.gl
      gc:=h.gc
      gx:=fun g cs hg => ⟨(h.gx g cs hg).1,fun hx => hx,(h.gx g cs hg).2.2⟩
      step := .refl _ _ _ _ }
  have hE:EGood GE 0 ⟨GE,Γ,w,fun _ => False⟩:={
    ge:=rfl
    low:=fun b n hb => h.lt_of_ghost hb
    nt:=fun _ _ hx => hx
    gl:=h.gl }
  have hwp:=hp none ⟨GE,Γ,w,fun _ => False⟩ [] ⟨vs ++ Array.replicate (fn.ntmps - vs.size) undef,[]⟩ w hE rfl ⟨Γ,[],_,h0,fun i _ => rfl⟩
  refine wp_mono hwp fun e a w' hq => ?_
  obtain ⟨hd,st,⟨Γ1,bs1,ow1,hS0,hk⟩,hQ⟩:=hq
  have hS:SR P ⟨GE,Γ,w,qbb [] ow⟩ Γ1 bs1 ow1 w' a.tmps st:={ hS0 with
    bn:=fun i b hb => (hS0.bn i b hb).elim False.elim .inr
    on:=fun b L hL => ⟨(hS0.on b L hL).1,(hS0.on b L hL).2.elim False.elim .inr⟩
    gx:=h.gx
    step:={ hS0.step with keep:=fun b hb _ => hS0.step.keep b hb (fun hx => hx) } }
  have key:(retV P st fn.results.toList = some r∧r.cl 0∧qbQ 0 st.boxes []∧(∀ x ∈ ro,(qdl fn.results.toList x.1,x.2) ∈ st.own∧qll st fn.results.toList x.1) ∧
      (∀ x ∈ ro,∀ y ∈ ro,qdl fn.results.toList x.1 = qdl fn.results.toList y.1→x.1 = y.1)) →
      a.defers = []∧∃ v,(results fn a.tmps).run P w' = .ok v w'∧∃ v' Γ' ow',Ending.returned v = .returned v'∧SR P ⟨GE,Γ,w,qbb [] ow⟩ Γ' [] ow' w' #[v'] ⟨[r],[],ro.map fun x => ((0,x.1),x.2)⟩:=by
    rintro ⟨k1,k2,k3,k4,k5⟩
    obtain ⟨v,e1,e2,e3⟩:=qmD hS k1
    refine ⟨hd,v,e1,v,Γ1,qwZ (qdl fn.results.toList) ro ow1,rfl,?_⟩
    have hf:=hS.finish (H':=[]) (src:=qdl fn.results.toList) (ro:=ro) e2 k2 k3 (fun x hx => ⟨(k4 x hx).1,fun u v' => e3 x.1 u v' (k4 x hx).2⟩) k5
    simpa using hf
  have key2:qA2 P fn.results.toList r ro st →
      a.defers = []∧∃ v,(results fn a.tmps).run P w' = .ok v w'∧∃ v' Γ' ow',Ending.returned v = .returned v'∧SR P ⟨GE,Γ,w,qbb [] ow⟩ Γ' [] ow' w' #[v'] ⟨[r],[],ro.map fun x => ((0,x.1),x.2)⟩:=by
    intro hc
    obtain ⟨v,ow',e1,e2⟩:=hS.finishCell hc
    exact ⟨hd,v,e1,v,Γ1,ow',rfl,e2⟩
  rcases hQ with hQ | ⟨he,hQ⟩
  · cases e with
    | normal => exact key hQ
    | ret => exact key hQ
    | exit id => exact hQ.elim
    | goto l => exact hQ.elim
    | panic c => exact hQ.elim
    | outgrown => exact hQ.elim
  · rcases he with rfl | rfl
    · exact key2 hQ
    · exact key2 hQ
theorem qxz {rs:List ResultVar} {r:PVal} {ro:List (Nat×TypeId)} {st:PSt} (hc:qsY rs ro st = true) (hp:retV P st rs = some r) (hcl:r.cl 0):retV P st rs = some r∧r.cl 0∧qbQ 0 st.boxes []∧(∀ x ∈ ro,(qdl rs x.1,x.2) ∈ st.own∧qll st rs x.1) ∧
      (∀ x ∈ ro,∀ y ∈ ro,qdl rs x.1 = qdl rs y.1→x.1 = y.1):=by
  unfold qsY at hc
  rw [Bool.and_eq_true] at hc
  obtain ⟨c1,c2⟩:=hc
  refine ⟨hp,hcl,by unfold qbQ; cases st.boxes <;> trivial,fun x hx => ?_,fun x hx y hy hxy => ?_⟩
  · have:=List.all_eq_true.1 c1 x hx
    rw [Bool.and_eq_true] at this
    refine ⟨by simpa using this.1,?_⟩
    have h2:=this.2
    clear hp this c1 c2
    rcases rs with _ | ⟨y,_ | ⟨z,rs⟩⟩
    · simp at h2
    · cases y with
      | tmp t => trivial
      | cell t ty => cases h2
    · have key:∀ o:Option ResultVar,(match o with
        | some (.tmp t) => (st.tmps.getD t .undef).isSlice
        | _ => false) = true→(match o with
        | some (.tmp t) => (st.tmps.getD t .undef).isSlice = true
        | _ => False):=by
        intro o
        cases o with
        | none => intro h; cases h
        | some q => cases q <;> intro h <;> first | exact h | cases h
      cases y with
      | tmp t => exact key _ h2
      | cell t ty => exact key _ h2
  · have:=List.all_eq_true.1 (List.all_eq_true.1 c2 x hx) y hy
    simpa [hxy] using this
theorem FRs.to {rs:List ResultVar} {r:PVal} {ro:List (Nat×TypeId)} {st:PSt} {e:Exit} (he:e = .normal∨e = .ret) (h:FRs P rs r ro st):qHd P rs r ro e st:=by
  unfold FRs at h
  split at h
  · rename_i hc
    split at h
    · rename_i p hp
      obtain ⟨rfl,hcl⟩:=h
      have:=qxz hc hp hcl
      rcases he with rfl | rfl <;> exact .inl this
    · exact h.elim
  · split at h
    · rename_i hc
      split at h
      · rename_i p hp
        obtain ⟨rfl,hcl,hagg⟩:=h
        refine .inr ⟨he,?_⟩
        unfold qFr at hc
        split at hc
        · rename_i t ty _
          split at hc
          · rename_i fs hfs
            split at hc
            · rename_i i off ht
              split at hc
              · rename_i cs own hB
                rw [Bool.and_eq_true] at hc
                obtain ⟨c1,c2⟩:=hc
                have hpl:qbg P ty (cs.drop off) = some p:=by
                  have hp':qkH P ty (st.tmps.getD t .undef) st.boxes = some p:=hp
                  rw [ht] at hp'
                  simpa only [qkH,hB] using hp'
                cases p <;> simp only [PVal.isAgg] at hagg <;> first | (cases hagg; done) | skip
                rename_i l
                have hlen:l.length = P.cellsOf ty:=by
                  have hq:=hpl
                  unfold qbg at hq
                  rw [hfs] at hq
                  simp only at hq
                  split at hq
                  · rename_i hh; cases hq; rw [List.length_take]; omega
                  · cases hq
                refine ⟨t,ty,i,off,cs,own,l,rfl,⟨fs,hfs⟩,ht,hB,rfl,hpl,hcl,fun x hx => ?_,qi0 c2⟩
                have:=List.all_eq_true.1 c1 x hx
                simp only [Bool.and_eq_true,decide_eq_true_eq] at this
                exact ⟨this.1,by rw [hlen]; exact this.2⟩
              · cases hc
            · cases hc
          · cases hc
        · cases hc
      · exact h.elim
    · exact h.elim
theorem FR.to {rs:List ResultVar} {r:PVal} {ro:List (Nat×TypeId)} {e:Exit} {sc:List It} {st:PSt} (h:FR P rs r ro e sc st):qHd P rs r ro e st:=by
  unfold FR at h
  split at h
  · exact h.to (.inl rfl)
  · exact h.to (.inr rfl)
  · exact h.elim
theorem C.ev (hf:P.follows .mixedOrders = true) {f:FuncId} {fn:Func} {c:Code} {args:List PVal} {r:PVal} {ro:List (Nat×TypeId)}
    (hcall:∀ vs w,(callFunc f vs).run P w = .ok (.enter f vs) w) (hfn:P.funcs[f]? = some fn) (hb:fn.body = some c) (hcl:clL 0 args) (sc:List It)
    (h:evC P GE A 0 c sc ⟨args ++ List.replicate (fn.ntmps - args.length) .undef,[],[]⟩ (FR P fn.results.toList r ro)):CC P GE f args r ro :=
  ⟨hcl,C.ofSat hcall hfn hb ((qev hf c sc _ _ h).imp fun e st hx => by obtain ⟨sc',hx⟩:=hx; exact hx.to)⟩
end
abbrev Str:=List UInt8
abbrev w64 (n:Int):Int:=IntKind.i64.wrap n
def cS (s:Str):List PVal:=[.str s]
def cI (k:IntKind) (n:Int):List PVal:=[.int k n]
def sl {α:Type} (c:α→List PVal) (l:List α):PVal := .slice (l.map c)
def cL {α:Type} (c:α→List PVal) (l:List α):List PVal:=[sl c l]
def bd:Option Int→Nat→Option Nat
 | none,d => some d
 | some i,_ => if 0 ≤ i then some i.toNat else none
def slc {α:Type} (l:List α) (lo hi:Option Int):Option (List α) :=
 match bd lo 0,bd hi l.length with
 | some a,some b => if a ≤ b∧b ≤ l.length then some ((l.take b).drop a) else none
 | _,_ => none
def app {α:Type} (l r:List α):Option (List α):=if l.length + r.length ≤ qdH then some (l ++ r) else none
def cat (a b:Str):Option Str:=if a.length + b.length ≤ qEU then some (a ++ b) else none
def qu (k:IntKind) (a b:Int):Option Int:=if b = 0 then none else some (k.wrap (a.tdiv b))
def re (a b:Int):Option Int:=if b = 0 then none else some (a.tmod b)
def mget {α:Type} (m:List (Str×α)) (k:Str):Option α:=(m.find? fun e => k == e.1).map (·.2)
def mput {α:Type} (m:List (Str×α)) (k:Str) (v:α):List (Str×α) :=
 match m with
 | [] => [(k,v)]
 | e :: r => if k == e.1 then (k,v) :: r else e :: mput r k v
def encM {α:Type} (f:α→PVal) (m:List (Str×α)):List (PVal×PVal):=m.map fun e => (.str e.1,f e.2)
def qzc:TypeDesc→Bool
 | .struct _ => false
 | .array _ _ => false
 | _ => true
theorem qaR {P:Program} {t:TypeId} (h:(P.underlying t).any qzc = true) (p:PVal) (r:List PVal):qbg P t (p :: r) = some p:=by
 unfold qbg
 split
 ·rename_i hu; rw [hu] at h; cases h
 ·rename_i hu; rw [hu] at h; cases h
 ·rfl
 ·rename_i hu; rw [hu] at h; cases h
structure SlT {α:Type} (P:Program) (T e:TypeId) (c:α→List PVal):Prop where
 hu:P.underlying T = some (.slice e)
 hc:∀ x,(c x).length = P.cellsOf e
 hi:(P.info? e).isSome = true
 hp:0 < P.cellsOf e
 hz:(qh0 P e).map (·.length) = some (P.cellsOf e)
 hb:P.bytesOf e ≤ 65536
 ho:∀ x,∀ q ∈ c x,q.one = true
 cl:∀ x,clL 0 (c x)
theorem qad {α:Type} {c:α→List PVal} (h:∀ x,clL 0 (c x)) (l:List α):(sl c l).cl 0:=by
 unfold sl
 simp only [PVal.cl]
 exact qBo fun p hp => by obtain ⟨x,_,rfl⟩:=List.mem_map.1 hp; exact h x
theorem clS (s:Str):clL 0 (cS s):=⟨trivial,trivial⟩
theorem clI (k:IntKind) (n:Int):clL 0 (cI k n):=⟨trivial,trivial⟩
theorem clLs {α:Type} {c:α→List PVal} (h:∀ x,clL 0 (c x)) (l:List α):clL 0 (cL c l):=⟨qad h l,trivial⟩
theorem qCf {α:Type} {l:List α} {i:Int} {x:α} (h:idx l i = some x):0 ≤ i∧l[i.toNat]? = some x:=by
 unfold idx at h
 split at h
 ·exact ⟨‹_›,h⟩
 ·cases h
theorem aI {a b:Prop} (h:a) (h':b):a∧b:=⟨h,h'⟩
theorem rP (p:PVal):p = p:=rfl
theorem lf {β:Type} {a r:β} (h:some a = some r):a = r:=Option.some.inj h
abbrev u:PVal := .undef
theorem pcS (x:Str):qaJ (.str x) = some (cS x):=rfl
theorem pcI (k:IntKind) (x:Int):qaJ (.int k x) = some (cI k x):=rfl
theorem pcL {α:Type} (c:α→List PVal) (x:List α):qaJ (sl c x) = some (cL c x):=rfl
theorem pcA (l:List PVal):qaJ (.agg l) = some l:=rfl
theorem oneS (x:Str):∀ q ∈ cS x,q.one = true:=by intro q hq; simp [cS] at hq; subst hq; rfl
theorem oneI (k:IntKind) (x:Int):∀ q ∈ cI k x,q.one = true:=by intro q hq; simp [cI] at hq; subst hq; rfl
def qeA:Code→List Bool→Code
 | c,[] => c
 | .seq a b,x :: l => match x with | false => qeA a l | true => qeA b l
 | .cond _ a b,x :: l => match x with | false => qeA a l | true => qeA b l
 | .block _ c,_ :: l => qeA c l
 | .loop c,_ :: l => qeA c l
 | c,_ => c
section
variable {P:Program} {T e:TypeId} {α:Type} {c:α→List PVal}
theorem SlT.ia (s:SlT P T e c) {l:List α} {i:Int} {k:IntKind} {x:α} (h:idx l i = some x):qeJ P T (sl c l) (.int k i) = some (.eptr (c x)):=by
 obtain ⟨h0,h1⟩:=qCf h
 unfold sl qeJ
 simp only [s.hu,if_pos h0,List.getElem?_map,h1,Option.map_some]
 rw [if_pos ⟨s.hc x,s.hi⟩]
theorem SlT.ln (s:SlT P T e c) (l:List α):∀ H,plen P T (sl c l) H = some (.int .i64 (l.length:Int)):=fun H => by
 unfold sl plen; simp only [s.hu,List.length_map]
theorem qFh {o:Option Int} {d n:Nat} {k:IntKind} (h:bd o d = some n):pnat (o.map (PVal.int k)) d = some n:=by
 cases o with
 | none => exact h
 | some i => exact h
theorem SlT.sc (s:SlT P T e c) {l r:List α} {lo hi:Option Int} (h:slc l lo hi = some r):qtN P T (sl c l) (lo.map (PVal.int .i64)) (hi.map (PVal.int .i64)) none = some (sl c r):=by
 unfold slc at h
 split at h
 ·rename_i a b h1 h2
  split at h
  ·rename_i hb
   cases h
   unfold sl qtN
   simp only [s.hu,qFh h1]
   rw [show (l.map c).length = l.length by simp,qFh h2]
   simp only
   have hx:∀ x ∈ (l.map c).take 1,x.length = P.cellsOf e:=fun x hx => by
    obtain ⟨y,_,rfl⟩:=List.mem_map.1 (List.mem_of_mem_take hx)
    exact s.hc y
   rw [if_pos ⟨hb.1,hb.2,s.hi,hx⟩,List.map_drop,List.map_take]
  ·cases h
 ·cases h
theorem SlT.ap (s:SlT P T e c) {l r z:List α} (h:app l r = some z):qhU P T (l.map c) (r.map c) = some (sl c z):=by
 unfold app at h
 split at h
 ·cases h
  unfold qhU sl
  simp only [s.hu,List.length_map]
  have h1:∀ x ∈ l.map c,x.length = P.cellsOf e:=fun x hx => by obtain ⟨y,_,rfl⟩:=List.mem_map.1 hx; exact s.hc y
  have h2:∀ x ∈ r.map c,x.length = P.cellsOf e∧∀ q ∈ x,q.one = true:=fun x hx => by obtain ⟨y,_,rfl⟩:=List.mem_map.1 hx; exact ⟨s.hc y,s.ho y⟩
  rw [if_pos ⟨‹_›,s.hb,s.hp,s.hz,h1,h2⟩,List.map_append]
 ·cases h
theorem qzT {v:α→PVal} {sz:Nat} (hv:∀ x,qaJ (v x) = some (c x)) (hc:∀ x,(c x).length = sz):∀ (l:List α) (i:Nat),quc sz i ((l.map v).zipIdx i |>.map fun x => (x.2,x.1)) = some (l.map c)
 | [],i => by simp [quc]
 | x :: l,i => by
  have ih:=qzT hv hc l (i + 1)
  simp only [List.map_cons,List.zipIdx_cons,quc,hv x]
  simp [ih,hc x]
theorem SlT.mk' (s:SlT P T e c) {v:α→PVal} (hv:∀ x,qaJ (v x) = some (c x)) (l:List α) (n:Nat) (hn:(decide (l.length = n) && decide (n * P.cellsOf e ≤ 16777216)) = true) :
  qdp P T n ((l.map v).zipIdx 0 |>.map fun x => (x.2,x.1)) = some (sl c l):=by
 simp only [Bool.and_eq_true,decide_eq_true_eq] at hn
 unfold qdp sl
 simp only [s.hu,qzT hv s.hc]
 have hz:(qh0 P e).isSome = true:=by
  cases h:qh0 P e with
  | none => have:=s.hz; rw [h] at this; cases this
  | some z => rfl
 rw [if_pos ⟨by simpa using hn.1,hz,s.hp,hn.2,s.hz⟩]
theorem qxj {t:TypeId} {a b z:Str} (h:cat a b = some z):pbin P .add t (.str a) (.str b) = some (.str z):=by
 unfold cat at h
 unfold pbin pstr
 split at h
 ·cases h; simp only; rw [if_pos ‹_›]
 ·cases h
theorem qIW {t:TypeId} {k:IntKind} {a b z:Int} (h:qu k a b = some z):pbin P .quo t (.int k a) (.int k b) = some (.int k z):=by
 unfold qu at h
 split at h
 ·cases h
 ·rename_i hb; cases h; simp only [pbin,pint,if_true,if_neg hb]
theorem qIS {t:TypeId} {k:IntKind} {a b z:Int} (h:re a b = some z):pbin P .rem t (.int k a) (.int k b) = some (.int k z):=by
 unfold re at h
 split at h
 ·cases h
 ·rename_i hb; cases h; simp only [pbin,pint,if_true,if_neg hb]
theorem cvI {s d:TypeId} {k k':IntKind} (h1:P.underlying s = some (.int k)) (h2:P.underlying d = some (.int k')) (n:Int):qy5 P s d (.int k n) = some (.int k' (k'.wrap n)):=by simp only [qy5,h1,h2]
def qmN:List Int→Option Str
 | [] => some []
 | n :: r => if 0 ≤ n∧n < 256 then (qmN r).map (UInt8.ofNat n.toNat :: ·) else none
theorem qxA:∀ (l:List Int),qrq (l.map (cI .u8)) = qmN l
 | [] => rfl
 | n :: r => by simp only [List.map_cons,cI,qrq,qmN]; rw [← qxA r]
theorem cvB {s d e:TypeId} (h1:P.underlying s = some (.slice e)) (h2:P.underlying d = some .string) (h3:P.underlying e = some (.int .u8)) {l:List Int} {r:Str} (h:qmN l = some r):qy5 P s d (sl (cI .u8) l) = some (.str r):=by
 unfold sl qy5
 simp only [h1,h2,h3,qxA,h,Option.map_some]
theorem qsM {f:α→PVal} (k:Str):∀ (m:List (Str×α)) (i:Nat),qu4 (.str k) (encM f m) i = some (match mget m k with
  | none => none
  | some v => some (i + (m.findIdx fun e => k == e.1),f v))
 | [],i => by simp [encM,qu4,mget]
 | e :: m,i => by
  have ih:=qsM (f:=f) k m (i + 1)
  unfold encM at ih ⊢
  simp only [List.map_cons,qu4,qBN]
  unfold mget at ih ⊢
  by_cases h:(k == e.1) = true
  ·simp [h,List.findIdx_cons]
  ·have h':(k == e.1) = false:=by simpa using h
   simp only [h',List.find?_cons,ih,List.findIdx_cons]
   cases hm:(List.find? (fun e => k == e.1) m) with
   | none => simp
   | some v => simp; omega
theorem qG1 {t kt et:TypeId} {f:α→PVal} (h1:P.underlying t = some (.map kt et)) (h2:P.underlying kt = some .string) {z:α} (hz:qxE P et = some (f z)) (m:List (Str×α)) (k:Str) :
  qz3 P t (encM f m) (.str k) false = some (f ((mget m k).getD z)):=by
 unfold qz3
 simp only [h1,h2,qjy,if_true,qsM]
 cases mget m k with
 | none => simp [hz]
 | some v => simp
theorem qDL (f:α→PVal) (k:Str) (v:α):∀ (m:List (Str×α)),encM f (mput m k v) = match mget m k with
  | none => encM f m ++ [(.str k,f v)]
  | some _ => (encM f m).set (m.findIdx fun e => k == e.1) (.str k,f v)
 | [] => by simp [mput,mget,encM]
 | e :: m => by
  have ih:=qDL f k v m
  unfold mget at ih ⊢
  unfold encM at ih ⊢
  by_cases h:(k == e.1) = true
  ·simp [mput,h,List.findIdx_cons]
  ·have h':(k == e.1) = false:=by simpa using h
   simp only [mput,h',List.find?_cons,List.findIdx_cons,List.map_cons]
   simp only [Bool.false_eq_true,if_false,List.map_cons,ih]
   cases (List.find? (fun e => k == e.1) m) with
   | none => simp
   | some v => simp
theorem qIu {t kt et:TypeId} {f:α→PVal} (h1:P.underlying t = some (.map kt et)) (h2:P.underlying kt = some .string) (m:List (Str×α)) (k:Str) (v:α) :
  qCR P t (encM f m) (.str k) (f v) = some (encM f (mput m k v)):=by
 unfold qCR
 simp only [h1,h2,qjy,if_true,qsM,qDL]
 cases mget m k with
 | none => simp
 | some w => simp
end
end Go.Proofs.YtgldgpdhblndkaaGreatDoor
