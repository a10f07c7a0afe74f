/- WHAT IS PROVED: parts of the proof, put together by a program (AbsP2). Conditions: none. -/
import Derived.Test.YtgldgpdhblndkaaGreatDoorPkE7
noncomputable section
namespace Go.Proofs.YtgldgpdhblndkaaGreatDoor
open Go
structure OA where
 i:Nat
 t:Nat
 k:Nat
 e:TypeId
def qc3 (ρ:List Nat) (oa:List OA) (Γ:qaP) (ow:Nat→Option Loc):Nat→Option Loc:=fun b =>
 match ow b with
 | some (.box j k) => if (Γ b).isSome∧j ∈ ρ then some (.box (ρ.idxOf j) k) else none
 | some (.tmp t k) => match oa.find? fun y => y.t == t && y.k == k with
  | some x => if (Γ b).isSome then some (.tmp x.i k) else none
  | none => none
 | _ => none
def qlH (ρ:List Nat) (oa:List OA) (d:Nat) (owC ow:Nat→Option Loc):Nat→Option Loc:=fun b =>
 match owC b with
 | some (.box i k) => some (.box (ρ.getD i 0) k)
 | some (.tmp _ k) => some (.tmp d k)
 | none => match ow b with
  | some (.box j k) => if j ∈ ρ then none else some (.box j k)
  | some (.tmp t k) => if (oa.any fun x => x.t == t && x.k == k) = true then none else some (.tmp t k)
  | none => none
section
variable {P:Program} {E:Ent} {Γ:qaP} {bs:qbj} {ow:Nat→Option Loc} {w:World} {a:Array Value} {st:PSt} {ρ:List Nat}
theorem qFX (h:SR P E Γ bs ow w a st) {g:FuncId} {args argsC:List PVal} {r rc:PVal} {ro:List (Nat×TypeId)} {Hc Hc' H':List PBox} {vs:Array Value} {d:Nat} {oa:List OA} (hd:d < a.size)
  (hn:ρ.Nodup) (hC:C P E.GE g argsC (oa.map fun x => ((x.i,x.k),x.e)) Hc rc ro Hc') (ho1:∀ x ∈ oa,(vs[x.i]? = some (.slice none 0 0)∧x.k = 0)∨(((x.t,x.k),x.e) ∈ st.own∧vs[x.i]? = a[x.t]?)) (ho3:∀ x ∈ oa,∀ y ∈ oa,x.t = y.t→x.k = y.k→x.i = y.i) (hH:Handed ρ st.boxes Hc) (hH':Handed ρ H' Hc') (hlen:H'.length = st.boxes.length) (hsame:∀ j:Nat,j ∉ ρ→H'[j]? = st.boxes[j]?)
  (hr:Rix ρ r rc) (hal:args.length = argsC.length) (ha:∀ (i:Nat) p q,args[i]? = some p→argsC[i]? = some q→Rix ρ p q)
  (hl:vs.size = args.length) (hv:∀ (i:Nat) p v,args[i]? = some p→vs[i]? = some v→VR Γ bs w p v) :
  Calls P g vs w fun e w' => ∃ v Γ' ow',e = .returned v∧SR P E Γ' bs ow' w' (a.setIfInBounds d v) { st with tmps:=st.tmps.set d r,boxes:=H',own:=(ro.map fun x => ((d,x.1),x.2)) ++ qbB d (st.own.filter fun z => !oa.any fun x => z.1 == (x.t,x.k)) }∧Γ.Le w Γ' w':=by
 let bsC:qbj:=ρ.map fun j => (bs[j]?).getD none
 have hjlt:∀ {i j:Nat},ρ[i]? = some j→j < st.boxes.length:=fun {i j} hij => by
  obtain ⟨B,_,hB,_⟩:=hH.box i j hij; exact qae hB
 have hbb:∀ (i j:Nat),ρ[i]? = some j→bsC[i]? = bs[j]?:=by
  intro i j hij
  have hj:j < bs.length:=by rw [h.bl]; exact hjlt hij
  simp [bsC,hij,List.getElem?_eq_getElem hj]
 have hbc:∀ {i b:Nat},bsC[i]? = some (some b)→∃ j,ρ[i]? = some j∧bs[j]? = some (some b):=by
  intro i b hib
  have hi:i < ρ.length:=by have:=qae hib; simpa [bsC] using this
  have hij:ρ[i]? = some ρ[i]:=List.getElem?_eq_getElem hi
  exact ⟨_,hij,(hbb i _ hij).symm.trans hib⟩
 have hcow:∀ {b L},qc3 ρ oa Γ ow b = some L→(Γ b).isSome∧((∃ j k,ow b = some (.box j k)∧j ∈ ρ∧L = .box (ρ.idxOf j) k)∨(∃ x ∈ oa,ow b = some (.tmp x.t x.k)∧L = .tmp x.i x.k)):=by
  intro b L hL
  unfold qc3 at hL
  split at hL
  ·rename_i j k hb
   split at hL
   ·rename_i hc; cases hL; exact ⟨hc.1,.inl ⟨j,k,hb,hc.2,rfl⟩⟩
   ·cases hL
  ·rename_i t k hb
   split at hL
   ·rename_i x hx
    split at hL
    ·rename_i hc
     cases hL
     have h1:=List.mem_of_find?_eq_some hx
     have h2:=List.find?_some hx
     simp only [Bool.and_eq_true,beq_iff_eq] at h2
     exact ⟨hc,.inr ⟨x,h1,by rw [hb,h2.1,h2.2],by rw [h2.2]⟩⟩
    ·cases hL
   ·cases hL
  ·cases hL
 have hpre:SR P ⟨E.GE,Γ,w,qbb bsC (qc3 ρ oa Γ ow)⟩ Γ bsC (qc3 ρ oa Γ ow) w vs ⟨argsC,Hc,oa.map fun x => ((x.i,x.k),x.e)⟩:={
  wi:=h.wi
  sz:=by simpa [hal] using hl
  tm:=fun t q v hq hv' => by
   have ht:=qae hq
   have hp:=List.getElem?_eq_getElem (l:=args) (i:=t) (by rw [hal]; exact ht)
   exact (ha t _ q hp hq).to hbb (hv t _ v hp hv')
  bl:=by simp [bsC,hH.len]
  bx:=fun i b Bc hib hBc => by
   obtain ⟨j,hij,hjb⟩:=hbc hib
   obtain ⟨B,Bc',hB,hBc',hx⟩:=hH.box i j hij
   rw [hBc] at hBc'; cases hBc'
   obtain ⟨k1,k2,k3⟩:=h.bx j b B hjb hB
   exact ⟨k1,k2,hx.to hbb k3⟩
  inj:=fun i j b hi hj => by
   obtain ⟨x,hx,hxb⟩:=hbc hi
   obtain ⟨y,hy,hyb⟩:=hbc hj
   have:=h.inj x y b hxb hyb
   subst this
   rw [← qlP hn hx,qlP hn hy]
  bn:=fun i b hb => .inl (.inl ⟨i,hb⟩)
  on:=fun b L hL => by
   refine ⟨?_,.inl (.inr (by rw [hL]; simp))⟩
   rcases (hcow hL).2 with ⟨j,k,hb,_⟩ | ⟨x,_,hb,_⟩ <;> exact (h.on b _ hb).1
  ot:=fun t k e he => by
   simp only [List.mem_map,Prod.mk.injEq] at he
   obtain ⟨x,hx,⟨rfl,rfl⟩,rfl⟩:=he
   rcases ho1 x hx with ⟨hn1,hn2⟩ | ⟨ht1,ht2⟩
   ·exact ⟨_,.slice none 0 0,hn1,by rw [hn2]; rfl,⟨0,[],World.ownsRow_nil _ _ _ _,fun b hb => by simp [Value.ownBlock] at hb⟩,fun b hb => by simp [Value.ownBlock] at hb⟩
   obtain ⟨u,v',h1,h2,h3,h4⟩:=h.ot _ _ _ ht1
   refine ⟨u,v',ht2.trans h1,h2,h3,fun b hb => ?_⟩
   have hg:(Γ b).isSome:=by obtain ⟨n,xs,_,o2⟩:=h3; rw [o2 b hb]; rfl
   unfold qc3
   rw [h4 b hb]
   simp only
   cases hf:oa.find? fun y => y.t == x.t && y.k == x.k with
   | none =>
    have:=List.find?_eq_none.1 hf x hx
    simp at this
   | some y =>
    have q1:=List.mem_of_find?_eq_some hf
    have q2:=List.find?_some hf
    simp only [Bool.and_eq_true,beq_iff_eq] at q2
    simp only [if_pos hg,ho3 y q1 x hx q2.1 q2.2]
  ob:=fun i k e cs own b hB hk hb => by
   obtain ⟨j,hij,hjb⟩:=hbc hb
   obtain ⟨B,Bc',hB',hBc',hx⟩:=hH.box i j hij
   rw [hB] at hBc'; cases hBc'
   cases B with
   | cells cs' own' =>
    obtain ⟨rfl,_,_⟩:=hx
    obtain ⟨v,k1,k2,k3⟩:=h.ob j k e cs' own' b hB' hk hjb
    refine ⟨v,k1,k2,fun b' hb' => ?_⟩
    have hg:(Γ b').isSome:=by obtain ⟨n,xs,_,o2⟩:=k2; rw [o2 b' hb']; rfl
    simp only [qc3,k3 b' hb']
    rw [if_pos ⟨hg,List.mem_of_getElem? hij⟩,qlP hn hij]
   | map es => simp [qh4] at hx
   | dead => simp [qh4] at hx
  gl:=fun g cs hg => (h.gl g cs hg).restrict (n:=0) (by simp only [PVal.cl]; exact h.gc g cs hg) (fun i b hi _ => absurd hi (Nat.not_lt_zero _))
  gc:=h.gc
  gx:=fun g cs hg => by
   obtain ⟨k1,k2,k3,k4⟩:=h.gnow hg
   refine ⟨k1,fun hT => ?_,k4⟩
   rcases hT with ⟨i,hi⟩ | hT
   ·obtain ⟨j,_,hjb⟩:=hbc hi
    exact k2 j g hjb rfl
   ·cases hL:qc3 ρ oa Γ ow g with
    | none => exact hT hL
    | some L =>
     rcases (hcow hL).2 with ⟨j,k,hk',_⟩ | ⟨x,_,hk',_⟩ <;> (rw [k3] at hk'; cases hk')
  step := .refl _ _ _ _ }
 refine (hC.2 Γ bsC _ w vs hpre).mono fun e w' he => ?_
 obtain ⟨v,Γ',owC,rfl,hS⟩:=he
 have hle:Γ.Le w Γ' w':=hS.step.le
 have hTE:∀ b,qbb bsC (qc3 ρ oa Γ ow) b→E.T b∨E.w.heap.size ≤ b:=by
  intro b hb
  rcases hb with ⟨i,hi⟩ | hb
  ·obtain ⟨j,_,hjb⟩:=hbc hi
   exact h.bn j b hjb
  ·cases hL:qc3 ρ oa Γ ow b with
   | none => exact absurd hL hb
   | some L =>
    rcases (hcow hL).2 with ⟨j,k,hk,_⟩ | ⟨x,_,hk,_⟩ <;> exact (h.on b _ hk).2
 have hkeep:∀ b,b < w.heap.size→¬ qbb bsC (qc3 ρ oa Γ ow) b→w'.heap[b]? = w.heap[b]?∧Γ' b = Γ b:=fun b hb hT => hS.step.keep b hb hT
 have hnotT_own:∀ {b L},ow b = some L→(Γ b).isSome→(∀ j k,L = .box j k→j ∉ ρ)→(∀ x ∈ oa,L ≠ .tmp x.t x.k)→¬ qbb bsC (qc3 ρ oa Γ ow) b:=by
  intro b L hL hg hne hne2 hT
  rcases hT with ⟨i,hi⟩ | hT
  ·obtain ⟨j,hij,hjb⟩:=hbc hi
   obtain ⟨B,_,hB,_⟩:=hH.box i j hij
   rw [(h.bx j b B hjb hB).1] at hg; cases hg
  ·cases hL':qc3 ρ oa Γ ow b with
   | none => exact hT hL'
   | some L' =>
    rcases (hcow hL').2 with ⟨j,k,hk,hj,_⟩ | ⟨x,hx,hk,_⟩
    ·rw [hL] at hk; cases hk
     exact hne j k rfl hj
    ·rw [hL] at hk; cases hk
     exact hne2 x hx rfl
 have hnotT_box:∀ {j b:Nat},bs[j]? = some (some b)→j ∉ ρ→¬ qbb bsC (qc3 ρ oa Γ ow) b:=by
  intro j b hjb hj hT
  rcases hT with ⟨i,hi⟩ | hT
  ·obtain ⟨j',hij,hjb'⟩:=hbc hi
   have:=h.inj _ _ _ hjb hjb'
   subst this
   exact hj (List.mem_of_getElem? hij)
  ·cases hL':qc3 ρ oa Γ ow b with
   | none => exact hT hL'
   | some L' =>
    have hg:=(hcow hL').1
    have hjl:j < st.boxes.length:=by rw [← h.bl]; exact qae hjb
    rw [(h.bx j b _ hjb (List.getElem?_eq_getElem hjl)).1] at hg; cases hg
 have hold:∀ {b L},ow b = some L→(Γ b).isSome→(∀ j k,L = .box j k→j ∉ ρ)→(∀ x ∈ oa,L ≠ .tmp x.t x.k)→qlH ρ oa d owC ow b = some L:=by
  intro b L hL hg hne hne2
  have hT:=hnotT_own hL hg hne hne2
  have hnone:owC b = none:=by
   cases hx:owC b with
   | none => rfl
   | some L' =>
    obtain ⟨_,k2⟩:=hS.on b L' hx
    rcases k2 with k2 | k2
    ·exact absurd k2 hT
    ·have:=(h.on b L hL).1
     exact absurd k2 (Nat.not_le.2 this)
  unfold qlH
  rw [hnone]
  simp only [hL]
  cases L with
  | tmp t k =>
   simp only
   rw [if_neg]
   intro hx
   obtain ⟨x,hx1,hx2⟩:=List.any_eq_true.1 hx
   simp only [Bool.and_eq_true,beq_iff_eq] at hx2
   exact hne2 x hx1 (by rw [hx2.1,hx2.2])
  | box j k => simp only; rw [if_neg (hne j k rfl)]
 have howned:∀ {v:Value} {e:TypeId} {b:Nat},qhY P Γ w v e→v.ownBlock = some b→(Γ b).isSome:=by
  intro v e b ho hb
  obtain ⟨n,xs,_,o2⟩:=ho
  rw [o2 b hb]; rfl
 have hrv:VR Γ' bs w' r v:=hr.from hbb (hS.tm 0 rc v rfl rfl)
 refine ⟨v,Γ',qlH ρ oa d owC ow,rfl,?_,hle⟩
 exact {
  wi:=hS.wi
  sz:=by simp [h.sz]
  tm:=fun t q u hq hu => by
   simp only [List.getElem?_set] at hq
   rw [Array.getElem?_setIfInBounds] at hu
   by_cases hdt:d = t
   ·subst hdt
    simp only [if_true] at hq hu
    split at hu
    ·split at hq
     ·cases hu; cases hq; exact hrv
     ·cases hq
    ·rename_i hnd; exact absurd hd hnd
   ·simp only [hdt,if_false] at hq hu
    exact (h.tm t q u hq hu).mono hle (.refl _)
  bl:=by simp [h.bl,hlen]
  bx:=fun j b B hjb hB => by
   by_cases hj:j ∈ ρ
   ·obtain ⟨i,hij⟩:=List.mem_iff_getElem?.1 hj
    obtain ⟨B',Bc,hB',hBc,hx⟩:=hH'.box i j hij
    rw [hB] at hB'; cases hB'
    obtain ⟨k1,k2,k3⟩:=hS.bx i b Bc ((hbb i j hij).trans hjb) hBc
    exact ⟨k1,k2,hx.from hbb k3⟩
   ·have hB0:st.boxes[j]? = some B:=(hsame j hj).symm.trans hB
    obtain ⟨k1,k2,k3⟩:=h.bx j b B hjb hB0
    obtain ⟨q1,q2⟩:=hkeep b k2 (hnotT_box hjb hj)
    exact ⟨q2.trans k1,Nat.lt_of_lt_of_le k2 hS.step.size,k3.mono hle (.refl _) q1⟩
  inj:=h.inj
  bn:=h.bn
  on:=fun b L hL => by
   unfold qlH at hL
   split at hL
   ·rename_i i k hb
    obtain ⟨k1,k2⟩:=hS.on b _ hb
    exact ⟨k1,k2.elim (hTE b) (fun hx => .inr (Nat.le_trans h.step.size hx))⟩
   ·rename_i t k hb
    obtain ⟨k1,k2⟩:=hS.on b _ hb
    exact ⟨k1,k2.elim (hTE b) (fun hx => .inr (Nat.le_trans h.step.size hx))⟩
   ·have hsz:=hS.step.size
    cases hb:ow b with
    | none => rw [hb] at hL; cases hL
    | some L' => exact ⟨Nat.lt_of_lt_of_le (h.on b _ hb).1 hsz,(h.on b _ hb).2⟩
  ot:=fun t k e he => by
   rcases List.mem_append.1 he with he | he
   ·simp only [List.mem_map,Prod.mk.injEq] at he
    obtain ⟨⟨k',e'⟩,hm,⟨rfl,rfl⟩,rfl⟩:=he
    obtain ⟨u,v',h1,h2,h3,h4⟩:=hS.ot 0 k' e' (List.mem_map.2 ⟨(k',e'),hm,rfl⟩)
    simp at h1; subst h1
    refine ⟨v,v',by simp [hd],h2,h3,fun b hb => ?_⟩
    simp only [qlH,h4 b hb]
   ·obtain ⟨he,htd⟩:=qcG he
    obtain ⟨he,hne0⟩:=qa7 he
    have hne2:∀ x ∈ oa,Loc.tmp t k ≠ .tmp x.t x.k:=fun x hx e => by
     cases e
     simp only [Bool.not_eq_true',List.any_eq_false,beq_iff_eq] at hne0
     exact hne0 x hx rfl
    obtain ⟨u,v',h1,h2,h3,h4⟩:=h.ot t k e he
    have hq:∀ b,v'.ownBlock = some b→¬ qbb bsC (qc3 ρ oa Γ ow) b:=fun b hb => hnotT_own (h4 b hb) (howned h3 hb) (fun j k hx => by cases hx) hne2
    exact ⟨u,v',by rw [Array.getElem?_setIfInBounds_ne (fun e => htd e.symm)]; exact h1,h2,h3.same fun b hb => hkeep b (h3.lt hb) (hq b hb),fun b hb => hold (h4 b hb) (howned h3 hb) (fun j k hx => by cases hx) hne2⟩
  ob:=fun j k e cs own b hB hk hjb => by
   by_cases hj:j ∈ ρ
   ·obtain ⟨i,hij⟩:=List.mem_iff_getElem?.1 hj
    obtain ⟨B',Bc,hB',hBc,hx⟩:=hH'.box i j hij
    rw [hB] at hB'; cases hB'
    cases Bc with
    | cells cs' own' =>
     obtain ⟨rfl,_,_⟩:=hx
     obtain ⟨v',k1,k2,k3⟩:=hS.ob i k e cs' own b hBc hk ((hbb i j hij).trans hjb)
     refine ⟨v',k1,k2,fun b' hb' => ?_⟩
     have hgd:ρ.getD i 0 = j:=by rw [List.getD_eq_getElem?_getD,hij]; rfl
     simp only [qlH,k3 b' hb',hgd]
    | map es => simp [qh4] at hx
    | dead => simp [qh4] at hx
   ·have hB0:st.boxes[j]? = some (.cells cs own):=(hsame j hj).symm.trans hB
    obtain ⟨v',k1,k2,k3⟩:=h.ob j k e cs own b hB0 hk hjb
    obtain ⟨_,hlt,_⟩:=h.bx j b _ hjb hB0
    have hne:∀ j' k',Loc.box j k = .box j' k'→j' ∉ ρ:=fun j' k' hx => by cases hx; exact hj
    have hne2:∀ x ∈ oa,Loc.box j k ≠ .tmp x.t x.k:=fun x _ e => by cases e
    exact ⟨v',(qaX (hkeep b hlt (hnotT_box hjb hj)).1 k).trans k1,k2.same fun b' hb' => hkeep b' (k2.lt hb') (hnotT_own (k3 b' hb') (howned k2 hb') hne hne2),fun b' hb' => hold (k3 b' hb') (howned k2 hb') hne hne2⟩
  gl:=fun g cs hg => (h.gl g cs hg).mono hle (.refl _)
  gc:=h.gc
  gx:=h.gx
  step:={
   os:=hS.step.os.trans h.step.os
   tape:=hS.step.tape.trans h.step.tape
   output:=hS.step.output.trans h.step.output
   size:=Nat.le_trans h.step.size hS.step.size
   keep:=fun b hb hT => by
    have hlt:b < w.heap.size:=Nat.lt_of_lt_of_le hb h.step.size
    have hnT:¬ qbb bsC (qc3 ρ oa Γ ow) b:=fun hx => (hTE b hx).elim hT (fun hx => absurd hx (Nat.not_le.2 hb))
    obtain ⟨k1,k2⟩:=h.step.keep b hb hT
    obtain ⟨q1,q2⟩:=hkeep b hlt hnT
    exact ⟨q1.trans k1,q2.trans k2⟩
   le:=h.step.le.trans hle } }
end
end Go.Proofs.YtgldgpdhblndkaaGreatDoor
