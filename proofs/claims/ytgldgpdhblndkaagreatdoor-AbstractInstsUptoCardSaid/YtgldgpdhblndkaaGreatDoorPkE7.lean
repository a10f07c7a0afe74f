/- WHAT IS PROVED: parts of the proof, put together by a program (AbsP). Conditions: none. -/
import Derived.Test.YtgldgpdhblndkaaGreatDoorPkE6
noncomputable section
namespace Go.Proofs.YtgldgpdhblndkaaGreatDoor
open Go
inductive Rix (ρ:List Nat):PVal→PVal→Prop where
 | refl (p:PVal) (h:p.cl 0):Rix ρ p p
 | bptr (i j off:Nat) (h:ρ[i]? = some j):Rix ρ (.bptr j off) (.bptr i off)
 | mapr (i j:Nat) (h:ρ[i]? = some j):Rix ρ (.mapr j) (.mapr i)
 | bsl (i j off n:Nat) (h:ρ[i]? = some j):Rix ρ (.bsl j off n) (.bsl i off n)
 | func (fn:Fn) (f c f' c':List PVal) (hl:f.length = f'.length) (hl':c.length = c'.length)
   (h:∀ (i:Nat) p q,f[i]? = some p→f'[i]? = some q→Rix ρ p q) (h':∀ (i:Nat) p q,c[i]? = some p→c'[i]? = some q→Rix ρ p q):Rix ρ (.func fn f c) (.func fn f' c')
 | agg (f f':List PVal) (hl:f.length = f'.length) (h:∀ (i:Nat) p q,f[i]? = some p→f'[i]? = some q→Rix ρ p q):Rix ρ (.agg f) (.agg f')
def qh4 (ρ:List Nat):PBox→PBox→Prop
 | .cells cs own,.cells cs' own' => own = own'∧cs.length = cs'.length∧∀ (i:Nat) p q,cs[i]? = some p→cs'[i]? = some q→Rix ρ p q
 | .map es,.map es' => es.length = es'.length∧∀ (i:Nat) k u k' u',es[i]? = some (k,u)→es'[i]? = some (k',u')→Rix ρ k k'∧Rix ρ u u'
 | .dead,.dead => True
 | _,_ => False
section
variable {P:Program} {E:Ent} {Γ:qaP} {bs bsC:qbj} {ow:Nat→Option Loc} {w:World} {a:Array Value} {st:PSt} {ρ:List Nat}
theorem Rix.to {p q:PVal} (hr:Rix ρ p q) (hb:∀ (i j:Nat),ρ[i]? = some j→bsC[i]? = bs[j]?):∀ {v:Value},VR Γ bs w p v→VR Γ bsC w q v:=by
 induction hr with
 | refl p h => intro v hv; exact hv.restrict (n:=0) h fun i b hi _ => absurd hi (Nat.not_lt_zero _)
 | bptr i j off h => intro v hv; cases hv with | bptr _ _ b h' => exact .bptr _ _ _ ((hb i j h).trans h')
 | mapr i j h => intro v hv; cases hv with | mapr _ b h' => exact .mapr _ _ ((hb i j h).trans h')
 | bsl i j off n h => intro v hv; cases hv with | bsl _ _ _ x cap hcap hnil hx => exact .bsl _ _ _ x cap hcap hnil (hx.imp_right fun ⟨b,h1,h2⟩ => ⟨b,h1,(hb i j h).trans h2⟩)
 | func fn f c f' c' hl hl' _ _ ih ih' =>
  intro v hv
  cases hv with
  | func fn f c fs cs k k' h h' =>
   refine .func fn f' c' fs cs (by omega) (by omega) (fun i p v hp hv => ?_) (fun i p v hp hv => ?_)
   ·have hi:=qae hp
    have:=List.getElem?_eq_getElem (l:=f) (i:=i) (by omega)
    exact ih i _ p this hp (h i _ v this hv)
   ·have hi:=qae hp
    have:=List.getElem?_eq_getElem (l:=c) (i:=i) (by omega)
    exact ih' i _ p this hp (h' i _ v this hv)
 | agg f f' hl _ ih =>
  intro v hv
  cases hv with
  | agg f fs k h =>
   refine .agg f' fs (by omega) (fun i p v hp hv => ?_)
   have hi:=qae hp
   have:=List.getElem?_eq_getElem (l:=f) (i:=i) (by omega)
   exact ih i _ p this hp (h i _ v this hv)
theorem Rix.from {p q:PVal} (hr:Rix ρ p q) (hb:∀ (i j:Nat),ρ[i]? = some j→bsC[i]? = bs[j]?):∀ {v:Value},VR Γ bsC w q v→VR Γ bs w p v:=by
 induction hr with
 | refl p h => intro v hv; exact hv.restrict (n:=0) h fun i b hi _ => absurd hi (Nat.not_lt_zero _)
 | bptr i j off h => intro v hv; cases hv with | bptr _ _ b h' => exact .bptr _ _ _ ((hb i j h).symm.trans h')
 | mapr i j h => intro v hv; cases hv with | mapr _ b h' => exact .mapr _ _ ((hb i j h).symm.trans h')
 | bsl i j off n h => intro v hv; cases hv with | bsl _ _ _ x cap hcap hnil hx => exact .bsl _ _ _ x cap hcap hnil (hx.imp_right fun ⟨b,h1,h2⟩ => ⟨b,h1,(hb i j h).symm.trans h2⟩)
 | func fn f c f' c' hl hl' _ _ ih ih' =>
  intro v hv
  cases hv with
  | func fn f' c' fs cs k k' h h' =>
   refine .func fn f c fs cs (by omega) (by omega) (fun i p v hp hv => ?_) (fun i p v hp hv => ?_)
   ·have hi:=qae hp
    have:=List.getElem?_eq_getElem (l:=f') (i:=i) (by omega)
    exact ih i p _ hp this (h i _ v this hv)
   ·have hi:=qae hp
    have:=List.getElem?_eq_getElem (l:=c') (i:=i) (by omega)
    exact ih' i p _ hp this (h' i _ v this hv)
 | agg f f' hl _ ih =>
  intro v hv
  cases hv with
  | agg f' fs k h =>
   refine .agg f fs (by omega) (fun i p v hp hv => ?_)
   have hi:=qae hp
   have:=List.getElem?_eq_getElem (l:=f') (i:=i) (by omega)
   exact ih i p _ hp this (h i _ v this hv)
theorem qh4.to {B B':PBox} {b:Nat} (hr:qh4 ρ B B') (hb:∀ (i j:Nat),ρ[i]? = some j→bsC[i]? = bs[j]?) (h:BR Γ bs w B b):BR Γ bsC w B' b:=by
 cases B <;> cases B' <;> simp only [qh4] at hr
 ·rename_i cs own cs' own'
  obtain ⟨_,hl,hr⟩:=hr
  obtain ⟨c,t,h1,h2,h3⟩:=h
  refine ⟨c,t,h1,by omega,fun j p v hp hv => ?_⟩
  have hj:=qae hp
  have:=List.getElem?_eq_getElem (l:=cs) (i:=j) (by omega)
  exact (hr j _ p this hp).to hb (h3 j _ v this hv)
 ·rename_i es es'
  obtain ⟨hl,hr⟩:=hr
  obtain ⟨c,t,h1,h2,h3⟩:=h
  refine ⟨c,t,h1,by omega,fun j k u x hp hv => ?_⟩
  have hj:=qae hp
  have:=List.getElem?_eq_getElem (l:=es) (i:=j) (by omega)
  obtain ⟨r1,r2⟩:=hr j _ _ k u this hp
  obtain ⟨q1,q2⟩:=h3 j _ _ x this hv
  exact ⟨r1.to hb q1,r2.to hb q2⟩
 ·trivial
theorem qh4.from {B B':PBox} {b:Nat} (hr:qh4 ρ B B') (hb:∀ (i j:Nat),ρ[i]? = some j→bsC[i]? = bs[j]?) (h:BR Γ bsC w B' b):BR Γ bs w B b:=by
 cases B <;> cases B' <;> simp only [qh4] at hr
 ·rename_i cs own cs' own'
  obtain ⟨_,hl,hr⟩:=hr
  obtain ⟨c,t,h1,h2,h3⟩:=h
  refine ⟨c,t,h1,by omega,fun j p v hp hv => ?_⟩
  have hj:=qae hp
  have:=List.getElem?_eq_getElem (l:=cs') (i:=j) (by omega)
  exact (hr j p _ hp this).from hb (h3 j _ v this hv)
 ·rename_i es es'
  obtain ⟨hl,hr⟩:=hr
  obtain ⟨c,t,h1,h2,h3⟩:=h
  refine ⟨c,t,h1,by omega,fun j k u x hp hv => ?_⟩
  have hj:=qae hp
  have:=List.getElem?_eq_getElem (l:=es') (i:=j) (by omega)
  obtain ⟨r1,r2⟩:=hr j k u _ _ hp this
  obtain ⟨q1,q2⟩:=h3 j _ _ x this hv
  exact ⟨r1.from hb q1,r2.from hb q2⟩
 ·trivial
structure Handed (ρ:List Nat) (H:List PBox) (Hc:List PBox):Prop where
 len:Hc.length = ρ.length
 box:∀ (i j:Nat),ρ[i]? = some j→∃ B Bc,H[j]? = some B∧Hc[i]? = some Bc∧qh4 ρ B Bc
def qel (ρ:List Nat) (Γ:qaP) (ow:Nat→Option Loc):Nat→Option Loc:=fun b =>
 match ow b with
 | some (.box j k) => if (Γ b).isSome∧j ∈ ρ then some (.box (ρ.idxOf j) k) else none
 | _ => none
def qph (ρ:List Nat) (d:Nat) (owC ow:Nat→Option Loc):Nat→Option Loc:=fun b =>
 match owC b with
 | some (.box i k) => some (.box (ρ.getD i 0) k)
 | some (.tmp _ k) => some (.tmp d k)
 | none => match ow b with
  | some (.box j k) => if j ∈ ρ then none else some (.box j k)
  | x => x
theorem qlP {ρ:List Nat} (hn:ρ.Nodup) {i j:Nat} (h:ρ[i]? = some j):ρ.idxOf j = i:=by
 have hi:=qae h
 have hj:ρ[i] = j:=by rw [List.getElem?_eq_getElem hi] at h; exact Option.some.inj h
 subst hj
 exact hn.idxOf_getElem i hi
theorem qC5 (h:SR P E Γ bs ow w a st) {g:FuncId} {args argsC:List PVal} {r rc:PVal} {ro:List (Nat×TypeId)} {Hc Hc' H':List PBox} {vs:Array Value} {d:Nat} (hd:d < a.size)
  (hn:ρ.Nodup) (hC:C P E.GE g argsC [] Hc rc ro Hc') (hH:Handed ρ st.boxes Hc) (hH':Handed ρ H' Hc') (hlen:H'.length = st.boxes.length) (hsame:∀ j:Nat,j ∉ ρ→H'[j]? = st.boxes[j]?)
  (hr:Rix ρ r rc) (hal:args.length = argsC.length) (ha:∀ (i:Nat) p q,args[i]? = some p→argsC[i]? = some q→Rix ρ p q)
  (hl:vs.size = args.length) (hv:∀ (i:Nat) p v,args[i]? = some p→vs[i]? = some v→VR Γ bs w p v) :
  Calls P g vs w fun e w' => ∃ v Γ' ow',e = .returned v∧SR P E Γ' bs ow' w' (a.setIfInBounds d v) { st with tmps:=st.tmps.set d r,boxes:=H',own:=(ro.map fun x => ((d,x.1),x.2)) ++ qbB d st.own }∧Γ.Le w Γ' w':=by
 let bsC:qbj:=ρ.map fun j => (bs[j]?).getD none
 have hjlt:∀ {i j:Nat},ρ[i]? = some j→j < st.boxes.length:=fun {i j} hij => by
  obtain ⟨B,_,hB,_⟩:=hH.box i j hij; exact qae hB
 have hbb:∀ (i j:Nat),ρ[i]? = some j→bsC[i]? = bs[j]?:=by
  intro i j hij
  have hj:j < bs.length:=by rw [h.bl]; exact hjlt hij
  simp [bsC,hij,List.getElem?_eq_getElem hj]
 have hbc:∀ {i b:Nat},bsC[i]? = some (some b)→∃ j,ρ[i]? = some j∧bs[j]? = some (some b):=by
  intro i b hib
  have hi:i < ρ.length:=by have:=qae hib; simpa [bsC] using this
  have hij:ρ[i]? = some ρ[i]:=List.getElem?_eq_getElem hi
  exact ⟨_,hij,(hbb i _ hij).symm.trans hib⟩
 have hcow:∀ {b L},qel ρ Γ ow b = some L→∃ j k,ow b = some (.box j k)∧(Γ b).isSome∧j ∈ ρ∧L = .box (ρ.idxOf j) k:=by
  intro b L hL
  unfold qel at hL
  split at hL
  ·rename_i j k hb
   split at hL
   ·rename_i hc; cases hL; exact ⟨j,k,hb,hc.1,hc.2,rfl⟩
   ·cases hL
  ·cases hL
 have hpre:SR P ⟨E.GE,Γ,w,qbb bsC (qel ρ Γ ow)⟩ Γ bsC (qel ρ Γ ow) w vs ⟨argsC,Hc,[]⟩:={
  wi:=h.wi
  sz:=by simpa [hal] using hl
  tm:=fun t q v hq hv' => by
   have ht:=qae hq
   have hp:=List.getElem?_eq_getElem (l:=args) (i:=t) (by rw [hal]; exact ht)
   exact (ha t _ q hp hq).to hbb (hv t _ v hp hv')
  bl:=by simp [bsC,hH.len]
  bx:=fun i b Bc hib hBc => by
   obtain ⟨j,hij,hjb⟩:=hbc hib
   obtain ⟨B,Bc',hB,hBc',hx⟩:=hH.box i j hij
   rw [hBc] at hBc'; cases hBc'
   obtain ⟨k1,k2,k3⟩:=h.bx j b B hjb hB
   exact ⟨k1,k2,hx.to hbb k3⟩
  inj:=fun i j b hi hj => by
   obtain ⟨x,hx,hxb⟩:=hbc hi
   obtain ⟨y,hy,hyb⟩:=hbc hj
   have:=h.inj x y b hxb hyb
   subst this
   rw [← qlP hn hx,qlP hn hy]
  bn:=fun i b hb => .inl (.inl ⟨i,hb⟩)
  on:=fun b L hL => by
   obtain ⟨j,k,hb,_⟩:=hcow hL
   exact ⟨(h.on b _ hb).1,.inl (.inr (by rw [hL]; simp))⟩
  ot:=fun t k e he => by simp at he
  ob:=fun i k e cs own b hB hk hb => by
   obtain ⟨j,hij,hjb⟩:=hbc hb
   obtain ⟨B,Bc',hB',hBc',hx⟩:=hH.box i j hij
   rw [hB] at hBc'; cases hBc'
   cases B with
   | cells cs' own' =>
    obtain ⟨rfl,_,_⟩:=hx
    obtain ⟨v,k1,k2,k3⟩:=h.ob j k e cs' own' b hB' hk hjb
    refine ⟨v,k1,k2,fun b' hb' => ?_⟩
    have hg:(Γ b').isSome:=by obtain ⟨n,xs,_,o2⟩:=k2; rw [o2 b' hb']; rfl
    simp only [qel,k3 b' hb']
    rw [if_pos ⟨hg,List.mem_of_getElem? hij⟩,qlP hn hij]
   | map es => simp [qh4] at hx
   | dead => simp [qh4] at hx
  gl:=fun g cs hg => (h.gl g cs hg).restrict (n:=0) (by simp only [PVal.cl]; exact h.gc g cs hg) (fun i b hi _ => absurd hi (Nat.not_lt_zero _))
  gc:=h.gc
  gx:=fun g cs hg => by
   obtain ⟨k1,k2,k3,k4⟩:=h.gnow hg
   refine ⟨k1,fun hT => ?_,k4⟩
   rcases hT with ⟨i,hi⟩ | hT
   ·obtain ⟨j,_,hjb⟩:=hbc hi
    exact k2 j g hjb rfl
   ·cases hL:qel ρ Γ ow g with
    | none => exact hT hL
    | some L =>
     obtain ⟨j,k,hk',_⟩:=hcow hL
     rw [k3] at hk'; cases hk'
  step := .refl _ _ _ _ }
 refine (hC.2 Γ bsC _ w vs hpre).mono fun e w' he => ?_
 obtain ⟨v,Γ',owC,rfl,hS⟩:=he
 have hle:Γ.Le w Γ' w':=hS.step.le
 have hTE:∀ b,qbb bsC (qel ρ Γ ow) b→E.T b∨E.w.heap.size ≤ b:=by
  intro b hb
  rcases hb with ⟨i,hi⟩ | hb
  ·obtain ⟨j,_,hjb⟩:=hbc hi
   exact h.bn j b hjb
  ·cases hL:qel ρ Γ ow b with
   | none => exact absurd hL hb
   | some L =>
    obtain ⟨j,k,hk,_⟩:=hcow hL
    exact (h.on b _ hk).2
 have hkeep:∀ b,b < w.heap.size→¬ qbb bsC (qel ρ Γ ow) b→w'.heap[b]? = w.heap[b]?∧Γ' b = Γ b:=fun b hb hT => hS.step.keep b hb hT
 have hnotT_own:∀ {b L},ow b = some L→(Γ b).isSome→(∀ j k,L = .box j k→j ∉ ρ)→¬ qbb bsC (qel ρ Γ ow) b:=by
  intro b L hL hg hne hT
  rcases hT with ⟨i,hi⟩ | hT
  ·obtain ⟨j,hij,hjb⟩:=hbc hi
   obtain ⟨B,_,hB,_⟩:=hH.box i j hij
   rw [(h.bx j b B hjb hB).1] at hg; cases hg
  ·cases hL':qel ρ Γ ow b with
   | none => exact hT hL'
   | some L' =>
    obtain ⟨j,k,hk,_,hj,_⟩:=hcow hL'
    rw [hL] at hk; cases hk
    exact hne j k rfl hj
 have hnotT_box:∀ {j b:Nat},bs[j]? = some (some b)→j ∉ ρ→¬ qbb bsC (qel ρ Γ ow) b:=by
  intro j b hjb hj hT
  rcases hT with ⟨i,hi⟩ | hT
  ·obtain ⟨j',hij,hjb'⟩:=hbc hi
   have:=h.inj _ _ _ hjb hjb'
   subst this
   exact hj (List.mem_of_getElem? hij)
  ·cases hL':qel ρ Γ ow b with
   | none => exact hT hL'
   | some L' =>
    obtain ⟨j',k,hk,hg,_⟩:=hcow hL'
    have hjl:j < st.boxes.length:=by rw [← h.bl]; exact qae hjb
    rw [(h.bx j b _ hjb (List.getElem?_eq_getElem hjl)).1] at hg; cases hg
 have hold:∀ {b L},ow b = some L→(Γ b).isSome→(∀ j k,L = .box j k→j ∉ ρ)→qph ρ d owC ow b = some L:=by
  intro b L hL hg hne
  have hT:=hnotT_own hL hg hne
  have hnone:owC b = none:=by
   cases hx:owC b with
   | none => rfl
   | some L' =>
    obtain ⟨_,k2⟩:=hS.on b L' hx
    rcases k2 with k2 | k2
    ·exact absurd k2 hT
    ·have:=(h.on b L hL).1
     exact absurd k2 (Nat.not_le.2 this)
  unfold qph
  rw [hnone]
  simp only [hL]
  cases L with
  | tmp t k => rfl
  | box j k => simp only; rw [if_neg (hne j k rfl)]
 have howned:∀ {v:Value} {e:TypeId} {b:Nat},qhY P Γ w v e→v.ownBlock = some b→(Γ b).isSome:=by
  intro v e b ho hb
  obtain ⟨n,xs,_,o2⟩:=ho
  rw [o2 b hb]; rfl
 have hrv:VR Γ' bs w' r v:=hr.from hbb (hS.tm 0 rc v rfl rfl)
 refine ⟨v,Γ',qph ρ d owC ow,rfl,?_,hle⟩
 exact {
  wi:=hS.wi
  sz:=by simp [h.sz]
  tm:=fun t q u hq hu => by
   simp only [List.getElem?_set] at hq
   rw [Array.getElem?_setIfInBounds] at hu
   by_cases hdt:d = t
   ·subst hdt
    simp only [if_true] at hq hu
    split at hu
    ·split at hq
     ·cases hu; cases hq; exact hrv
     ·cases hq
    ·rename_i hnd; exact absurd hd hnd
   ·simp only [hdt,if_false] at hq hu
    exact (h.tm t q u hq hu).mono hle (.refl _)
  bl:=by simp [h.bl,hlen]
  bx:=fun j b B hjb hB => by
   by_cases hj:j ∈ ρ
   ·obtain ⟨i,hij⟩:=List.mem_iff_getElem?.1 hj
    obtain ⟨B',Bc,hB',hBc,hx⟩:=hH'.box i j hij
    rw [hB] at hB'; cases hB'
    obtain ⟨k1,k2,k3⟩:=hS.bx i b Bc ((hbb i j hij).trans hjb) hBc
    exact ⟨k1,k2,hx.from hbb k3⟩
   ·have hB0:st.boxes[j]? = some B:=(hsame j hj).symm.trans hB
    obtain ⟨k1,k2,k3⟩:=h.bx j b B hjb hB0
    obtain ⟨q1,q2⟩:=hkeep b k2 (hnotT_box hjb hj)
    exact ⟨q2.trans k1,Nat.lt_of_lt_of_le k2 hS.step.size,k3.mono hle (.refl _) q1⟩
  inj:=h.inj
  bn:=h.bn
  on:=fun b L hL => by
   unfold qph at hL
   split at hL
   ·rename_i i k hb
    obtain ⟨k1,k2⟩:=hS.on b _ hb
    exact ⟨k1,k2.elim (hTE b) (fun hx => .inr (Nat.le_trans h.step.size hx))⟩
   ·rename_i t k hb
    obtain ⟨k1,k2⟩:=hS.on b _ hb
    exact ⟨k1,k2.elim (hTE b) (fun hx => .inr (Nat.le_trans h.step.size hx))⟩
   ·have hsz:=hS.step.size
    split at hL
    ·rename_i j k hb
     exact ⟨Nat.lt_of_lt_of_le (h.on b _ hb).1 hsz,(h.on b _ hb).2⟩
    ·exact ⟨Nat.lt_of_lt_of_le (h.on b _ hL).1 hsz,(h.on b _ hL).2⟩
  ot:=fun t k e he => by
   rcases List.mem_append.1 he with he | he
   ·simp only [List.mem_map,Prod.mk.injEq] at he
    obtain ⟨⟨k',e'⟩,hm,⟨rfl,rfl⟩,rfl⟩:=he
    obtain ⟨u,v',h1,h2,h3,h4⟩:=hS.ot 0 k' e' (List.mem_map.2 ⟨(k',e'),hm,rfl⟩)
    simp at h1; subst h1
    refine ⟨v,v',by simp [hd],h2,h3,fun b hb => ?_⟩
    simp only [qph,h4 b hb]
   ·obtain ⟨he,htd⟩:=qcG he
    obtain ⟨u,v',h1,h2,h3,h4⟩:=h.ot t k e he
    have hq:∀ b,v'.ownBlock = some b→¬ qbb bsC (qel ρ Γ ow) b:=fun b hb => hnotT_own (h4 b hb) (howned h3 hb) (fun j k hx => by cases hx)
    exact ⟨u,v',by rw [Array.getElem?_setIfInBounds_ne (fun e => htd e.symm)]; exact h1,h2,h3.same fun b hb => hkeep b (h3.lt hb) (hq b hb),fun b hb => hold (h4 b hb) (howned h3 hb) (fun j k hx => by cases hx)⟩
  ob:=fun j k e cs own b hB hk hjb => by
   by_cases hj:j ∈ ρ
   ·obtain ⟨i,hij⟩:=List.mem_iff_getElem?.1 hj
    obtain ⟨B',Bc,hB',hBc,hx⟩:=hH'.box i j hij
    rw [hB] at hB'; cases hB'
    cases Bc with
    | cells cs' own' =>
     obtain ⟨rfl,_,_⟩:=hx
     obtain ⟨v',k1,k2,k3⟩:=hS.ob i k e cs' own b hBc hk ((hbb i j hij).trans hjb)
     refine ⟨v',k1,k2,fun b' hb' => ?_⟩
     have hgd:ρ.getD i 0 = j:=by rw [List.getD_eq_getElem?_getD,hij]; rfl
     simp only [qph,k3 b' hb',hgd]
    | map es => simp [qh4] at hx
    | dead => simp [qh4] at hx
   ·have hB0:st.boxes[j]? = some (.cells cs own):=(hsame j hj).symm.trans hB
    obtain ⟨v',k1,k2,k3⟩:=h.ob j k e cs own b hB0 hk hjb
    obtain ⟨_,hlt,_⟩:=h.bx j b _ hjb hB0
    have hne:∀ j' k',Loc.box j k = .box j' k'→j' ∉ ρ:=fun j' k' hx => by cases hx; exact hj
    exact ⟨v',(qaX (hkeep b hlt (hnotT_box hjb hj)).1 k).trans k1,k2.same fun b' hb' => hkeep b' (k2.lt hb') (hnotT_own (k3 b' hb') (howned k2 hb') hne),fun b' hb' => hold (k3 b' hb') (howned k2 hb') hne⟩
  gl:=fun g cs hg => (h.gl g cs hg).mono hle (.refl _)
  gc:=h.gc
  gx:=h.gx
  step:={
   os:=hS.step.os.trans h.step.os
   tape:=hS.step.tape.trans h.step.tape
   output:=hS.step.output.trans h.step.output
   size:=Nat.le_trans h.step.size hS.step.size
   keep:=fun b hb hT => by
    have hlt:b < w.heap.size:=Nat.lt_of_lt_of_le hb h.step.size
    have hnT:¬ qbb bsC (qel ρ Γ ow) b:=fun hx => (hTE b hx).elim hT (fun hx => absurd hx (Nat.not_le.2 hb))
    obtain ⟨k1,k2⟩:=h.step.keep b hb hT
    obtain ⟨q1,q2⟩:=hkeep b hlt hnT
    exact ⟨q1.trans k1,q2.trans k2⟩
   le:=h.step.le.trans hle } }
end
end Go.Proofs.YtgldgpdhblndkaaGreatDoor
