/- WHAT IS PROVED: parts of the proof, put together by a program (AbsF AbsG AbsH). Conditions: none. -/
import Derived.Test.YtgldgpdhblndkaaGreatDoorPkE2
noncomputable section
namespace Go.Proofs.YtgldgpdhblndkaaGreatDoor
open Go
section
variable {P:Program} {E:Ent} {Γ:qaP} {bs:qbj} {ow:Nat→Option Loc} {w:World} {a:Array Value} {st:PSt}
theorem qCD {t:TypeId} {cs:List PVal} {vs:Array Value} {off:Nat} {p:PVal} (hl:vs.size = cs.length)
  (hv:∀ (i:Nat) q v,cs[i]? = some q→vs[i]? = some v→VR Γ bs w q v) (h:qbg P t (cs.drop off) = some p) :
  ∃ v,(part t vs off).run P w = .ok v w∧VR Γ bs w p v:=by
 have hagg:∀ {d},P.underlying t = some d→(match d with | .struct _ | .array _ _ => True | _ => False)→P.cellsOf t ≤ (cs.drop off).length →
   ∃ v,(part t vs off).run P w = .ok v w∧VR Γ bs w (.agg ((cs.drop off).take (P.cellsOf t))) v:=by
  intro d hd hm hl'
  obtain ⟨i,hi⟩:=qkY hd
  refine ⟨.agg (vs.extract off (off + P.cellsOf t)),?_,.agg _ _ ?_ fun k q u hq hu => ?_⟩
  ·cases d <;> simp at hm <;> simp [part,isAgg,run_underlying hd,run_sizeOf w hi]
  ·simp at hl' ⊢; omega
  ·have hk:k < P.cellsOf t:=by have:=qae hq; simp at this; omega
   rw [List.getElem?_take_of_lt hk,List.getElem?_drop] at hq
   have hlt:k < off + P.cellsOf t - off:=by omega
   rw [Array.getElem?_extract] at hu
   split at hu
   ·exact hv _ _ _ hq hu
   ·cases hu
 unfold qbg at h
 split at h
 ·rename_i fs hd
  split at h
  ·cases h; exact hagg hd trivial ‹_›
  ·cases h
 ·rename_i n e hd
  split at h
  ·cases h; exact hagg hd trivial ‹_›
  ·cases h
 ·rename_i d hns hna hd
  rw [List.head?_drop] at h
  have hlt:off < vs.size:=by rw [hl]; exact qae h
  refine ⟨vs[off],?_,hv off _ _ h (by simp [hlt])⟩
  cases d <;> simp at hns hna <;> simp [part,isAgg,run_underlying hd,hlt]
 ·cases h
theorem qCY {t:TypeId} {f:Nat} {x p:PVal} {vx:Value} (hx:VR Γ bs w x vx) (h:qCz P t x f = some p) :
  ∃ v,(Instr.field t vx f).run P w = .ok v w∧VR Γ bs w p v:=by
 unfold qCz at h
 split at h
 ·rename_i fs cs ht
  split at h
  ·rename_i fd hf
   cases hx with
   | agg cs vs hl hv =>
    obtain ⟨v,hr,hp⟩:=qCD hl hv h
    exact ⟨v,by simp [Instr.field,run_underlying ht,hf,asAgg,hr],hp⟩
  ·cases h
 ·cases h
theorem qDc {t:TypeId} {x ix p:PVal} {vx vi:Value} (hx:VR Γ bs w x vx) (hi:VR Γ bs w ix vi) (h:qBK P t x ix = some p) :
  ∃ v,(Instr.index t vx vi).run P w = .ok v w∧VR Γ bs w p v:=by
 unfold qBK at h
 split at h
 ·rename_i n e cs k i ht
  cases hi
  split at h
  ·rename_i hh
   obtain ⟨h0,h1,hinf⟩:=hh
   obtain ⟨inf,hinf⟩:=Option.isSome_iff_exists.1 hinf
   cases hx with
   | agg cs vs hl hv =>
    obtain ⟨v,hr,hp⟩:=qCD hl hv h
    exact ⟨v,by simp [Instr.index,run_underlying ht,asIntOf,h0,h1,run_sizeOf w hinf,hr],hp⟩
  ·cases h
 ·rename_i s k i ht
  cases hi; cases hx
  split at h
  ·rename_i h0
   simp only [Option.map_eq_some_iff] at h
   obtain ⟨c,hc,rfl⟩:=h
   have hlt:=qae hc
   have hlt':i.toNat < (ByteArray.mk s.toArray).size:=by show i.toNat < s.toArray.size; simpa using hlt
   have hget:(ByteArray.mk s.toArray)[i.toNat]? = some c:=by
    rw [getElem?_pos (ByteArray.mk s.toArray) i.toNat hlt']
    congr 1
    show s.toArray[i.toNat] = c
    rw [List.getElem?_eq_getElem hlt] at hc
    simpa using hc
   exact ⟨_,by simp [Instr.index,run_underlying ht,asIntOf,h0,hget],.int _ _⟩
  ·cases h
 ·cases h
theorem qtT {x p:PVal} {vx:Value} {i:Nat} (hx:VR Γ bs w x vx) (h:qmo x i = some p) :
  ∃ v,(Instr.extract vx i).run P w = .ok v w∧VR Γ bs w p v:=by
 unfold qmo at h
 split at h
 ·cases hx with
  | tuple cs vs hl hv =>
   have hlt:i < vs.size:=by rw [hl]; exact qae h
   exact ⟨vs[i],by simp [Instr.extract,hlt],hv i _ _ h (by simp [hlt])⟩
 ·cases h
theorem qiO {k:IntKind} {i:Int} {y:Nat} (code:BoundsCode) (h0:0 ≤ i) (h1:i.toNat ≤ y):(Instr.sliceBound (.int k i) y code).run P w = .ok i.toNat w:=by
 have:i ≤ (y:Int):=by omega
 simp [Instr.sliceBound,asIntOf,h0,this]
theorem qxl {x:Option PVal} {vx:Option Value} {d n:Nat} (h:pnat x d = some n) (r:∀ p,x = some p→∃ v,vx = some v∧VR Γ bs w p v) (e:x = none→vx = none) :
  (vx = none∧n = d)∨∃ k i,vx = some (.int k i)∧0 ≤ i∧n = i.toNat:=by
 cases x with
 | none => simp [pnat] at h; exact .inl ⟨e rfl,h.symm⟩
 | some p =>
  obtain ⟨v,rfl,hv⟩:=r p rfl
  cases p <;> simp [pnat] at h
  cases hv
  exact .inr ⟨_,_,rfl,h.1,h.2.symm⟩
theorem qfy {isSlice:Bool} {len cap:Nat} {lo hi:Option PVal} {vlo vhi:Option Value} {l h:Nat} (hlo:pnat lo 0 = some l) (hhi:pnat hi len = some h)
  (rlo:∀ p,lo = some p→∃ v,vlo = some v∧VR Γ bs w p v) (nlo:lo = none→vlo = none) (rhi:∀ p,hi = some p→∃ v,vhi = some v∧VR Γ bs w p v) (nhi:hi = none→vhi = none)
  (hlh:l ≤ h) (hle:h ≤ len) (hlc:len ≤ cap):(Instr.sliceBounds isSlice len cap vlo vhi none).run P w = .ok (l,h,cap) w:=by
 rcases qxl hhi rhi nhi with ⟨rfl,rfl⟩ | ⟨k,i,rfl,h0,rfl⟩ <;> rcases qxl hlo rlo nlo with ⟨rfl,rfl⟩ | ⟨k',i',rfl,h0',rfl⟩
 ·simp [Instr.sliceBounds]
 ·simp [Instr.sliceBounds,qiO _ h0' hlh]
 ·simp [Instr.sliceBounds,qiO _ h0 (Nat.le_trans hle hlc)]
 ·simp [Instr.sliceBounds,qiO _ h0 (Nat.le_trans hle hlc),qiO _ h0' hlh]
theorem qDt {t:TypeId} {x p:PVal} {lo hi:Option PVal} {vx:Value} {vlo vhi:Option Value} (hx:VR Γ bs w x vx)
  (rlo:∀ p,lo = some p→∃ v,vlo = some v∧VR Γ bs w p v) (nlo:lo = none→vlo = none) (rhi:∀ p,hi = some p→∃ v,vhi = some v∧VR Γ bs w p v) (nhi:hi = none→vhi = none)
  (h:qtN P t x lo hi none = some p) :
  ∃ v,(Instr.sliceAt t vx vlo vhi none).run P w = .ok v w∧VR Γ bs w p v:=by
 unfold qtN at h
 split at h
 ·rename_i s ht _
  cases hx
  split at h
  ·rename_i l hh hl hhi
   split at h
   ·rename_i hb
    cases h
    have hb:=qfy (P:=P) (isSlice:=false) (cap:=s.length) hl hhi rlo nlo rhi nhi hb.1 hb.2 (Nat.le_refl _)
    refine ⟨.string ⟨((s.take hh).drop l).toArray⟩,?_,.str _⟩
    have hsz:(ByteArray.mk s.toArray).size = s.length:=by show s.toArray.size = _; simp
    have hex:(ByteArray.mk s.toArray).extract l hh = ByteArray.mk ((s.take hh).drop l).toArray:=by
     apply ByteArray.ext
     apply Array.ext'
     simp
     rw [List.drop_take]
    simp [Instr.sliceAt,Instr.slice,run_underlying ht,hsz,hb,hex]
   ·cases h
  ·cases h
 ·rename_i e es ht _
  split at h
  ·rename_i l hh hl hhi
   split at h
   ·rename_i hb
    obtain ⟨hlh,hle,hinf,hel⟩:=hb
    obtain ⟨inf,hinf⟩:=Option.isSome_iff_exists.1 hinf
    cases h
    cases hx with
    | sliceNil =>
     have hb:=qfy (P:=P) (isSlice:=true) (cap:=0) hl hhi rlo nlo rhi nhi hlh hle (Nat.le_refl _)
     simp at hle; subst hle
     simp at hlh; subst hlh
     refine ⟨.slice none 0 0,?_,.sliceNil⟩
     have hb':(Instr.sliceBounds true 0 0 vlo vhi none).run P w = .ok (0,0,0) w:=hb
     simp [Instr.sliceAt,Instr.slice,run_underlying ht,hb',run_sizeOf w hinf]
    | sliceE a cap =>
     have hb:=qfy (P:=P) (isSlice:=true) (cap:=cap) hl hhi rlo nlo rhi nhi hlh hle (Nat.zero_le _)
     simp at hle; subst hle
     simp at hlh; subst hlh
     refine ⟨.slice (some a) 0 cap,?_,.sliceE a cap⟩
     have hb':(Instr.sliceBounds true 0 cap vlo vhi none).run P w = .ok (0,0,cap) w:=hb
     simp [Instr.sliceAt,Instr.slice,run_underlying ht,hb',run_sizeOf w hinf,Addr.add]
    | slice es b off cap n sz vals hz0 hcap hg hn hsz hc hv =>
     have hb:=qfy (P:=P) (isSlice:=true) (cap:=cap) hl hhi rlo nlo rhi nhi hlh hle hcap
     have hlen:((es.take hh).drop l).length = hh - l:=by simp; omega
     have hget:∀ {i:Nat} {x:List PVal},((es.take hh).drop l)[i]? = some x→es[l + i]? = some x:=by
      intro i x hx
      rw [List.getElem?_drop] at hx
      have:l + i < hh:=by have:=qae hx; simp at this; omega
      rwa [List.getElem?_take_of_lt this] at hx
     have hszE:es ≠ []→sz = P.cellsOf e:=by
      intro hne
      cases es with
      | nil => exact absurd rfl hne
      | cons y ys => rw [← hel y (by simp)]; exact (hsz 0 y rfl).symm
     have hmain:VR Γ bs w (.slice ((es.take hh).drop l)) (.slice (some ⟨b,if cap = l then off else off + l * sz,none⟩) (hh - l) (cap - l)):=by
      rw [← hlen]
      have hmul:l * sz + (hh - l) * sz = hh * sz:=by rw [← Nat.add_mul]; congr 1; omega
      have hmul2:hh * sz ≤ es.length * sz:=Nat.mul_le_mul_right sz hle
      by_cases hcl:cap = l
      ·have h0:(es.take hh).drop l = []:=by apply List.eq_nil_of_length_eq_zero; omega
       rw [h0,if_pos hcl]
       exact .slice [] b off (cap - l) n sz vals hz0 (by simp) hg (by simp; omega) (by simp) (by simp) (by simp)
      ·rw [if_neg hcl]
       refine .slice _ b (off + l * sz) (cap - l) n sz (fun i k => vals (l + i) k) hz0 (by omega) hg (by rw [hlen]; omega) (fun i x hx => hsz _ _ (hget hx)) (fun i x k q hx hq => ?_) (fun i x k q hx hq => hv _ _ _ _ (hget hx) hq)
       have:=hc _ _ _ _ (hget hx) hq
       rw [Nat.add_mul] at this
       rw [← this]
       congr 2
       omega
     refine ⟨_,?_,hmain⟩
     by_cases hne:es = []
     ·subst hne
      simp at hle; subst hle
      simp at hlh; subst hlh
      have hb':(Instr.sliceBounds true 0 cap vlo vhi none).run P w = .ok (0,0,cap) w:=hb
      simp [Instr.sliceAt,Instr.slice,run_underlying ht,hb',run_sizeOf w hinf,Addr.add_lit]
     ·have:=hszE hne; subst this
      simp [Instr.sliceAt,Instr.slice,run_underlying ht,hb,run_sizeOf w hinf,Addr.add_lit]
      split <;> simp
   ·cases h
  ·cases h
 ·rename_i e bx off n ht _
  split at h
  ·rename_i l hh hl hhi
   split at h
   ·rename_i hb
    obtain ⟨hlh,hle,hinf⟩:=hb
    obtain ⟨inf,hinf⟩:=Option.isSome_iff_exists.1 hinf
    cases h
    cases hx with
    | bsl _ _ _ x cap hcap hnil hxb =>
     have hb:=qfy (P:=P) (isSlice:=true) (cap:=cap) hl hhi rlo nlo rhi nhi hlh hle hcap
     cases x with
     | none =>
      rcases hxb with rfl | ⟨b,hb1,_⟩
      ·obtain rfl:hh = 0:=by omega
       obtain rfl:l = 0:=by omega
       refine ⟨.slice none 0 cap,?_,.bsl _ _ _ _ _ (Nat.zero_le _) hnil (.inl rfl)⟩
       simp [Instr.sliceAt,Instr.slice,run_underlying ht,hb,run_sizeOf w hinf]
      ·cases hb1
     | some ad =>
      by_cases hcl:cap = l
      ·subst hcl
       refine ⟨.slice (some ad) (hh - cap) (cap - cap),?_,.bsl _ _ _ _ _ (by omega) (fun h => by cases h) (.inl (by omega))⟩
       simp [Instr.sliceAt,Instr.slice,run_underlying ht,hb,run_sizeOf w hinf]
      ·refine ⟨.slice (some (ad.add (l * P.cellsOf e))) (hh - l) (cap - l),?_,.bsl _ _ _ _ _ (by omega) (fun h => by cases h) ?_⟩
       ·simp [Instr.sliceAt,Instr.slice,run_underlying ht,hb,run_sizeOf w hinf,hcl]
       ·rcases hxb with rfl | ⟨b,hb1,hb2⟩
        ·exact .inl (by omega)
        ·cases hb1
         exact .inr ⟨b,by rw [Addr.add_lit],hb2⟩
   ·cases h
  ·cases h
 ·cases h
end
def qkH (P:Program) (t:TypeId) (x:PVal) (H:List PBox):Option PVal :=
 match x with
 | .eptr cs => qbg P t cs
 | .bptr i off => match H[i]? with
  | some (.cells cs _) => qbg P t (cs.drop off)
  | _ => none
 | _ => none
def qc4 (P:Program) (t:TypeId) (x v:PVal) (H:List PBox):Option (List PBox) :=
 match x,qaJ v with
 | .bptr i off,some vs => match H[i]? with
  | some (.cells cs own) =>
   if vs.length = P.cellsOf t∧(P.info? t).isSome∧off + vs.length ≤ cs.length∧vs.all PVal.one then
    some (H.set i (.cells (cs.take off ++ vs ++ cs.drop (off + vs.length)) (own.filter fun y => y.1 < off || off + vs.length ≤ y.1)))
   else none
  | _ => none
 | _,_ => none
def qh0 (P:Program) (t:TypeId):Option (List PVal):=((P.info? t).bind (·.zero)).map fun z => z.cells.toList.map absC
def qgO:Value→Bool
 | .slice none 0 0 => true
 | _ => false
def qEI (P:Program) (t:TypeId):List (Nat×TypeId) :=
 match (P.info? t).bind (·.zero),P.cellTypes P.depth t with
 | some z,some ts => (List.range z.cells.size).filterMap fun j =>
   match z.cells[j]?,(ts[j]?).bind P.underlying with
   | some v,some (.slice e) => if qgO v then some (j,e) else none
   | _,_ => none
 | _,_ => []
section
variable {P:Program} {E:Ent} {Γ:qaP} {bs:qbj} {ow:Nat→Option Loc} {w:World} {a:Array Value} {st:PSt}
theorem SR.box_cells (h:SR P E Γ bs ow w a st) {i b:Nat} {cs:List PVal} {own:List (Nat×TypeId)} (hi:bs[i]? = some (some b)) (hB:st.boxes[i]? = some (.cells cs own)) :
  ∃ c t,w.heap[b]? = some (.cells c t (0,0))∧cs.length ≤ c.size∧(∀ (j:Nat) p v,cs[j]? = some p→c[j]? = some v→VR Γ bs w p v)∧∀ j,w.cell? ⟨b,j,none⟩ = c[j]?:=by
 obtain ⟨_,_,c,t,h1,h2,h3⟩:=h.bx i b _ hi hB
 exact ⟨c,t,h1,h2,h3,fun j => cell_of_row w b j c t _ h1⟩
theorem qwg (h:SR P E Γ bs ow w a st) {t:TypeId} {x p:PVal} {vx:Value} (hx:VR Γ bs w x vx) (hp:qkH P t x st.boxes = some p) :
  ∃ v,(Instr.loadAt t vx).run P w = .ok v w∧VR Γ bs w p v:=by
 unfold qkH at hp
 split at hp
 ·cases hx with
  | eptrE b off =>
   obtain ⟨v,hr,hv'⟩:=qf7 (w:=w) (Γ:=Γ) (bs:=bs) (b:=b) (off:=off) (vals:=fun _ => undef) hp (by simp) (by simp)
   exact ⟨v,by simp [Instr.loadAt,Instr.sureAddr,hr],hv'⟩
  | eptr cs b off n vals hg hn hc hv =>
   obtain ⟨v,hr,hv'⟩:=qf7 hp hc hv
   exact ⟨v,by simp [Instr.loadAt,Instr.sureAddr,hr],hv'⟩
 ·rename_i i off
  split at hp
  ·rename_i cs own hB
   cases hx with
   | bptr i off b hi =>
    obtain ⟨c,t',h1,h2,h3,h4⟩:=h.box_cells hi hB
    have hval:∀ (k:Nat) q,(cs.drop off)[k]? = some q→w.cell? ⟨b,off + k,none⟩ = some (c.getD (off + k) undef)∧VR Γ bs w q (c.getD (off + k) undef):=by
     intro k q hq
     rw [List.getElem?_drop] at hq
     have hlt:off + k < c.size:=Nat.lt_of_lt_of_le (qae hq) h2
     have hc:c[off + k]? = some (c.getD (off + k) undef):=by simp [Array.getD_eq_getD_getElem?,hlt]
     exact ⟨(h4 _).trans hc,h3 _ _ _ hq hc⟩
    obtain ⟨v,hr,hv'⟩:=qf7 hp (vals:=fun k => c.getD (off + k) undef) (fun k q hq => (hval k q hq).1) (fun k q hq => (hval k q hq).2)
    exact ⟨v,by simp [Instr.loadAt,Instr.sureAddr,hr],hv'⟩
  ·cases hp
 ·cases hp
theorem qfJ {α:Type} {cs vs:List α} {off:Nat} (h:off + vs.length ≤ cs.length) (j:Nat) :
  (cs.take off ++ vs ++ cs.drop (off + vs.length))[j]? = if j < off then cs[j]? else if j < off + vs.length then vs[j - off]? else cs[j]?:=by
 have hlen:(cs.take off).length = off:=by simp; omega
 by_cases h1:j < off
 ·rw [List.append_assoc,List.getElem?_append_left (by omega),List.getElem?_take_of_lt h1,if_pos h1]
 ·rw [if_neg h1]
  by_cases h2:j < off + vs.length
  ·rw [if_pos h2,List.getElem?_append_left (by simp; omega),List.getElem?_append_right (by omega),hlen]
  ·rw [if_neg h2,List.getElem?_append_right (by simp; omega),List.getElem?_drop]
   congr 1
   simp
   omega
theorem qm8 (w:World) (g:Nat) (cur cs:Array Value) (t:TypeId) (fr:Nat×Nat) (h:w.heap[g]? = some (.cells cur t fr)):(w.setRow g cs).heap[g]? = some (.cells cs t fr):=setRow_heap w g cur cs t fr h
theorem qqy (h:SR P E Γ bs ow w a st) {t:TypeId} {x v:PVal} {vx vv:Value} {H:List PBox} (hx:VR Γ bs w x vx) (hv:VR Γ bs w v vv) (hp:qc4 P t x v st.boxes = some H) :
  ∃ w',(Instr.storeAt t vx vv).run P w = .ok () w'∧SR P E Γ bs ow w' a { st with boxes:=H }∧Γ.Le w Γ w' ∧
   ∀ i off b,x = .bptr i off→bs[i]? = some (some b)→(∀ (j:Nat) u,vv.cells[j]? = some u→w'.cell? ⟨b,off + j,none⟩ = some u)∧∀ b',b' ≠ b→w'.heap[b']? = w.heap[b']?:=by
 unfold qc4 at hp
 split at hp
 ·rename_i i off vs hvs
  split at hp
  ·rename_i cs own hB
   split at hp
   ·rename_i hc
    obtain ⟨h1,hinf,h2,h3⟩:=hc
    obtain ⟨inf,hinf⟩:=Option.isSome_iff_exists.1 hinf
    cases hp
    cases hx with
    | bptr i off b hi =>
     obtain ⟨c,t',e1,e2,e3,e4⟩:=h.box_cells hi hB
     obtain ⟨k1,k2⟩:=hv.cells hvs
     have hone:∀ u ∈ vv.cells.toList,u.oneCell' = true:=by
      intro u hu
      obtain ⟨j,hj⟩:=List.mem_iff_getElem?.1 hu
      have hj':vv.cells[j]? = some u:=by simpa using hj
      have hlt:j < vs.length:=by rw [← k1]; exact (Array.getElem?_eq_some_iff.1 hj').1
      exact VR.one (k2 j _ u (List.getElem?_eq_getElem hlt) hj') (List.all_eq_true.1 h3 _ (List.getElem_mem hlt))
     have hst:=run_storeCells_at P b off t' vv.cells.toList 0 c w e1 (by simp; omega) hone
     simp only [Nat.add_zero,Array.length_toList] at hst
     have hsz:vv.cells.size = P.cellsOf t:=by omega
     refine ⟨w.setRow b (c.toList.take off ++ vv.cells.toList ++ c.toList.drop (off + vv.cells.size)).toArray,?_,?_,?_,?_⟩
     ·simp [Instr.storeAt,Instr.sureAddr,storeVar,run_sizeOf w hinf,hsz,hst]
     ·have hheap:=qm8 w b c (c.toList.take off ++ vv.cells.toList ++ c.toList.drop (off + vv.cells.size)).toArray t' (0,0) e1
      refine h.box_write hi rfl rfl rfl (by simp) (fun b' hb' => setRow_other w b b' _ hb') ?_ (fun b' L hL _ => hL) h.on ?_
      ·refine ⟨_,t',hheap,?_,fun j p u hp hu => ?_⟩
       ·simp only [List.size_toArray,List.length_append,List.length_take,List.length_drop,Array.length_toList]; omega
       ·have hu':(c.toList.take off ++ vv.cells.toList ++ c.toList.drop (off + vv.cells.toList.length))[j]? = some u:=by simpa using hu
        rw [qfJ h2] at hp
        rw [qfJ (by simp; omega)] at hu'
        have hmono:∀ {q u},VR Γ bs w q u→VR Γ bs (w.setRow b (c.toList.take off ++ vv.cells.toList ++ c.toList.drop (off + vv.cells.size)).toArray) q u:=fun hq =>
         hq.mono (fun b' m hb' _ => ⟨m,hb',Nat.le_refl _,fun o _ => qaX (setRow_other w b b' _ (fun e => by subst e; have:=(h.bx i b' _ hi hB).1; rw [this] at hb'; cases hb')) o⟩) (.refl _)
        by_cases hj:j < off
        ·rw [if_pos hj] at hp hu'
         exact hmono (e3 j p u hp (by simpa using hu'))
        ·rw [if_neg hj] at hp hu'
         by_cases hj2:j < off + vs.length
         ·rw [if_pos hj2] at hp
          rw [if_pos (by simp; omega)] at hu'
          exact hmono (k2 _ p u hp (by simpa using hu'))
         ·rw [if_neg hj2] at hp
          rw [if_neg (by simp; omega)] at hu'
          exact hmono (e3 j p u hp (by simpa using hu'))
      ·intro cs' own' heq j e hj
       cases heq
       obtain ⟨hj,hj2⟩:=qa7 hj
       simp only [Bool.or_eq_true,decide_eq_true_eq] at hj2
       obtain ⟨v',r1,r2,r3⟩:=h.ob i j e cs own b hB hj hi
       refine ⟨v',?_,r2.same fun b' hb' => ⟨setRow_other w b b' _ (fun e => ?_),rfl⟩,r3⟩
       ·rw [cell_of_row _ b j _ t' _ hheap]
        have:=qfJ (cs:=c.toList) (vs:=vv.cells.toList) (off:=off) (by simp; omega) j
        simp only [Array.length_toList] at this
        simp only [List.getElem?_toArray]
        rw [this]
        rw [e4] at r1
        split
        ·simpa using r1
        ·rw [if_neg (by omega)]; simpa using r1
       ·subst e
        obtain ⟨n,xs,o1,o2⟩:=r2
        have:=(h.bx i b' _ hi hB).1
        rw [o2 b' hb'] at this; cases this
     ·exact fun b' m hb' _ => ⟨m,hb',Nat.le_refl _,fun o _ => qaX (setRow_other w b b' _ (fun e => by subst e; have:=(h.bx i b' _ hi hB).1; rw [this] at hb'; cases hb')) o⟩
     ·intro i2 off2 b2 hx2 hb2
      cases hx2
      have hbb:b2 = b:=by rw [hi] at hb2; cases hb2; rfl
      subst hbb
      have hheap:=qm8 w b2 c (c.toList.take off ++ vv.cells.toList ++ c.toList.drop (off + vv.cells.size)).toArray t' (0,0) e1
      refine ⟨fun j u hu => ?_,fun b' hb' => setRow_other w b2 b' _ hb'⟩
      have hj:j < vv.cells.size:=(Array.getElem?_eq_some_iff.1 hu).1
      rw [cell_of_row _ b2 (off + j) _ t' _ hheap]
      have:=qfJ (cs:=c.toList) (vs:=vv.cells.toList) (off:=off) (by simp; omega) (off + j)
      simp only [Array.length_toList] at this
      simp only [List.getElem?_toArray]
      rw [this,if_neg (by omega),if_pos (by omega),show off + j - off = j by omega]
      simpa using hu
   ·cases hp
  ·cases hp
 ·cases hp
theorem qxb (h:SR P E Γ bs ow w a st) {t:TypeId} {x v:PVal} {vx vv:Value} {H:List PBox} (hx:VR Γ bs w x vx) (hv:VR Γ bs w v vv) (hp:qc4 P t x v st.boxes = some H) :
  ∃ w',(Instr.storeAt t vx vv).run P w = .ok () w'∧SR P E Γ bs ow w' a { st with boxes:=H }∧Γ.Le w Γ w':=by
 obtain ⟨w',r1,r2,r3,_⟩:=qqy h hx hv hp
 exact ⟨w',r1,r2,r3⟩
end
def qAU (place:Nat→Option (Nat×Nat)) (cells:List PVal):List (Nat×PVal)→Option (List PVal)
 | [] => some cells
 | (i,v) :: rest =>
  match place i,qaJ v with
  | some (off,size),some vs => if vs.length = size∧off + vs.length ≤ cells.length then qAU place (cells.take off ++ vs ++ cells.drop (off + vs.length)) rest else none
  | _,_ => none
def qbL (P:Program) (t:TypeId) (parts:List (Nat×PVal)):Option PVal :=
 match P.underlying t,qh0 P t with
 | some (.struct fs),some zs => if fs.all (fun f => (P.info? f.type).isSome) then (qAU (fun i => (fs[i]?).map fun f => (f.offset,P.cellsOf f.type)) zs parts).map .agg else none
 | some (.array _ e),some zs => if (P.info? e).isSome then (qAU (fun i => some (i * P.cellsOf e,P.cellsOf e)) zs parts).map .agg else none
 | _,_ => none
def quc (sz:Nat):Nat→List (Nat×PVal)→Option (List (List PVal))
 | _,[] => some []
 | k,(i,v) :: rest =>
  match qaJ v,quc sz (k + 1) rest with
  | some vs,some r => if i = k∧vs.length = sz then some (vs :: r) else none
  | _,_ => none
def qdp (P:Program) (t:TypeId) (len:Nat) (parts:List (Nat×PVal)):Option PVal :=
 match P.underlying t with
 | some (.slice e) => match quc (P.cellsOf e) 0 parts with
  | some es => if es.length = len∧(qh0 P e).isSome∧0 < P.cellsOf e∧len * P.cellsOf e ≤ 16777216∧((qh0 P e).map (·.length)) = some (P.cellsOf e) then some (.slice es) else none
  | none => none
 | _ => none
def plen (P:Program) (t:TypeId) (x:PVal) (H:List PBox):Option PVal :=
 match P.underlying t,x with
 | some .string,.str s => some (.int .i64 s.length)
 | some (.slice _),.slice es => some (.int .i64 es.length)
 | some (.slice _),.bsl _ _ n => some (.int .i64 n)
 | some (.array n _),_ => some (.int .i64 n)
 | some (.map _ _),.mapr i => match H[i]? with
  | some (.map es) => some (.int .i64 es.length)
  | _ => none
 | _,_ => none
def qGa:PVal→PVal→Option PVal
 | .int k x,.int _ y => some (.int k (if y > x then y else x))
 | _,_ => none
def qF2:PVal→PVal→Option PVal
 | .int k x,.int _ y => some (.int k (if y < x then y else x))
 | _,_ => none
def qzP (f:PVal→PVal→Option PVal):PVal→List PVal→Option PVal
 | x,[] => some x
 | x,y :: r => match f x y with
  | some z => qzP f z r
  | none => none
section
variable {P:Program} {E:Ent} {Γ:qaP} {bs:qbj} {ow:Nat→Option Loc} {w:World} {a:Array Value} {st:PSt}
theorem qio {t:TypeId} {zs:List PVal} (h:qh0 P t = some zs):∃ z,(zeroValue t).run P w = .ok z w∧zs = z.cells.toList.map absC∧(∃ i,P.info? t = some i∧i.zero = some z):=by
 unfold qh0 at h
 simp only [Option.map_eq_some_iff,Option.bind_eq_some_iff] at h
 obtain ⟨z,⟨i,hi,hz⟩,rfl⟩:=h
 exact ⟨z,by simp [zeroValue,run_typeInfo w hi,hz],rfl,i,hi,hz⟩
theorem qA9 {z:Value} (j:Nat) (p:PVal) (v:Value) (hp:(z.cells.toList.map absC)[j]? = some p) (hv:z.cells[j]? = some v):VR Γ bs w p v:=by
 simp only [List.getElem?_map,Array.getElem?_toList,hv,Option.map_some,Option.some.injEq] at hp
 subst hp; exact .absC v
theorem qCK (h:SR P E Γ bs ow w a st) {t:TypeId} {id:Nat} {zs:List PVal} (hid:bs[id]? = some none) (hz:qh0 P t = some zs) :
  ∃ v w',(Instr.alloc t true (.tuple #[])).run P w = .ok v w'∧SR P E Γ (bs.set id (some w.heap.size)) ow w' a { st with boxes:=st.boxes.set id (.cells zs (qEI P t)) } ∧
   VR Γ (bs.set id (some w.heap.size)) w' (.bptr id 0) v∧bs.Sub (bs.set id (some w.heap.size))∧Γ.Le w Γ w':=by
 obtain ⟨z,hr,rfl,i,hi,hz⟩:=qio (w:=w) hz
 refine ⟨.pointer (some ⟨w.heap.size,0,none⟩),w.alloc (.cells z.cells t),?_,?_,.bptr _ _ _ (List.getElem?_set_self (qae hid)),fun i b hb => qrL hid hb,
  fun b m hb _ => ⟨m,hb,Nat.le_refl _,fun o' _ => qaX (qcJ w _ (h.lt_of_ghost hb)) o'⟩⟩
 ·simp [Instr.alloc,hr,newVar,newRow]
 ·refine h.alloc_box hid _ _ (fun bs' _ => ⟨z.cells,t,qeH w _,by simp,fun j p v hp hv => qA9 j p v hp hv⟩) fun cs own heq j e hj => ?_
  cases heq
  unfold qEI at hj
  split at hj
  ·rename_i z' ts hz' hts
   have:z' = z:=by simp [hi,hz] at hz'; exact hz'.symm
   subst this
   simp only [List.mem_filterMap,List.mem_range] at hj
   obtain ⟨j',hj',hj''⟩:=hj
   split at hj''
   ·rename_i v' e' hv' he'
    split at hj''
    ·rename_i hn
     cases hj''
     have:v' = .slice none 0 0:=by
      unfold qgO at hn
      split at hn
      ·rfl
      ·cases hn
     subst this
     refine ⟨_,?_,rfl,0,[],World.ownsRow_nil _ _ _ _,fun b hb => by simp [Value.ownBlock] at hb⟩
     rw [cell_of_row _ _ _ _ t _ (qeH w _)]
     exact hv'
    ·cases hj''
   ·cases hj''
  ·cases hj
theorem qF3 (h:SR P E Γ bs ow w a st) {t:TypeId} {id:Nat} {x:PVal} {vx:Value} {cs:List PVal} (hid:bs[id]? = some none) (hx:VR Γ bs w x vx) (hc:qaJ x = some cs) :
  ∃ v w',(Instr.box t vx).run P w = .ok v w'∧SR P E Γ (bs.set id (some w.heap.size)) ow w' a { st with boxes:=st.boxes.set id (.cells cs []) } ∧
   VR Γ (bs.set id (some w.heap.size)) w' (.bptr id 0) v∧bs.Sub (bs.set id (some w.heap.size))∧Γ.Le w Γ w':=by
 obtain ⟨k1,k2⟩:=hx.cells hc
 have hle:∀ o,Γ.Le w Γ (w.alloc o):=fun o b m hb _ => ⟨m,hb,Nat.le_refl _,fun o' _ => qaX (qcJ w _ (h.lt_of_ghost hb)) o'⟩
 refine ⟨.pointer (some ⟨w.heap.size,0,none⟩),w.alloc (.cells vx.cells t),?_,?_,.bptr _ _ _ (List.getElem?_set_self (qae hid)),fun i b hb => qrL hid hb,hle _⟩
 ·simp [Instr.box,newVar,newRow]
 ·exact h.alloc_box hid _ _ (fun bs' hs => ⟨vx.cells,t,qeH w _,Nat.le_of_eq k1.symm,fun j p v hp hv => (k2 j p v hp hv).mono (hle _) hs⟩) fun cs own heq j e hj => by
   cases heq; simp at hj
theorem qzL (h:SR P E Γ bs ow w a st) {t:TypeId} {id:Nat} (hid:bs[id]? = some none) :
  ∃ v w',(Instr.makeMap t none).run P w = .ok v w'∧SR P E Γ (bs.set id (some w.heap.size)) ow w' a { st with boxes:=st.boxes.set id (.map []) } ∧
   VR Γ (bs.set id (some w.heap.size)) w' (.mapr id) v∧bs.Sub (bs.set id (some w.heap.size))∧Γ.Le w Γ w':=by
 have hle:∀ o,Γ.Le w Γ (w.alloc o):=fun o b m hb _ => ⟨m,hb,Nat.le_refl _,fun o' _ => qaX (qcJ w _ (h.lt_of_ghost hb)) o'⟩
 refine ⟨.map (some w.heap.size),w.alloc (.map #[] 0),?_,?_,.mapr _ _ (List.getElem?_set_self (qae hid)),fun i b hb => qrL hid hb,hle _⟩
 ·simp [Instr.makeMap]
 ·exact h.alloc_box hid _ _ (fun bs' hs => ⟨#[],0,qeH w _,rfl,fun j k u x hp _ => by simp at hp⟩) fun cs own heq => by cases heq
theorem qr3 {place place':Nat→Option (Nat×Nat)} (hpl:∀ i x,place i = some x→place' i = some x):∀ (parts:List (Nat×PVal)) (vs:List (Nat×Value)) (cells:List PVal) (cv:Array Value) {out:List PVal},
  parts.length = vs.length→(∀ (j:Nat) p v,parts[j]? = some p→vs[j]? = some v→p.1 = v.1∧VR Γ bs w p.2 v.2) →
  cv.size = cells.length→(∀ (j:Nat) p v,cells[j]? = some p→cv[j]? = some v→VR Γ bs w p v)→qAU place cells parts = some out →
  ∃ ov,Instr.fill place' cv vs = some ov∧ov.size = out.length∧∀ (j:Nat) p v,out[j]? = some p→ov[j]? = some v→VR Γ bs w p v
 | [],[],cells,cv,out,_,_,hs,hc,ho => by
  simp only [qAU,Option.some.injEq] at ho
  subst ho
  exact ⟨cv,rfl,hs,hc⟩
 | [],_ :: _,_,_,_,hl,_,_,_,_ => by simp at hl
 | _ :: _,[],_,_,_,hl,_,_,_,_ => by simp at hl
 | (i,p) :: rest,(i',v) :: vs,cells,cv,out,hl,hv,hs,hc,ho => by
  obtain ⟨rfl,hpv⟩:=hv 0 (i,p) (i',v) rfl rfl
  simp only [qAU] at ho
  split at ho
  ·rename_i off size ps hpi hps
   split at ho
   ·rename_i hh
    obtain ⟨h1,h2⟩:=hh
    obtain ⟨k1,k2⟩:=VR.cells hpv hps
    replace k1:v.cells.size = ps.length:=k1
    have hfold:∀ (l:List Value) (k:Nat) (cv:Array Value),off + k + l.length ≤ cv.size →
      ((l.zipIdx k).foldl (fun cs (c,j) => cs.setIfInBounds (off + j) c) cv).toList = cv.toList.take (off + k) ++ l ++ cv.toList.drop (off + k + l.length):=by
     intro l
     induction l with
     | nil => intro k cv _; simp
     | cons u l ih =>
      intro k cv hle
      simp only [List.zipIdx_cons,List.foldl_cons]
      simp only [List.length_cons] at hle
      rw [ih (k + 1) _ (by simp; omega)]
      apply List.ext_getElem?
      intro j
      rw [show off + (k + 1) = off + k + 1 from by omega]
      have e1:=qfJ (cs:=(cv.setIfInBounds (off + k) u).toList) (vs:=l) (off:=off + k + 1) (by simp; omega) j
      have e2:=qfJ (cs:=cv.toList) (vs:=u :: l) (off:=off + k) (by simp; omega) j
      simp only [List.length_cons] at e2 ⊢
      rw [e1,e2]
      simp only [Array.toList_setIfInBounds,List.getElem?_set]
      by_cases c1:j < off + k
      ·rw [if_pos (by omega),if_pos c1,if_neg (by omega)]
      ·by_cases c2:j = off + k
       ·subst c2
        have a1:off + k < off + k + 1:=by omega
        have a2:¬ off + k < off + k:=by omega
        have a3:off + k < off + k + (l.length + 1):=by omega
        have a4:off + k < cv.size:=by omega
        simp [a1,a3,a4]
       ·rw [if_neg (by omega),if_neg c1]
        by_cases c3:j < off + k + 1 + l.length
        ·rw [if_pos c3,if_pos (by omega),show j - (off + k) = (j - (off + k + 1)) + 1 from by omega]; simp
        ·rw [if_neg c3,if_neg (by omega),if_neg (by omega)]
    have hcl:v.cells.toList.length = ps.length:=by simpa using k1
    have hsize:(v.cells.zipIdx.foldl (fun cs (c,j) => cs.setIfInBounds (off + j) c) cv).size = (cells.take off ++ ps ++ cells.drop (off + ps.length)).length:=by
     have:=hfold v.cells.toList 0 cv (by simp; omega)
     have h3:=congrArg List.length this
     rw [← Array.foldl_toList]
     simp only [Array.toList_zipIdx]
     simp only [Array.length_toList] at h3
     rw [h3]
     simp
     omega
    have hcell:∀ (j:Nat) q u,(cells.take off ++ ps ++ cells.drop (off + ps.length))[j]? = some q →
      (v.cells.zipIdx.foldl (fun cs (c,j) => cs.setIfInBounds (off + j) c) cv)[j]? = some u→VR Γ bs w q u:=by
     intro j q u hq hu
     have:=hfold v.cells.toList 0 cv (by simp; omega)
     rw [← Array.foldl_toList] at hu
     simp only [Array.toList_zipIdx] at hu
     rw [← Array.getElem?_toList,this] at hu
     simp only [Nat.add_zero] at hu
     rw [qfJ (by simp; omega)] at hu
     rw [qfJ h2] at hq
     simp only [hcl] at hu
     by_cases c1:j < off
     ·rw [if_pos c1] at hq hu; exact hc j q u hq (by simpa using hu)
     ·rw [if_neg c1] at hq hu
      by_cases c2:j < off + ps.length
      ·rw [if_pos c2] at hq hu; exact k2 _ q u hq (by simpa using hu)
      ·rw [if_neg c2] at hq hu; exact hc j q u hq (by simpa using hu)
    obtain ⟨ov,r1,r2,r3⟩:=qr3 hpl rest vs _ _ (by simpa using hl) (fun j p v hp hv' => hv (j + 1) p v (by simpa using hp) (by simpa using hv')) hsize hcell ho
    refine ⟨ov,?_,r2,r3⟩
    simp only [Instr.fill,hpl _ _ hpi]
    rw [if_neg (by simp; omega)]
    exact r1
   ·cases ho
  ·cases ho
end
end Go.Proofs.YtgldgpdhblndkaaGreatDoor
