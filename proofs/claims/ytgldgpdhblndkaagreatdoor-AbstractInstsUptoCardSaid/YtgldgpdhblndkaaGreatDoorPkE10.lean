/- WHAT IS PROVED: parts of the proof, put together by a program (AbsR1). Conditions: none. -/
import Derived.Test.YtgldgpdhblndkaaGreatDoorPkE8
import Derived.Below
noncomputable section
namespace Go.Proofs.YtgldgpdhblndkaaGreatDoor
open Go
section
variable {P:Program} {E:Ent} {Γ:qaP} {bs:qbj} {ow:Nat→Option Loc} {w:World} {a:Array Value} {st:PSt}
theorem BR.demote {Γ':qaP} {B:PBox} {b:Nat} (h:BR Γ bs w B b) (hg:∀ b n,Γ b = some n→0 < n→Γ' b = some n):BR Γ' bs w B b:=by
 cases B with
 | cells cs own =>
  obtain ⟨c,t,h1,h2,h3⟩:=h
  exact ⟨c,t,h1,h2,fun j p v hp hv => (h3 j p v hp hv).demote hg⟩
 | map es =>
  obtain ⟨c,t,h1,h2,h3⟩:=h
  exact ⟨c,t,h1,h2,fun j k u x hp hv => ⟨(h3 j k u x hp hv).1.demote hg,(h3 j k u x hp hv).2.demote hg⟩⟩
 | dead => trivial
def qaP.cut (Γ:qaP) (g:Nat):qaP:=fun b => if b = g then none else Γ b
theorem qaP.cut_same (Γ:qaP) (g:Nat):Γ.cut g g = none:=by simp [qaP.cut]
theorem qaP.cut_other (Γ:qaP) {g b:Nat} (h:b ≠ g):Γ.cut g b = Γ b:=by simp [qaP.cut,h]
theorem SR.demote (h:SR P E Γ bs ow w a st) {g:Nat} (hg:Γ g = some 0) (how:ow g = none) (hT:E.T g∨E.w.heap.size ≤ g):SR P E (Γ.cut g) bs ow w a st:=by
 have hd:∀ b n,Γ b = some n→0 < n→Γ.cut g b = some n:=fun b n hb hn => by
  rw [Γ.cut_other]
  ·exact hb
  ·intro e; subst e; rw [hg] at hb; cases hb; omega
 have hown:∀ {v:Value} {e:TypeId} {L:Loc},qhY P Γ w v e→(∀ b,v.ownBlock = some b→ow b = some L)→qhY P (Γ.cut g) w v e:=fun ho hL =>
  ho.same fun b hb => ⟨rfl,Γ.cut_other fun e => by subst e; have:=hL b hb; rw [how] at this; cases this⟩
 exact { h with
  wi:=fun b n hb => by
   by_cases e:b = g
   ·subst e; rw [Γ.cut_same] at hb; cases hb
   ·rw [Γ.cut_other e] at hb; exact h.wi b n hb
  tm:=fun t p v hp hv => (h.tm t p v hp hv).demote hd
  bx:=fun i b B hb hB => by
   obtain ⟨h1,h2,h3⟩:=h.bx i b B hb hB
   refine ⟨?_,h2,h3.demote hd⟩
   by_cases e:b = g
   ·subst e; exact Γ.cut_same _
   ·rw [Γ.cut_other e]; exact h1
  ot:=fun t k e he => by
   obtain ⟨u,v,h1,h2,h3,h4⟩:=h.ot t k e he
   exact ⟨u,v,h1,h2,hown h3 h4,h4⟩
  ob:=fun i j e cs own b hB hj hb => by
   obtain ⟨v,h1,h2,h3⟩:=h.ob i j e cs own b hB hj hb
   exact ⟨v,h1,hown h2 h3,h3⟩
  gl:=fun x cs hx => (h.gl x cs hx).demote hd
  step:={ h.step with
   keep:=fun b hb hb2 => by
    obtain ⟨k1,k2⟩:=h.step.keep b hb hb2
    refine ⟨k1,?_⟩
    rw [Γ.cut_other]
    ·exact k2
    ·intro e; subst e; rcases hT with hT | hT
     ·exact hb2 hT
     ·omega
   le:=fun b n hb hn => by
    obtain ⟨n',k1,k2,k3⟩:=h.step.le b n hb hn
    exact ⟨n',hd b n' k1 (by omega),k2,k3⟩ } }
theorem app1 {α:Type} {l:List α} {x y:α} {i:Nat} (h:(l ++ [x])[i]? = some y):l[i]? = some y∨(i = l.length∧x = y):=by
 by_cases hi:i < l.length
 ·rw [List.getElem?_append_left hi] at h; exact .inl h
 ·rw [List.getElem?_append_right (by omega)] at h
  by_cases h0:i - l.length = 0
  ·rw [h0] at h; simp at h; exact .inr ⟨by omega,h⟩
  ·rw [List.getElem?_eq_none (by simp; omega)] at h; cases h
theorem qHh (bs:qbj) (x:Option Nat):bs.Sub (bs ++ [x]):=fun i b hb => by rw [List.getElem?_append_left (qae hb)]; exact hb
theorem SR.addBox (h:SR P E Γ bs ow w a st) (xb:Option Nat) {cs:List PVal}
  (hx:∀ b,xb = some b→(∃ cur t,w.heap[b]? = some (.cells cur t (0,0))∧cs.length ≤ cur.size∧∀ (j:Nat) p v,cs[j]? = some p→cur[j]? = some v→VR Γ bs w p v)∧Γ b = none∧(E.T b∨E.w.heap.size ≤ b)∧∀ i:Nat,bs[i]? ≠ some (some b)) :
  SR P E Γ (bs ++ [xb]) ow w a { st with boxes:=st.boxes ++ [.cells cs []] }:=by
 have hs:=qHh bs xb
 exact { h with
  tm:=fun t p v hp hv => (h.tm t p v hp hv).mono (.refl _ _) hs
  bl:=by simp [h.bl]
  bx:=fun i b B hb hB => by
   rcases app1 hb with hb' | ⟨rfl,hb'⟩
   ·rw [List.getElem?_append_left (by rw [← h.bl]; exact qae hb')] at hB
    obtain ⟨h1,h2,h3⟩:=h.bx i b B hb' hB
    exact ⟨h1,h2,h3.mono (.refl _ _) hs rfl⟩
   ·obtain ⟨⟨cur,t,k1,k2,k3⟩,k4,k5,k6⟩:=hx b hb'
    rw [h.bl,List.getElem?_append_right (Nat.le_refl _),Nat.sub_self] at hB
    cases hB
    exact ⟨k4,(Array.getElem?_eq_some_iff.1 k1).1,cur,t,k1,k2,fun j p v hp hv => (k3 j p v hp hv).mono (.refl _ _) hs⟩
  inj:=fun i j b hi hj => by
   rcases app1 hi with hi' | ⟨rfl,hi'⟩ <;> rcases app1 hj with hj' | ⟨rfl,hj'⟩
   ·exact h.inj i j b hi' hj'
   ·exact absurd hi' ((hx b hj').2.2.2 i)
   ·exact absurd hj' ((hx b hi').2.2.2 j)
   ·rfl
  bn:=fun i b hb => by
   rcases app1 hb with hb' | ⟨rfl,hb'⟩
   ·exact h.bn i b hb'
   ·exact (hx b hb').2.2.1
  ob:=fun i j e cs' own b hB hj hb => by
   rcases app1 hb with hb' | ⟨rfl,hb'⟩
   ·rw [List.getElem?_append_left (by rw [← h.bl]; exact qae hb')] at hB
    exact h.ob i j e cs' own b hB hj hb'
   ·rw [h.bl,List.getElem?_append_right (Nat.le_refl _),Nat.sub_self] at hB
    cases hB
    simp at hj
  gl:=fun g cs hg => (h.gl g cs hg).mono (.refl _ _) hs }
theorem qyF {ns:List (List PVal)} {x:Value} {sz:Nat} (hx:VR Γ bs w (.slice ns) x) (hsz0:0 < sz) (hns1:∀ x ∈ ns,x.length = sz∧∀ q ∈ x,q.one = true) :
  ∃ news:List Value,((x = .slice none 0 0∧ns.length = 0)∨∃ a c,x = .slice (some a) ns.length c∧∀ (j:Nat) u,news[j]? = some u→w.cell? (a.add j) = some u) ∧
   news.length = ns.length * sz∧(∀ u ∈ news,u.oneCell' = true) ∧
   ∀ (i:Nat) x (k:Nat) q,ns[i]? = some x→x[k]? = some q→∃ u,news[i * sz + k]? = some u∧VR Γ bs w q u:=by
 have hnsz:∀ (i:Nat) x,ns[i]? = some x→x.length = sz:=fun i x hx => (hns1 x (List.mem_of_getElem? hx)).1
 cases hx with
 | sliceNil => exact ⟨[],.inl ⟨rfl,rfl⟩,by simp,by simp,by simp⟩
 | sliceE a cap => exact ⟨[],.inr ⟨a,cap,rfl,by simp⟩,by simp,by simp,by simp⟩
 | slice ns b off cap n' sz' vals hz0 hcap hgg hn hsz hc hvv =>
  have hcell:∀ (i:Nat) x (k:Nat) q,ns[i]? = some x→x[k]? = some q→w.cell? ⟨b,off + (i * sz + k),none⟩ = some (vals i k):=by
   intro i x k q hx hq
   have hsz':sz' = sz:=by rw [← hsz i x hx]; exact hnsz i x hx
   subst hsz'
   rw [← Nat.add_assoc]; exact hc i x k q hx hq
  have hpos:∀ o,o < ns.length * sz→∃ x q,ns[o / sz]? = some x∧x[o % sz]? = some q∧o = o / sz * sz + o % sz:=by
   intro o ho
   obtain ⟨m1,m2⟩:=qvt (q:=o) hsz0
   have hlt:o / sz < ns.length:=(Nat.div_lt_iff_lt_mul hsz0).2 ho
   have hxl:=hnsz _ _ (List.getElem?_eq_getElem hlt)
   exact ⟨_,_,List.getElem?_eq_getElem hlt,List.getElem?_eq_getElem (by rw [hxl]; exact m2),m1⟩
  refine ⟨(List.range (ns.length * sz)).map fun o => vals (o / sz) (o % sz),.inr ⟨⟨b,off,none⟩,cap,rfl,fun j u hu => ?_⟩,by simp,fun u hu => ?_,fun i x k q hx hq => ⟨vals i k,?_,hvv i x k q hx hq⟩⟩
  ·rw [List.getElem?_map] at hu
   have hj:j < ns.length * sz:=by
    by_cases hj:j < ns.length * sz
    ·exact hj
    ·rw [List.getElem?_eq_none (by simp; omega)] at hu; cases hu
   rw [List.getElem?_range hj] at hu
   simp only [Option.map_some,Option.some.injEq] at hu
   subst hu
   obtain ⟨x,q,k1,k2,k3⟩:=hpos j hj
   have:=hcell _ _ _ _ k1 k2
   rw [← k3] at this
   rw [Addr.add_lit]; exact this
  ·simp only [List.mem_map,List.mem_range] at hu
   obtain ⟨o,ho,rfl⟩:=hu
   obtain ⟨x,q,k1,k2,k3⟩:=hpos o ho
   exact VR.one (hvv _ _ _ _ k1 k2) ((hns1 x (List.mem_of_getElem? k1)).2 q (List.mem_of_getElem? k2))
  ·have hk:k < sz:=by have:=qae hq; rw [hnsz i x hx] at this; exact this
   have hlt:=qCa (qae hx) hk
   rw [List.getElem?_map,List.getElem?_range hlt]
   simp only [Option.map_some,Option.some.injEq]
   rw [Nat.mul_comm i,Nat.mul_add_div hsz0,Nat.div_eq_of_lt hk,Nat.mul_add_mod,Nat.mod_eq_of_lt hk,Nat.add_zero]
theorem qxP {sz:Nat} (hsz:0 < sz):∀ {ns:List (List PVal)},(∀ x ∈ ns,x.length = sz)→∀ {j:Nat} {p:PVal},ns.flatten[j]? = some p→∃ x,ns[j / sz]? = some x∧x[j % sz]? = some p
 | [],_,j,p,h => by simp at h
 | x :: ns,hl,j,p,h => by
  have hx:=hl x (by simp)
  rw [List.flatten_cons] at h
  by_cases hj:j < sz
  ·rw [List.getElem?_append_left (by omega)] at h
   rw [Nat.div_eq_of_lt hj,Nat.mod_eq_of_lt hj]
   exact ⟨x,rfl,h⟩
  ·rw [List.getElem?_append_right (by omega),hx] at h
   obtain ⟨y,h1,h2⟩:=qxP hsz (fun z hz => hl z (by simp [hz])) h
   have e1:j / sz = (j - sz) / sz + 1:=by
    conv => lhs; rw [show j = (j - sz) + sz by omega]
    rw [Nat.add_div_right _ hsz]
   have e2:j % sz = (j - sz) % sz:=by
    conv => lhs; rw [show j = (j - sz) + sz by omega]
    rw [Nat.add_mod_right]
   rw [e1,e2]
   exact ⟨y,by simpa using h1,h2⟩
theorem flat_len {sz:Nat}:∀ {ns:List (List PVal)},(∀ x ∈ ns,x.length = sz)→ns.flatten.length = ns.length * sz
 | [],_ => by simp
 | x :: ns,hl => by
  rw [List.flatten_cons,List.length_append,hl x (by simp),flat_len (fun z hz => hl z (by simp [hz])),List.length_cons,Nat.add_mul,Nat.one_mul,Nat.add_comm]
theorem qsr {ns:List (List PVal)} {sz:Nat} (hsz0:0 < sz) (hl:∀ x ∈ ns,x.length = sz) {cur:Array Value} (hc:∀ (i:Nat) x (k:Nat) q,ns[i]? = some x→x[k]? = some q→∃ u,cur[i * sz + k]? = some u∧VR Γ bs w q u) :
  ns.flatten.length ≤ cur.size∧∀ (j:Nat) p v,ns.flatten[j]? = some p→cur[j]? = some v→VR Γ bs w p v:=by
 have key:∀ (j:Nat) p,ns.flatten[j]? = some p→∃ u,cur[j]? = some u∧VR Γ bs w p u:=by
  intro j p hp
  obtain ⟨x,h1,h2⟩:=qxP hsz0 hl hp
  have:=hc _ _ _ _ h1 h2
  rwa [← (qvt (q:=j) hsz0).1] at this
 refine ⟨?_,fun j p v hp hv => ?_⟩
 ·by_cases h0:ns.flatten.length = 0
  ·omega
  ·obtain ⟨u,hu,_⟩:=key (ns.flatten.length - 1) _ (List.getElem?_eq_getElem (by omega))
   have:=(Array.getElem?_eq_some_iff.1 hu).1
   omega
 ·obtain ⟨u,hu,hv'⟩:=key j p hp
  rw [hu] at hv; cases hv; exact hv'
theorem qy6 (h:SR P E Γ bs ow w a st) {t ty e:TypeId} {ns:List (List PVal)} {p:PVal} {v x:Value} (ht:P.underlying t = some (.slice e)) (hv:VR Γ bs w (.slice []) v) (hx:VR Γ bs w (.slice ns) x)
  (ho:qhY P Γ w v e) (hfree:∀ b,v.ownBlock = some b→ow b = none∧(E.T b∨E.w.heap.size ≤ b)) (hp:qhU P t [] ns = some p) :
  ∃ v' w' Γ' xb,(Builtin.append_ #[t,t] ty #[v,x]).run P w = .ok v' w'∧SR P E Γ' (bs ++ [xb]) ow w' a { st with boxes:=st.boxes ++ [.cells ns.flatten []] }∧VR Γ' (bs ++ [xb]) w' (.bsl st.boxes.length 0 ns.length) v':=by
 unfold qhU at hp
 rw [ht] at hp
 simp only at hp
 split at hp
 case isFalse => cases hp
 rename_i hh
 obtain ⟨hlen,hby,hsz0,hzl,_,hns1⟩:=hh
 cases hp
 have hz:∃ zs,qh0 P e = some zs∧zs.length = P.cellsOf e:=by simpa using hzl
 obtain ⟨zs,hz,hzl⟩:=hz
 obtain ⟨z,hr,rfl,i,hi,hz'⟩:=qio (w:=w) hz
 have hisz:i.size = P.cellsOf e:=by simp [Program.cellsOf,hi]
 have hiby:i.bytes = P.bytesOf e:=by simp [Program.bytesOf,hi]
 obtain ⟨n,xs,hown,hgh⟩:=ho
 have hn0:n = 0:=by
  rcases hown.2 with ⟨rfl,rfl⟩ | ⟨g,cap,cur,rfl,_⟩
  ·rfl
  ·cases hv with
   | sliceE a cap => rfl
   | slice es b off cap n' sz vals => rfl
 subst hn0
 have hxs:xs = []:=List.eq_nil_of_length_eq_zero (by rw [hown.1]; simp)
 subst hxs
 simp only [List.length_nil,Nat.zero_add] at hlen
 have hmax:0 + ns.length ≤ maxLen:=by unfold maxLen; unfold qdH at hlen; omega
 have hbytes:(0 + ns.length) * i.bytes ≤ 140737488355328:=by
  rw [hiby]
  have:(0 + ns.length) * P.bytesOf e ≤ 1073741824 * 65536:=Nat.mul_le_mul (by unfold qdH at hlen; omega) hby
  omega
 have hnsl:∀ x ∈ ns,x.length = P.cellsOf e:=fun x hx => (hns1 x hx).1
 obtain ⟨Γ0,h0,hx0,hg0⟩:∃ Γ0,SR P E Γ0 bs ow w a st∧VR Γ0 bs w (.slice ns) x∧∀ b,v.ownBlock = some b→Γ0 b = none∧∀ i:Nat,bs[i]? ≠ some (some b):=by
  cases hvb:v.ownBlock with
  | none => exact ⟨Γ,h,hx,fun b hb' => by cases hb'⟩
  | some g =>
   have hgz:Γ g = some 0:=by have:=hgh g hvb; simpa using this
   refine ⟨Γ.cut g,h.demote hgz (hfree g hvb).1 (hfree g hvb).2,hx.demote fun b n hb hn => ?_,fun b hb' => ?_⟩
   ·have hne:b ≠ g:=by intro e; subst e; rw [hgz] at hb; cases hb; omega
    rw [Γ.cut_other hne]
    exact hb
   ·cases hb'
    refine ⟨Γ.cut_same _,fun i hi => ?_⟩
    have:=(h.bx i g (st.boxes[i]'(by rw [← h.bl]; exact qae hi)) hi (by simp)).1
    rw [hgz] at this; cases this
 obtain ⟨news,hnx,hnl,hn1,hnv⟩:=qyF hx0 hsz0 hns1
 obtain ⟨v',w',hrun,hcase⟩:=qtX (ty:=ty) ht hi hz' hisz (by simpa using hzl) hsz0 hown hnx hnl hn1 hmax hbytes
 rcases hcase with ⟨rfl,rfl,hm0⟩ | ⟨g,cap,cur,rfl,hg,hcs,hcm,htake,hroom,rfl,rfl⟩ | ⟨cap,rest,g1,g2,g3,rfl,rfl⟩
 ·have hns0:ns = []:=List.eq_nil_of_length_eq_zero hm0
  subst hns0
  refine ⟨v',w',Γ0,none,hrun,h0.addBox none (fun b hb => by cases hb),?_⟩
  cases hv with
  | sliceNil => exact .bsl _ _ _ _ _ (Nat.le_refl _) (fun _ => rfl) (.inl rfl)
  | sliceE a cap => exact .bsl _ _ _ _ _ (Nat.zero_le _) (fun h => by cases h) (.inl rfl)
  | slice es b off cap n' sz vals => exact .bsl _ _ _ _ _ (Nat.zero_le _) (fun h => by cases h) (.inl rfl)
 ·
  simp only [Nat.zero_mul,List.take_zero,List.nil_append,Nat.zero_add] at hrun hroom ⊢
  obtain ⟨hΓg,hbg⟩:=hg0 g rfl
  have hheap:=qm8 w g cur (news ++ cur.toList.drop news.length).toArray e (0,0) hg
  have hne:∀ {b m},Γ0 b = some m→b ≠ g:=fun hb e => by subst e; rw [hΓg] at hb; cases hb
  have hle:Γ0.Le w Γ0 (w.setRow g (news ++ cur.toList.drop news.length).toArray):=fun b m hb _ => ⟨m,hb,Nat.le_refl _,fun o _ => qaX (setRow_other w g b _ (hne hb)) o⟩
  have hSR:=h0.world (fun b => b = g) hle (fun b m hb => by
   obtain ⟨c,t',fr,k1,k2⟩:=h0.wi b m hb
   exact ⟨c,t',fr,(setRow_other w g b _ (hne hb)).trans k1,k2⟩) rfl rfl rfl (by simp) (fun b _ hbg => ⟨setRow_other w g b _ hbg,rfl⟩) (fun b hb => by subst hb; exact (hfree b rfl).2)
   (fun i b hb hbg' => by subst hbg'; exact hbg i hb) (fun b L hL hbg' => by subst hbg'; rw [(hfree b rfl).1] at hL; cases hL)
  refine ⟨_,_,Γ0,some g,hrun,hSR.addBox (some g) (fun b hb => ?_),?_⟩
  ·cases hb
   refine ⟨⟨_,e,hheap,qsr hsz0 hnsl fun i x k q hx hq => ?_⟩,hΓg,(hfree g rfl).2,hbg⟩
   obtain ⟨u,k1,k2⟩:=hnv i x k q hx hq
   refine ⟨u,?_,k2.mono hle (.refl _)⟩
   simp only [List.getElem?_toArray]
   rw [List.getElem?_append_left (qae k1)]; exact k1
  ·refine .bsl _ _ _ _ _ hroom (fun h => by cases h) (.inr ⟨g,rfl,?_⟩)
   rw [h.bl.symm,List.getElem?_append_right (Nat.le_refl _),Nat.sub_self]; rfl
 ·
  simp only [List.nil_append,Nat.zero_add] at hrun g1 ⊢
  have hfr:∀ m,Γ0 w.heap.size ≠ some m:=fun m hm => absurd (h0.lt_of_ghost hm) (Nat.lt_irrefl _)
  have hle:Γ0.Le w Γ0 (w.drew.alloc (.cells (news ++ rest).toArray e)):=fun b m hb _ => ⟨m,hb,Nat.le_refl _,fun o _ => qaX (qcJ w.drew _ (h0.drew.lt_of_ghost hb)) o⟩
  have hheap:(w.drew.alloc (.cells (news ++ rest).toArray e)).heap[w.heap.size]? = some (.cells (news ++ rest).toArray e (0,0)):=qeH w.drew _
  have hSR:=h0.drew.world (fun _ => False) (Γ':=Γ0) (w':=w.drew.alloc (.cells (news ++ rest).toArray e)) (fun b m hb _ => ⟨m,hb,Nat.le_refl _,fun o _ => qaX (qcJ w.drew _ (h0.drew.lt_of_ghost hb)) o⟩) (fun b m hb => by
   obtain ⟨c',t',fr,k1,k2⟩:=h0.wi b m hb
   exact ⟨c',t',fr,(qcJ w.drew _ (h0.drew.lt_of_ghost hb)).trans k1,k2⟩) rfl rfl rfl (by simp) (fun b hb _ => ⟨qcJ w.drew _ hb,rfl⟩) (fun _ hx => hx.elim) (fun _ _ _ hx => hx) (fun _ _ _ hx => hx)
  refine ⟨_,_,Γ0,some w.heap.size,hrun,hSR.addBox (some w.heap.size) (fun b hb => ?_),?_⟩
  ·cases hb
   refine ⟨⟨_,e,hheap,qsr hsz0 hnsl fun i x k q hx hq => ?_⟩,?_,.inr h.step.size,fun i hi => ?_⟩
   ·obtain ⟨u,k1,k2⟩:=hnv i x k q hx hq
    refine ⟨u,?_,k2.mono hle (.refl _)⟩
    simp only [List.getElem?_toArray]
    rw [List.getElem?_append_left (qae k1)]; exact k1
   ·cases hx':Γ0 w.heap.size with
    | none => rfl
    | some m => exact absurd hx' (hfr m)
   ·have:=(h.bx i _ (st.boxes[i]'(by rw [← h.bl]; exact qae hi)) hi (by simp)).2.1
    omega
  ·refine .bsl _ _ _ _ _ g1 (fun h => by cases h) (.inr ⟨w.heap.size,rfl,?_⟩)
   rw [h.bl.symm,List.getElem?_append_right (Nat.le_refl _),Nat.sub_self]; rfl
def qkh (P:Program) (f:FuncId) (e:TypeId):Prop :=
 (∀ vs w,(callFunc f vs).run P w = .ok (.enter f vs) w) ∧
 ∀ (w:World) (x:Value) (n:Nat) (news:List Value),((x = .slice none 0 0∧n = 0)∨∃ a c,x = .slice (some a) n c∧∀ (j:Nat) u,news[j]? = some u→w.cell? (a.add j) = some u)→news.length = n * P.cellsOf e→(∀ u ∈ news,u.oneCell' = true)→n ≤ qdH →
  Calls P f #[x] w fun r w' => ∃ v',r = .returned v'∧w'.ownsRow w.heap.size e (P.cellsOf e) v' n news∧RowKit.Below w.heap.size w w'
theorem qqM (h:SR P E Γ bs ow w a st) {w':World} (hb:RowKit.Below w.heap.size w w'):Γ.Le w Γ w'∧SR P E Γ bs ow w' a st:=by
 have hle:Γ.Le w Γ w':=fun b m hb' _ => ⟨m,hb',Nat.le_refl _,fun o _ => qaX (hb.block b (h.lt_of_ghost hb')) o⟩
 refine ⟨hle,h.world (fun _ => False) hle (fun b m hb' => ?_) hb.os hb.tape hb.output hb.size (fun b hlt _ => ⟨hb.block b hlt,rfl⟩) (fun _ hx => hx.elim) (fun _ _ _ hx => hx) (fun _ _ _ hx => hx)⟩
 obtain ⟨c',t',fr,k1,k2⟩:=h.wi b m hb'
 exact ⟨c',t',fr,(hb.block b (h.lt_of_ghost hb')).trans k1,k2⟩
theorem qDg (h:SR P E Γ bs ow w a st) {f:FuncId} {e:TypeId} {ns:List (List PVal)} {x:Value} (hC:qkh P f e) (hx:VR Γ bs w (.slice ns) x) (hsz0:0 < P.cellsOf e) (hns1:∀ x ∈ ns,x.length = P.cellsOf e∧∀ q ∈ x,q.one = true) (hlen:ns.length ≤ qdH) :
  Calls P f #[x] w fun r w' => ∃ v' xb,r = .returned v'∧SR P E Γ (bs ++ [xb]) ow w' a { st with boxes:=st.boxes ++ [.cells ns.flatten []] }∧VR Γ (bs ++ [xb]) w' (.bsl st.boxes.length 0 ns.length) v':=by
 obtain ⟨news,hnx,hnl,hn1,hnv⟩:=qyF hx hsz0 hns1
 refine (hC.2 w x ns.length news hnx hnl hn1 hlen).mono fun r w' hr => ?_
 obtain ⟨v',rfl,hown,hb⟩:=hr
 obtain ⟨hle,hS⟩:=qqM h hb
 rcases hown.2 with ⟨rfl,hn⟩ | ⟨g,cap,cur,rfl,hge,hheap,hnc,hcm,hcs,htake⟩
 ·have hns0:ns = []:=List.eq_nil_of_length_eq_zero hn
  subst hns0
  exact ⟨_,none,rfl,hS.addBox none (fun b hb => by cases hb),.bsl _ _ _ _ _ (Nat.zero_le _) (fun _ => rfl) (.inl rfl)⟩
 ·refine ⟨_,some g,rfl,hS.addBox (some g) (fun b hb' => ?_),?_⟩
  ·cases hb'
   refine ⟨⟨cur,e,hheap,qsr hsz0 (fun x hx => (hns1 x hx).1) fun i x k q hx hq => ?_⟩,?_,.inr (Nat.le_trans h.step.size hge),fun i hi => ?_⟩
   ·obtain ⟨u,k1,k2⟩:=hnv i x k q hx hq
    refine ⟨u,?_,k2.mono hle (.refl _)⟩
    have hlt:=qae k1
    rw [← htake,List.getElem?_take_of_lt (by omega)] at k1
    simpa using k1
   ·cases hg:Γ g with
    | none => rfl
    | some m => exact absurd (h.lt_of_ghost hg) (by omega)
   ·have:=(h.bx i g (st.boxes[i]'(by rw [← h.bl]; exact qae hi)) hi (by simp)).2.1
    omega
  ·refine .bsl _ _ _ _ _ hnc (fun h => by cases h) (.inr ⟨g,rfl,?_⟩)
   rw [h.bl.symm,List.getElem?_append_right (Nat.le_refl _),Nat.sub_self]; rfl
theorem CC.clone {f:FuncId} {e:TypeId} {ns:List (List PVal)} {GE:List (Nat×List PVal)} (hC:qkh P f e) (hcl:clL 0 [.slice ns]) (hsz0:0 < P.cellsOf e) (hns1:∀ x ∈ ns,x.length = P.cellsOf e∧∀ q ∈ x,q.one = true) (hlen:ns.length ≤ qdH) :
  clL 0 [.slice ns]∧C P GE f [.slice ns] [] [] (.slice ns) [(0,e)] []:=by
 refine ⟨hcl,hC.1,fun Γ bs ow w vs hS => ?_⟩
 have h1:vs.size = 1:=hS.sz
 obtain ⟨x,rfl⟩:∃ x,vs = #[x]:=⟨vs[0],Array.ext (by simp [h1]) fun i hi hi2 => by simp at hi2; subst hi2; rfl⟩
 have hx:VR Γ bs w (.slice ns) x:=hS.tm 0 _ _ rfl rfl
 obtain ⟨news,hnx,hnl,hn1,hnv⟩:=qyF hx hsz0 hns1
 refine (hC.2 w x ns.length news hnx hnl hn1 hlen).mono fun r w' hr => ?_
 obtain ⟨v',rfl,hown,hb⟩:=hr
 rcases hown.2 with ⟨rfl,hn⟩ | ⟨g,cap,cur,rfl,hge,hheap,hnc,hcm,hcs,htake⟩
 ·have hns0:ns = []:=List.eq_nil_of_length_eq_zero hn
  subst hns0
  obtain ⟨hle,hS'⟩:=qqM hS hb
  have g1:=hS'.set (d:=0) (p := .slice []) (v := .slice none 0 0) .sliceNil
  have g2:=g1.addOwn (d:=0) (k:=0) (e:=e) (u := .slice none 0 0) (v := .slice none 0 0) (by simp) rfl ⟨0,[],World.ownsRow_nil _ _ _ _,fun b hb => by simp [Value.ownBlock] at hb⟩ (fun b hb => by simp [Value.ownBlock] at hb)
  exact ⟨_,Γ,_,rfl,g2⟩
 ·have hfr:Γ g = none:=by
   cases hg:Γ g with
   | none => rfl
   | some m => exact absurd (hS.lt_of_ghost hg) (by omega)
  have hle:Γ.Le w (Γ.put g (ns.length * P.cellsOf e)) w':=fun b m hb' _ => by
   have hlt:=hS.lt_of_ghost hb'
   exact ⟨m,(Γ.put_other (by omega)).trans hb',Nat.le_refl _,fun o _ => qaX (hb.block b hlt) o⟩
  have hS':=hS.world (Γ':=Γ.put g (ns.length * P.cellsOf e)) (w':=w') (fun _ => False) hle (fun b m hb' => by
   by_cases hbg:b = g
   ·subst hbg
    rw [Γ.put_same] at hb'; cases hb'
    exact ⟨_,_,_,hheap,by rw [hcs]; exact Nat.mul_le_mul_right _ hnc⟩
   ·rw [Γ.put_other hbg] at hb'
    obtain ⟨c',t',fr,k1,k2⟩:=hS.wi b m hb'
    exact ⟨c',t',fr,(hb.block b (hS.lt_of_ghost hb')).trans k1,k2⟩) hb.os hb.tape hb.output hb.size (fun b hlt _ => ⟨hb.block b hlt,Γ.put_other (by omega)⟩) (fun _ hx => hx.elim) (fun _ _ _ hx => hx) (fun _ _ _ hx => hx)
  have hvr:VR (Γ.put g (ns.length * P.cellsOf e)) bs w' (.slice ns) (.slice (some ⟨g,0,none⟩) ns.length cap):=by
   refine qoz hheap (Γ.put_same _ _) (Nat.le_refl _) hsz0 hnc (fun i x hx => (hns1 x (List.mem_of_getElem? hx)).1) fun i x k q hx hq => ?_
   obtain ⟨u,k1,k2⟩:=hnv i x k q hx hq
   refine ⟨u,?_,k2.mono hle (.refl _)⟩
   have hlt:=qae k1
   rw [← htake,List.getElem?_take_of_lt (by omega)] at k1
   simpa using k1
  have g1:=hS'.set (d:=0) hvr
  have g2:=g1.addOwn (d:=0) (k:=0) (e:=e) (u := .slice (some ⟨g,0,none⟩) ns.length cap) (v := .slice (some ⟨g,0,none⟩) ns.length cap) (by simp) rfl
   ⟨ns.length,news,⟨hnl,.inr ⟨g,cap,cur,rfl,Nat.zero_le _,hheap,hnc,hcm,hcs,htake⟩⟩,fun b hb' => by simp [Value.ownBlock] at hb'; subst hb'; exact Γ.put_same _ _⟩ (fun b hb' => by
    simp [Value.ownBlock] at hb'; subst hb'
    refine ⟨?_,.inr hge⟩
    cases hL:ow g with
    | none => rfl
    | some L => exact absurd (hS.on _ L hL).1 (by omega))
  exact ⟨_,_,_,rfl,g2⟩
end
def prow (P:Program) (GE:List (Nat×List PVal)) (o:Oper) (K:PSt→Prop) (st:PSt):Prop :=
 match o.op,o.dst with
 | .call { callee := .builtin .append,args:=⟨[.tmp t,y]⟩,argTypes:=⟨[T,T']⟩ },some d => ∃ e ns p,T = T'∧P.underlying T = some (.slice e)∧st.tmps.getD t .undef = .slice []∧opv GE st.tmps y = .slice ns∧qhU P T [] ns = some p∧((t,0),e) ∈ st.own∧d < st.tmps.length ∧
   K ⟨st.tmps.set d (.bsl st.boxes.length 0 ns.length),st.boxes ++ [.cells ns.flatten []],qbB d (st.own.filter fun x => x.1 != (t,0))⟩
 | .call { callee := .value f,args:=⟨[x]⟩,.. },some d => ∃ g e ns,opv GE st.tmps f = .func (.func g) [] []∧qkh P g e∧opv GE st.tmps x = .slice ns∧0 < P.cellsOf e∧(∀ x ∈ ns,x.length = P.cellsOf e∧∀ q ∈ x,q.one = true)∧ns.length ≤ qdH∧d < st.tmps.length ∧
   K ⟨st.tmps.set d (.bsl st.boxes.length 0 ns.length),st.boxes ++ [.cells ns.flatten []],qbB d st.own⟩
 | .store T x (.const v),none => ∃ i off e H cs own,v = .slice none 0 0∧opv GE st.tmps x = .bptr i off∧qc4 P T (.bptr i off) (opv GE st.tmps (.const v)) st.boxes = some H∧H[i]? = some (.cells cs own) ∧
   K ⟨st.tmps,H.set i (.cells cs ((off,e) :: own)),st.own⟩
 | _,_ => False
def qBX (P:Program) (E:Ent) (bs:qbj) (id:Nat) (mk:Bool) (ds:List Deferred) (K:PSt→Prop) (a:Act) (w:World):Prop :=
 a.defers = ds∧∃ Γ bs' ow st,SR P E Γ bs' ow w a.tmps st∧K st∧(bs' = bs∨(mk = true∧∃ b,bs' = bs.set id (some b))∨∃ x,bs' = bs ++ [x])
theorem qf1.to3 {P:Program} {E:Ent} {bs:qbj} {id:Nat} {mk:Bool} {ds:List Deferred} {K:PSt→Prop} {a:Act} {w:World} (h:qf1 P E bs id mk ds K a w):qBX P E bs id mk ds K a w:=by
 obtain ⟨h1,Γ,bs',ow,st,h2,h3,h4⟩:=h
 exact ⟨h1,Γ,bs',ow,st,h2,h3,h4.imp_right .inl⟩
section
variable {P:Program} {E:Ent} {Γ:qaP} {bs:qbj} {ow:Nat→Option Loc} {w:World} {a:Act} {st:PSt}
theorem qC4 (h:SR P E Γ bs ow w a.tmps st) {o:Oper} {id:Nat} {K:PSt→Prop} (hp:prow P E.GE o K st) (Q:Exit→Act→World→Prop) :
  o.wp P a w (qBX P E bs id (qak o.op) a.defers K) Q:=by
 unfold prow at hp
 split at hp
 ·rename_i t y T T' d ho hdst
  obtain ⟨e,ns,p,rfl,hT,het,hen,hpa,hmem,hd,hK⟩:=hp
  obtain ⟨u,v,h1,h2,h3,h4⟩:=h.ot t 0 e hmem
  have hvt:=qy0 h h1
  rw [het] at hvt
  have huv:u = v:=qAQ h2 (fun vs hx => by subst hx; cases hvt) (fun vs hx => by subst hx; cases hvt)
  subst huv
  have hf:=h.freeT t 0
  have hy:VR Γ bs w (opv E.GE st.tmps y) (a.eval y):=h.opv a.defers y
  rw [hen] at hy
  obtain ⟨v',w',Γ',xb,r1,r2,r3⟩:=qy6 (ty:=o.type) hf hT hvt hy h3 (fun b hb => ⟨by simp [h4 b hb],(h.on b _ (h4 b hb)).2⟩) hpa
  have hrun:(execOp a.eval o).run P w = .ok (.value v') w':=by
   simp [execOp,ho,resolve,invoke,builtin,qiQ h1,r1]
  unfold Oper.wp
  rw [hrun,Oper.upon_value]
  have g1:=r2.set (d:=d) r3
  have hput:∀ v,(a.put o.dst v).tmps = a.tmps.setIfInBounds d v:=fun v => by rw [hdst]; rfl
  rw [← hput] at g1
  exact ⟨qby _ _ _,Γ',_,_,_,g1,hK,.inr (.inr ⟨xb,rfl⟩)⟩
 ·rename_i f x tys d ho hdst
  obtain ⟨g,e,ns,hf,hC,hx,h1,h2,h3,hd,hK⟩:=hp
  have hvf:VR Γ bs w (opv E.GE st.tmps f) (a.eval f):=h.opv a.defers f
  have hvx:VR Γ bs w (opv E.GE st.tmps x) (a.eval x):=h.opv a.defers x
  rw [hf] at hvf
  rw [hx] at hvx
  generalize hev:a.eval f = vf at hvf
  cases hvf with
  | func _ _ _ fs cs hl hl' k1 k2 =>
  have hfs:fs = #[]:=Array.eq_empty_of_size_eq_zero (by simpa using hl)
  have hcs:cs = #[]:=Array.eq_empty_of_size_eq_zero (by simpa using hl')
  subst hfs; subst hcs
  have hrun:(execOp a.eval o).run P w = .ok (.enter g #[a.eval x]) w:=by
   simp [execOp,ho,resolve,hev,Deferred.ofValue,invoke,hC.1]
  unfold Oper.wp
  rw [hrun,Oper.upon_enter]
  refine (qDg h hC hvx h1 h2 h3).mono fun r w' hr => ?_
  obtain ⟨v',xb,rfl,hS,hv'⟩:=hr
  have g1:=hS.set (d:=d) hv'
  have hput:(a.put o.dst v').tmps = a.tmps.setIfInBounds d v':=by rw [hdst]; rfl
  rw [← hput] at g1
  show qBX P E bs id (qak o.op) a.defers K (a.put o.dst v') w'
  exact ⟨qby _ _ _,Γ,_,ow,_,g1,hK,.inr (.inr ⟨xb,rfl⟩)⟩
 ·rename_i T x v ho hdst
  obtain ⟨i,off,e,H,cs,own,rfl,hx,hps,hB,hK⟩:=hp
  have hvx:VR Γ bs w (opv E.GE st.tmps x) (a.eval x):=h.opv a.defers x
  have hvv:VR Γ bs w (opv E.GE st.tmps (.const (.slice none 0 0))) (.slice none 0 0):=h.opv a.defers (.const (.slice none 0 0))
  rw [hx] at hvx
  obtain ⟨w',r1,r2,_,r4⟩:=qqy h hvx hvv hps
  have hrun:(execOp a.eval o).run P w = .ok .skip w':=by
   have:a.eval (.const (.slice none 0 0)) = .slice none 0 0:=rfl
   simp [execOp,ho,this,r1]
  unfold Oper.wp
  rw [hrun,Oper.upon_skip]
  generalize a.eval x = vx at hvx
  cases hvx with
  | bptr _ _ b hb =>
  have hc:=(r4 i off b rfl hb).1 0 (.slice none 0 0) rfl
  have g1:=r2.addOwnB (j:=off) (e:=e) hb hB hc ⟨0,[],World.ownsRow_nil _ _ _ _,fun b hb => by simp [Value.ownBlock] at hb⟩ (fun b hb => by simp [Value.ownBlock] at hb)
  rw [hdst]
  exact ⟨rfl,Γ,bs,_,_,g1,hK,.inl rfl⟩
 ·exact hp.elim
end
end Go.Proofs.YtgldgpdhblndkaaGreatDoor
