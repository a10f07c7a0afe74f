/- WHAT IS PROVED: parts of the proof, put together by a program (AbsK AbsL). Conditions: none. -/
import Derived.Test.YtgldgpdhblndkaaGreatDoorPkE4
noncomputable section
namespace Go.Proofs.YtgldgpdhblndkaaGreatDoor
open Go
def qdH:Nat:=1073741824
def qhU (P:Program) (t:TypeId) (es ns:List (List PVal)):Option PVal :=
  match P.underlying t with
  | some (.slice e) => if es.length + ns.length ≤ qdH∧P.bytesOf e ≤ 65536∧0 < P.cellsOf e∧(qh0 P e).map (·.length) = some (P.cellsOf e)∧(∀ x ∈ es,x.length = P.cellsOf e)∧(∀ x ∈ ns,x.length = P.cellsOf e∧∀ q ∈ x,q.one = true) then some (.slice (es ++ ns)) else none
  | _ => none
section
variable {P:Program} {E:Ent} {Γ:qaP} {bs:qbj} {ow:Nat→Option Loc} {w:World} {a:Array Value} {st:PSt}
theorem qtX {t ty e:TypeId} {i:TypeInfo} {z:Value} {size:Nat} (ht:P.underlying t = some (.slice e)) (hi:P.info? e = some i) (hz:i.zero = some z)
    (hsize:i.size = size) (hzs:z.cells.size = size) (hsz:0 < size) {v:Value} {n:Nat} {xs:List Value} (hown:w.ownsRow 0 e size v n xs)
    {x:Value} {m:Nat} {news:List Value} (hx:(x = .slice none 0 0∧m = 0)∨∃ a c,x = .slice (some a) m c∧∀ (j:Nat) u,news[j]? = some u→w.cell? (a.add j) = some u)
    (hl:news.length = m * size) (h1:∀ u ∈ news,u.oneCell' = true) (h63:n + m ≤ maxLen) (hbytes:(n + m) * i.bytes ≤ 140737488355328) :
    ∃ v' w',(Builtin.append_ #[t,t] ty #[v,x]).run P w = .ok v' w' ∧
      ((v' = v∧w' = w∧m = 0) ∨
       (∃ g cap cur,v = .slice (some ⟨g,0,none⟩) n cap∧w.heap[g]? = some (.cells cur e (0,0))∧cur.size = cap * size∧cap ≤ maxLen∧cur.toList.take (n * size) = xs∧n + m ≤ cap ∧
          v' = .slice (some ⟨g,0,none⟩) (n + m) cap∧w' = w.setRow g (cur.toList.take (n * size) ++ news ++ cur.toList.drop (n * size + news.length)).toArray) ∨
       (∃ cap rest,n + m ≤ cap∧cap ≤ maxLen∧rest.length = (cap - (n + m)) * size∧v' = .slice (some ⟨w.heap.size,0,none⟩) (n + m) cap∧w' = w.drew.alloc (.cells (xs ++ news ++ rest).toArray e))):=by
  subst hsize
  have hsmall:n + m ≤ 9223372036854775807:=by simp only [maxLen] at h63; omega
  rcases hx with ⟨rfl,rfl⟩ | ⟨a,c,rfl,hnews⟩
  · refine ⟨v,w,?_,.inl ⟨rfl,rfl,rfl⟩⟩
    rcases hown.2 with ⟨rfl,rfl⟩ | ⟨g,cap,cur,rfl,_,hg,hnc,hcm,hcs,htake⟩
    · simp [Builtin.append_,run_underlying ht,sizeOf,typeInfo,hi,Builtin.lenOf,Builtin.firstCells]
    · simp [Builtin.append_,run_underlying ht,sizeOf,typeInfo,hi,Builtin.lenOf,Builtin.firstCells,hnc,storeCells]
  · have hgrow:∀ old,n + m ≤ grownCap w (n + m) old e∧grownCap w (n + m) old e ≤ maxLen∧(Builtin.zeroCells z.cells (grownCap w (n + m) old e - (n + m))).toList.length = (grownCap w (n + m) old e - (n + m)) * i.size:=fun old =>
      ⟨grownCap_ge w (n + m) old e,grownCap_le_maxLen w (n + m) old e h63,by simp [size_zeroCells,hzs]⟩
    rcases hown.2 with ⟨rfl,rfl⟩ | ⟨g,cap,cur,rfl,_,hg,hnc,hcm,hcs,htake⟩
    · have hxs:xs = []:=List.eq_nil_of_length_eq_zero (by simpa using hown.1)
      subst hxs
      by_cases hm:m = 0
      · subst hm
        have hn:news = []:=List.eq_nil_of_length_eq_zero (by simpa using hl)
        subst hn
        refine ⟨.slice none 0 0,w,?_,.inl ⟨rfl,rfl,rfl⟩⟩
        simp [Builtin.append_,run_underlying ht,sizeOf,typeInfo,hi,Builtin.lenOf,Builtin.firstCells,loadCells,loadCellsFrom]
      · have hr:=run_append_nil (P:=P) w t ty e i z ht hi hz a m c news hl hnews (by omega) (by omega) (by rw [Nat.zero_add] at hbytes; omega)
        obtain ⟨g1,g2,g3⟩:=hgrow 0
        rw [Nat.zero_add] at g1 g2 g3
        refine ⟨_,_,hr,.inr (.inr ⟨_,(Builtin.zeroCells z.cells (grownCap w m 0 e - m)).toList,by rw [Nat.zero_add]; exact g1,g2,by rw [Nat.zero_add]; exact g3,by rw [Nat.zero_add],?_⟩)⟩
        congr 2
        apply Array.ext'; simp
    · by_cases hroom:n + m ≤ cap
      · have hfit:n * i.size + news.length ≤ cur.size:=by rw [hl,hcs,← Nat.add_mul]; exact Nat.mul_le_mul_right _ hroom
        have hr:=run_append_room (P:=P) w t ty e i ht hi g n cap cur hg a m c news hl hnews h1 hroom hfit
        exact ⟨_,_,hr,.inr (.inl ⟨g,cap,cur,rfl,hg,hcs,hcm,htake,hroom,rfl,rfl⟩)⟩
      · have holds:∀ (j:Nat) u,xs[j]? = some u→w.cell? ((⟨g,0,none⟩:Addr).add j) = some u:=hown.cells (g:=g) rfl
        have hr:=run_append_grow (P:=P) w t ty e i z ht hi hz ⟨g,0,none⟩ n cap xs hown.1 holds a m c news hl hnews (by omega) (by omega) (growslice_fits (by omega) hbytes)
        obtain ⟨g1,g2,g3⟩:=hgrow cap
        refine ⟨_,_,hr,.inr (.inr ⟨_,(Builtin.zeroCells z.cells (grownCap w (n + m) cap e - (n + m))).toList,g1,g2,g3,rfl,?_⟩)⟩
        congr 2
        apply Array.ext'; simp
theorem qvt {sz q:Nat} (h:0 < sz):q = q / sz * sz + q % sz∧q % sz < sz:=⟨by rw [Nat.mul_comm]; exact (Nat.div_add_mod q sz).symm,Nat.mod_lt _ h⟩
theorem qoz {es:List (List PVal)} {b cap N size:Nat} {cur:Array Value} {e:TypeId} {fr:Nat×Nat} (hb:w.heap[b]? = some (.cells cur e fr)) (hg:Γ b = some N) (hN:es.length * size ≤ N) (hs0:0 < size) (hcap:es.length ≤ cap)
    (hsz:∀ (i:Nat) x,es[i]? = some x→x.length = size)
    (hc:∀ (i:Nat) x (k:Nat) q,es[i]? = some x→x[k]? = some q→∃ u,cur[i * size + k]? = some u∧VR Γ bs w q u) :
    VR Γ bs w (.slice es) (.slice (some ⟨b,0,none⟩) es.length cap):=by
  refine .slice es b 0 cap N size (fun i k => cur.getD (i * size + k) undef) hs0 hcap hg (by omega) hsz (fun i x k q hx hq => ?_) (fun i x k q hx hq => ?_)
  all_goals
    obtain ⟨u,h1,h2⟩:=hc i x k q hx hq
    have hu:cur.getD (i * size + k) undef = u:=by rw [Array.getD_eq_getD_getElem?,h1]; rfl
    rw [hu]
  · rw [Nat.zero_add,cell_of_row w b _ cur e fr hb,h1]
  · exact h2
theorem qBI (h:SR P E Γ bs ow w a st) {t ty e:TypeId} {es ns:List (List PVal)} {p:PVal} {v x:Value} (ht:P.underlying t = some (.slice e)) (hv:VR Γ bs w (.slice es) v) (hx:VR Γ bs w (.slice ns) x)
    (ho:qhY P Γ w v e) (hfree:∀ b,v.ownBlock = some b→ow b = none∧(E.T b∨E.w.heap.size ≤ b)) (hp:qhU P t es ns = some p) :
    ∃ v' w' Γ',(Builtin.append_ #[t,t] ty #[v,x]).run P w = .ok v' w'∧SR P E Γ' bs ow w' a st∧Γ.Le w Γ' w'∧VR Γ' bs w' p v'∧qhY P Γ' w' v' e ∧
      ∀ b,v'.ownBlock = some b→ow b = none∧(E.T b∨E.w.heap.size ≤ b):=by
  unfold qhU at hp
  rw [ht] at hp
  simp only at hp
  split at hp
  case isFalse => cases hp
  rename_i hh
  obtain ⟨hlen,hby,hsz0,hzl,hes1,hns1⟩:=hh
  cases hp
  have hz:∃ zs,qh0 P e = some zs∧zs.length = P.cellsOf e:=by simpa using hzl
  obtain ⟨zs,hz,hzl⟩:=hz
  obtain ⟨z,hr,rfl,i,hi,hz'⟩:=qio (w:=w) hz
  have hisz:i.size = P.cellsOf e:=by simp [Program.cellsOf,hi]
  have hiby:i.bytes = P.bytesOf e:=by simp [Program.bytesOf,hi]
  obtain ⟨n,xs,hown,hgh⟩:=ho
  have hxsl:xs.length = n * P.cellsOf e:=hown.1
  have hesz:∀ (i:Nat) x,es[i]? = some x→x.length = P.cellsOf e:=fun i x hx => hes1 x (List.mem_of_getElem? hx)
  have hnsz:∀ (i:Nat) x,ns[i]? = some x→x.length = P.cellsOf e:=fun i x hx => (hns1 x (List.mem_of_getElem? hx)).1
  have hes:es.length = n∧∀ (i:Nat) x (k:Nat) q,es[i]? = some x→x[k]? = some q→∃ u,xs[i * P.cellsOf e + k]? = some u∧VR Γ bs w q u:=by
    rcases hown.2 with ⟨rfl,rfl⟩ | ⟨g,cap,cur,rfl,_,hg,hnc,hcm,hcs,htake⟩
    · cases hv
      exact ⟨rfl,by simp⟩
    · cases hv with
      | sliceE a cap => exact ⟨rfl,by simp⟩
      | slice es b off cap n' sz vals hz0 hcap hgg hn hsz hc hvv =>
        refine ⟨rfl,fun i x k q hx hq => ⟨vals i k,?_,hvv i x k q hx hq⟩⟩
        have hsz':sz = P.cellsOf e:=by rw [← hsz i x hx]; exact hesz i x hx
        subst hsz'
        have hcell:=hc i x k q hx hq
        rw [Nat.zero_add,cell_of_row w g _ cur e _ hg] at hcell
        rw [← htake,List.getElem?_take_of_lt]
        · simpa using hcell
        · have:=qCa (qae hx) (show k < P.cellsOf e by have:=qae hq; rw [hesz i x hx] at this; exact this)
          exact this
  have hnew:∃ news:List Value,((x = .slice none 0 0∧ns.length = 0)∨∃ a c,x = .slice (some a) ns.length c∧∀ (j:Nat) u,news[j]? = some u→w.cell? (a.add j) = some u) ∧
      news.length = ns.length * P.cellsOf e∧(∀ u ∈ news,u.oneCell' = true) ∧
      ∀ (i:Nat) x (k:Nat) q,ns[i]? = some x→x[k]? = some q→∃ u,news[i * P.cellsOf e + k]? = some u∧VR Γ bs w q u:=by
    cases hx with
    | sliceNil => exact ⟨[],.inl ⟨rfl,rfl⟩,by simp,by simp,by simp⟩
    | sliceE a cap => exact ⟨[],.inr ⟨a,cap,rfl,by simp⟩,by simp,by simp,by simp⟩
    | slice ns b off cap n' sz vals hz0 hcap hgg hn hsz hc hvv =>
      have hcell:∀ (i:Nat) x (k:Nat) q,ns[i]? = some x→x[k]? = some q→w.cell? ⟨b,off + (i * P.cellsOf e + k),none⟩ = some (vals i k):=by
        intro i x k q hx hq
        have hsz':sz = P.cellsOf e:=by rw [← hsz i x hx]; exact hnsz i x hx
        subst hsz'
        rw [← Nat.add_assoc]; exact hc i x k q hx hq
      have hpos:∀ o,o < ns.length * P.cellsOf e→∃ x q,ns[o / P.cellsOf e]? = some x∧x[o % P.cellsOf e]? = some q∧o = o / P.cellsOf e * P.cellsOf e + o % P.cellsOf e:=by
        intro o ho
        obtain ⟨m1,m2⟩:=qvt (q:=o) hsz0
        have hlt:o / P.cellsOf e < ns.length:=(Nat.div_lt_iff_lt_mul hsz0).2 ho
        have hxl:=hnsz _ _ (List.getElem?_eq_getElem hlt)
        exact ⟨_,_,List.getElem?_eq_getElem hlt,List.getElem?_eq_getElem (by rw [hxl]; exact m2),m1⟩
      refine ⟨(List.range (ns.length * P.cellsOf e)).map fun o => vals (o / P.cellsOf e) (o % P.cellsOf e),.inr ⟨⟨b,off,none⟩,cap,rfl,fun j u hu => ?_⟩,by simp,fun u hu => ?_,fun i x k q hx hq => ⟨vals i k,?_,hvv i x k q hx hq⟩⟩
      · rw [List.getElem?_map] at hu
        have hj:j < ns.length * P.cellsOf e:=by
          by_cases hj:j < ns.length * P.cellsOf e
          · exact hj
          · rw [List.getElem?_eq_none (by simp; omega)] at hu; cases hu
        rw [List.getElem?_range hj] at hu
        simp only [Option.map_some,Option.some.injEq] at hu
        subst hu
        obtain ⟨x,q,k1,k2,k3⟩:=hpos j hj
        have:=hcell _ _ _ _ k1 k2
        rw [← k3] at this
        rw [Addr.add_lit]; exact this
      · simp only [List.mem_map,List.mem_range] at hu
        obtain ⟨o,ho,rfl⟩:=hu
        obtain ⟨x,q,k1,k2,k3⟩:=hpos o ho
        exact VR.one (hvv _ _ _ _ k1 k2) ((hns1 x (List.mem_of_getElem? k1)).2 q (List.mem_of_getElem? k2))
      · have hk:k < P.cellsOf e:=by have:=qae hq; rw [hnsz i x hx] at this; exact this
        have hlt:=qCa (qae hx) hk
        rw [List.getElem?_map,List.getElem?_range hlt]
        simp only [Option.map_some,Option.some.injEq]
        rw [Nat.mul_comm i,Nat.mul_add_div hsz0,Nat.div_eq_of_lt hk,Nat.mul_add_mod,Nat.mod_eq_of_lt hk,Nat.add_zero]
  obtain ⟨hesn,hesv⟩:=hes
  obtain ⟨news,hnx,hnl,hn1,hnv⟩:=hnew
  have happ:(n + ns.length) * P.cellsOf e = n * P.cellsOf e + ns.length * P.cellsOf e:=Nat.add_mul _ _ _
  have fin:∀ {Γ':qaP} {w':World} {b cap:Nat} {cur:Array Value} {fr:Nat×Nat},w'.heap[b]? = some (.cells cur e fr)→Γ' b = some ((n + ns.length) * P.cellsOf e)→n + ns.length ≤ cap →
      cur.toList.take ((n + ns.length) * P.cellsOf e) = xs ++ news→Γ.Le w Γ' w'→VR Γ' bs w' (.slice (es ++ ns)) (.slice (some ⟨b,0,none⟩) (n + ns.length) cap):=by
    intro Γ' w' b cap cur fr hb hg hcap htk hle
    have hl:(es ++ ns).length = n + ns.length:=by rw [List.length_append,hesn]
    rw [← hl]
    have hget:∀ (o:Nat) u,(xs ++ news)[o]? = some u→cur[o]? = some u:=by
      intro o u hu
      rw [← htk] at hu
      have ho:o < (n + ns.length) * P.cellsOf e:=by have:=qae hu; simp at this; omega
      rw [List.getElem?_take_of_lt ho] at hu
      simpa using hu
    refine qoz hb hg (by rw [hl]; exact Nat.le_refl _) hsz0 (by omega) (fun i x hx => ?_) (fun i x k q hx hq => ?_)
    · rcases List.mem_append.1 (List.mem_of_getElem? hx) with hm | hm
      · exact hes1 x hm
      · exact (hns1 x hm).1
    · by_cases hi:i < es.length
      · rw [List.getElem?_append_left hi] at hx
        obtain ⟨u,k1,k2⟩:=hesv i x k q hx hq
        refine ⟨u,hget _ _ ?_,k2.mono hle (.refl _)⟩
        rw [List.getElem?_append_left (qae k1)]; exact k1
      · rw [List.getElem?_append_right (by omega)] at hx
        obtain ⟨u,k1,k2⟩:=hnv _ x k q hx hq
        refine ⟨u,hget _ _ ?_,k2.mono hle (.refl _)⟩
        have:i * P.cellsOf e + k = n * P.cellsOf e + ((i - es.length) * P.cellsOf e + k):=by
          rw [← Nat.add_assoc,← Nat.add_mul]; congr 2; omega
        rw [List.getElem?_append_right (by omega),show i * P.cellsOf e + k - xs.length = (i - es.length) * P.cellsOf e + k from by omega]
        exact k1
  have hmax:n + ns.length ≤ maxLen:=by unfold maxLen; unfold qdH at hlen; omega
  have hbytes:(n + ns.length) * i.bytes ≤ 140737488355328:=by
    rw [hiby]
    have:(n + ns.length) * P.bytesOf e ≤ 1073741824 * 65536:=Nat.mul_le_mul (by unfold qdH at hlen; omega) hby
    omega
  obtain ⟨v',w',hrun,hcase⟩:=qtX (ty:=ty) ht hi hz' hisz (by simpa using hzl) hsz0 hown hnx hnl hn1 hmax hbytes
  rcases hcase with ⟨rfl,rfl,hm0⟩ | ⟨g,cap,cur,rfl,hg,hcs,hcm,htake,hroom,rfl,rfl⟩ | ⟨cap,rest,g1,g2,g3,rfl,rfl⟩
  · have hns0:ns = []:=List.eq_nil_of_length_eq_zero hm0
    subst hns0
    exact ⟨v',w',Γ,hrun,h,.refl _ _,by simpa using hv,⟨n,xs,hown,hgh⟩,hfree⟩
  ·
    have hgn:Γ g = some (n * P.cellsOf e):=hgh g rfl
    have hfit:n * P.cellsOf e + news.length ≤ cur.toList.length:=by
      have hcl:cur.toList.length = cur.size:=by simp
      rw [hcl,hcs,hnl,← Nat.add_mul]; exact Nat.mul_le_mul_right _ hroom
    have hheap:=qm8 w g cur (cur.toList.take (n * P.cellsOf e) ++ news ++ cur.toList.drop (n * P.cellsOf e + news.length)).toArray e (0,0) hg
    have hsame:∀ o,o < n * P.cellsOf e→(w.setRow g (cur.toList.take (n * P.cellsOf e) ++ news ++ cur.toList.drop (n * P.cellsOf e + news.length)).toArray).cell? ⟨g,o,none⟩ = w.cell? ⟨g,o,none⟩:=by
      intro o ho
      rw [cell_of_row _ g o _ e _ hheap,cell_of_row w g o cur e _ hg]
      simp only [List.getElem?_toArray]
      rw [qfJ hfit,if_pos ho]
      simp
    have hle:Γ.Le w (Γ.put g ((n + ns.length) * P.cellsOf e)) (w.setRow g (cur.toList.take (n * P.cellsOf e) ++ news ++ cur.toList.drop (n * P.cellsOf e + news.length)).toArray):=by
      intro b m hb _
      by_cases hbg:b = g
      · subst hbg
        rw [hgn] at hb; cases hb
        exact ⟨_,Γ.put_same _ _,by omega,hsame⟩
      · exact ⟨m,(Γ.put_other hbg).trans hb,Nat.le_refl _,fun o _ => qaX (setRow_other w g b _ hbg) o⟩
    have hsz1:((cur.toList.take (n * P.cellsOf e) ++ news ++ cur.toList.drop (n * P.cellsOf e + news.length)).toArray).size = cur.size:=by
      simp only [List.size_toArray,List.length_append,List.length_take,List.length_drop,Array.length_toList] at hfit ⊢; omega
    have htk:((cur.toList.take (n * P.cellsOf e) ++ news ++ cur.toList.drop (n * P.cellsOf e + news.length)).toArray).toList.take ((n + ns.length) * P.cellsOf e) = xs ++ news:=by
      rw [htake,happ,← hnl,← hxsl,← List.length_append]
      exact List.take_left
    have hSR:=h.world (fun b => b = g) hle (fun b m hb => ?_) rfl rfl rfl (by simp) (fun b _ hbg => ⟨setRow_other w g b _ hbg,Γ.put_other hbg⟩) (fun b hb => by subst hb; exact (hfree b rfl).2)
      (fun i b hb hbg => ?_) (fun b L hL hbg => by subst hbg; rw [(hfree b rfl).1] at hL; cases hL)
    · refine ⟨_,_,_,hrun,hSR,hle,fin hheap (Γ.put_same _ _) hroom htk hle,⟨n + ns.length,xs ++ news,⟨by rw [List.length_append,hxsl,hnl,happ],.inr ⟨g,cap,_,rfl,Nat.zero_le _,hheap,hroom,hcm,by rw [hsz1,hcs],htk⟩⟩,fun b hb => ?_⟩,fun b hb => ?_⟩
      · simp [Value.ownBlock] at hb; subst hb; exact Γ.put_same _ _
      · exact hfree b (by simpa [Value.ownBlock] using hb)
    · by_cases hbg:b = g
      · subst hbg
        rw [Γ.put_same] at hb; cases hb
        refine ⟨_,_,_,hheap,?_⟩
        rw [hsz1,hcs]; exact Nat.mul_le_mul_right _ hroom
      · rw [Γ.put_other hbg] at hb
        obtain ⟨c,t',fr,k1,k2⟩:=h.wi b m hb
        exact ⟨c,t',fr,(setRow_other w g b _ hbg).trans k1,k2⟩
    · subst hbg
      have:=(h.bx i b (st.boxes[i]'(by rw [← h.bl]; exact qae hb)) hb (by simp)).1
      rw [hgn] at this; cases this
  ·
    have hcs:(xs ++ news ++ rest).toArray.size = cap * P.cellsOf e:=by
      simp only [List.size_toArray,List.length_append,hxsl,hnl,g3,← Nat.add_mul]; congr 1; omega
    obtain ⟨hSR,hle⟩:=h.drew.alloc_imm (xs ++ news ++ rest).toArray e ((n + ns.length) * P.cellsOf e) (by rw [hcs]; exact Nat.mul_le_mul_right _ g1)
    have hle':Γ.Le w (Γ.put w.heap.size ((n + ns.length) * P.cellsOf e)) (w.drew.alloc (.cells (xs ++ news ++ rest).toArray e)):=hle
    have hheap:(w.drew.alloc (.cells (xs ++ news ++ rest).toArray e)).heap[w.heap.size]? = some (.cells (xs ++ news ++ rest).toArray e (0,0)):=qeH w.drew _
    have htk:((xs ++ news ++ rest).toArray).toList.take ((n + ns.length) * P.cellsOf e) = xs ++ news:=by
      rw [happ,← hnl,← hxsl,← List.length_append]
      exact List.take_left
    refine ⟨_,_,_,hrun,hSR,hle',fin hheap (Γ.put_same _ _) g1 htk hle',⟨n + ns.length,xs ++ news,⟨by rw [List.length_append,hxsl,hnl,happ],.inr ⟨w.heap.size,cap,_,rfl,Nat.zero_le _,hheap,g1,g2,hcs,htk⟩⟩,fun b hb => ?_⟩,fun b hb => ?_⟩
    · simp [Value.ownBlock] at hb; subst hb; exact Γ.put_same _ _
    · simp [Value.ownBlock] at hb; subst hb
      refine ⟨?_,.inr h.step.size⟩
      cases hL:ow w.heap.size with
      | none => rfl
      | some L => exact absurd (h.on _ L hL).1 (Nat.lt_irrefl _)
end
section
variable {P:Program} {E:Ent} {Γ:qaP} {bs:qbj} {ow:Nat→Option Loc} {w:World} {a:Array Value} {st:PSt}
theorem qDy (a b:List UInt8):((ByteArray.mk a.toArray) == (ByteArray.mk b.toArray)) = (a == b):=by
 show (a.toArray == b.toArray) = _
 simp
theorem qxH {kd:TypeDesc} {k x:PVal} {vk vx:Value} {t:Bool} (hk:VR Γ bs w k vk) (hx:VR Γ bs w x vx) (hkd:qjy kd k = true) (h:qBN k x = some t):Instr.sameNow kd vk vx = some t:=by
 unfold qBN at h
 split at h
 ·cases h; cases hk; cases hx
  cases kd <;> simp [qjy] at hkd
  simp only [Instr.sameNow,qDy]
 ·split at h
  ·rename_i hkk; subst hkk
   cases h; cases hk; cases hx
   cases kd <;> simp [qjy] at hkd
   simp [Instr.sameNow]
  ·cases h
 ·cases h
theorem qlR {kd:TypeDesc} {k:PVal} {vk:Value} (hk:VR Γ bs w k vk) (hkd:qjy kd k = true):∀ (es:List (PVal×PVal)) (ents:List MapEntry) (i:Nat) {r:Option (Nat×PVal)},es.length = ents.length →
  (∀ (j:Nat) kx u x,es[j]? = some (kx,u)→ents[j]? = some x→VR Γ bs w kx x.key∧VR Γ bs w u x.val)→qu4 k es i = some r →
  match r with
  | none => Instr.findNow kd vk ents i = some none
  | some (j,u) => ∃ v x,Instr.findNow kd vk ents i = some (some (j,v))∧VR Γ bs w u v∧i ≤ j∧ents[j - i]? = some x∧x.val = v∧Instr.sameNow kd vk x.key = some true∧j - i < es.length
 | [],[],i,r,_,_,h => by simp only [qu4,Option.some.injEq] at h; subst h; rfl
 | [],_ :: _,_,_,hl,_,_ => by simp at hl
 | _ :: _,[],_,_,hl,_,_ => by simp at hl
 | (kx,u) :: es,x :: ents,i,r,hl,hv,h => by
  obtain ⟨h1,h2⟩:=hv 0 kx u x rfl rfl
  simp only [qu4] at h
  split at h
  ·rename_i hq
   cases h
   have:=qxH hk h1 hkd hq
   exact ⟨x.val,x,by simp [Instr.findNow,this],h2,Nat.le_refl _,by simp,rfl,this,by simp⟩
  ·rename_i hq
   have hs:=qxH hk h1 hkd hq
   have ih:=qlR hk hkd es ents (i + 1) (by simpa using hl) (fun j kx u x hj hx => hv (j + 1) kx u x (by simpa using hj) (by simpa using hx)) h
   cases r with
   | none => simpa [Instr.findNow,hs] using ih
   | some ju =>
    obtain ⟨j,u'⟩:=ju
    obtain ⟨v,x',k1,k2,k3,k4,k5,k6,k7⟩:=ih
    refine ⟨v,x',by simpa [Instr.findNow,hs] using k1,k2,by omega,?_,k5,k6,by simp; omega⟩
    rw [show j - i = (j - (i + 1)) + 1 from by omega]; simpa using k4
  ·cases h
theorem qtF {kt:TypeId} {kd:TypeDesc} {k:PVal} {vk:Value} (hkt:P.underlying kt = some kd) (hkd:qjy kd k = true) (hk:VR Γ bs w k vk) (em:Bool):(Instr.checkKey em 10000 kt vk).run P w = .ok () w:=by
 show (Instr.checkKey em (9999 + 1) kt vk).run P w = _
 rw [Instr.checkKey]
 cases kd <;> simp [qjy] at hkd <;> cases k <;> simp at hkd <;> cases hk <;> simp [run_underlying hkt]
theorem qiI {b:Nat} {ents:Array MapEntry} {clock:Nat} (h:w.heap[b]? = some (.map ents clock)):(getObj b).run P w = .ok (.map ents clock) w:=by simp [getObj,Sem.run,h]
theorem qAK {t:TypeId} {z:PVal} (h:qxE P t = some z):∃ v,(zeroValue t).run P w = .ok v w∧VR Γ bs w z v:=by
 unfold qxE at h
 simp only [Option.map_eq_some_iff,Option.bind_eq_some_iff] at h
 obtain ⟨v,⟨i,hi,hz⟩,rfl⟩:=h
 exact ⟨v,by simp [zeroValue,run_typeInfo w hi,hz],.absV v⟩
theorem qA0 (h:SR P E Γ bs ow w a st) {t:TypeId} {m k p:PVal} {vm vk:Value} {ok:Bool} (hm:VR Γ bs w m vm) (hk:VR Γ bs w k vk) (hp:qnW P t m k ok st.boxes = some p) :
  ∃ v,(Instr.lookup t vm vk ok).run P w = .ok v w∧VR Γ bs w p v:=by
 unfold qnW at hp
 split at hp
 ·rename_i kt e i ht
  split at hp
  ·rename_i es kd hB hkt
   split at hp
   ·rename_i hkd
    cases hm with
    | mapr i b hi =>
     obtain ⟨_,_,ents,clock,h1,h2,h3⟩:=h.bx i b _ hi hB
     have hch:=qtF (P:=P) (w:=w) hkt hkd hk ents.toList.isEmpty
     have hch':(Instr.checkKey ents.isEmpty 10000 kt vk).run P w = .ok () w:=by rw [show ents.isEmpty = ents.toList.isEmpty from by simp]; exact hch
     split at hp
     ·rename_i j u zs hf
      cases hp
      obtain ⟨v,x,k1,k2,_⟩:=qlR hk hkd es ents.toList 0 (by simp [h2]) (fun j kx u x hj hx => h3 j kx u x hj (by simpa using hx)) hf
      refine ⟨if ok then .tuple #[v,.bool true] else v,?_,?_⟩
      ·simp [Instr.lookup,run_underlying ht,qiI h1,hch',Instr.findKey,run_underlying hkt,k1]
      ·cases ok
       ·exact k2
       ·refine .tuple _ _ rfl fun q p' v' hq hv' => ?_
        match q,hq,hv' with
        | 0,hq,hv' => simp at hq hv'; subst hq; subst hv'; exact k2
        | 1,hq,hv' => simp at hq hv'; subst hq; subst hv'; exact .bool _
        | q + 2,hq,_ => simp at hq
     ·rename_i z hf hz
      cases hp
      obtain ⟨z',hr,hvz⟩:=qAK (Γ:=Γ) (bs:=bs) (w:=w) hz
      have hfn:=qlR hk hkd es ents.toList 0 (by simp [h2]) (fun j kx u x hj hx => h3 j kx u x hj (by simpa using hx)) hf
      refine ⟨if ok then .tuple #[z',.bool false] else z',?_,?_⟩
      ·simp only at hfn
       simp [Instr.lookup,run_underlying ht,qiI h1,hch',Instr.findKey,run_underlying hkt,hfn,hr]
      ·cases ok
       ·exact hvz
       ·refine .tuple _ _ rfl fun q p' v' hq hv' => ?_
        match q,hq,hv' with
        | 0,hq,hv' => simp at hq hv'; subst hq; subst hv'; exact hvz
        | 1,hq,hv' => simp at hq hv'; subst hq; subst hv'; exact .bool _
        | q + 2,hq,_ => simp at hq
     ·cases hp
   ·cases hp
  ·cases hp
 ·cases hp
theorem qBh {kd:TypeDesc} {vk x:Value} (h:Instr.sameNow kd vk x = some true):Instr.sameBits 10000 x vk = true:=by
 unfold Instr.sameNow at h
 split at h
 ·split at h
  ·rename_i hk
   subst hk
   simp only [Option.some.injEq,beq_iff_eq] at h
   subst h
   simp [Instr.sameBits]
  ·cases h
 ·rename_i p q
  have h':(p.data == q.data) = true:=Option.some.inj h
  show (q.data == p.data) = true
  rw [beq_iff_eq] at h' ⊢
  exact h'.symm
 ·simp only [Option.some.injEq,beq_iff_eq] at h
  subst h
  simp [Instr.sameBits]
 ·cases h
theorem qwL (h:SR P E Γ bs ow w a st) {t:TypeId} {m k u:PVal} {vm vk vu:Value} {H:List PBox} (hm:VR Γ bs w m vm) (hk:VR Γ bs w k vk) (hu:VR Γ bs w u vu) (hp:qdW P t m k u st.boxes = some H) :
  ∃ w',(Instr.mapUpdate t vm vk vu).run P w = .ok () w'∧SR P E Γ bs ow w' a { st with boxes:=H }∧Γ.Le w Γ w':=by
 unfold qdW at hp
 split at hp
 ·rename_i kt e i ht
  split at hp
  ·rename_i es kd hB hkt
   split at hp
   ·rename_i hkd
    cases hm with
    | mapr i b hi =>
     obtain ⟨hgb,hlt,ents,clock,h1,h2,h3⟩:=h.bx i b _ hi hB
     have hch:=qtF (P:=P) (w:=w) hkt hkd hk false
     have hset:∀ o,(setObj b o).run P w = .ok () { w with heap:=w.heap.setIfInBounds b o }:=by
      intro o; simp [setObj,Sem.run,h1]
     have hheap:∀ o,({ w with heap:=w.heap.setIfInBounds b o }:World).heap[b]? = some o:=by
      intro o; simp [hlt]
     have hother:∀ o b',b' ≠ b→({ w with heap:=w.heap.setIfInBounds b o }:World).heap[b']? = w.heap[b']?:=by
      intro o b' hb'; exact Array.getElem?_setIfInBounds_ne (fun e => hb' e.symm)
     have hle:∀ o,Γ.Le w Γ ({ w with heap:=w.heap.setIfInBounds b o }:World):=fun o b' m hb' _ =>
      ⟨m,hb',Nat.le_refl _,fun o' _ => qaX (hother o b' (fun e => by subst e; rw [hgb] at hb'; cases hb')) o'⟩
     have hbox:∀ {o:Obj} {B:PBox},BR Γ bs ({ w with heap:=w.heap.setIfInBounds b o }:World) B b→(∀ cs own,B ≠ .cells cs own) →
       SR P E Γ bs ow ({ w with heap:=w.heap.setIfInBounds b o }:World) a { st with boxes:=st.boxes.set i B }:=fun {o B} hB hne =>
      h.box_write hi rfl rfl rfl (by simp) (hother o) hB (fun b' L hL _ => hL) h.on (fun cs own he => absurd he (hne cs own))
     split at hp
     ·rename_i j u0 hf
      cases hp
      obtain ⟨v,x,k1,k2,k3,k4,k5,k6,k7⟩:=qlR hk hkd es ents.toList 0 (by simp [h2]) (fun j kx u x hj hx => h3 j kx u x hj (by simpa using hx)) hf
      simp only [Nat.sub_zero,Array.getElem?_toList] at k4 k7
      have hsame:=qBh k6
      refine ⟨{ w with heap:=w.heap.setIfInBounds b (.map (ents.modify j fun e => { e with key:=vk,val:=vu }) clock) },?_,hbox ⟨_,clock,hheap _,by simp [h2],fun q kx ux y hq hy => ?_⟩ (by simp),hle _⟩
      ·simp [Instr.mapUpdate,run_underlying ht,qiI h1,hch,Instr.findKey,run_underlying hkt,k1,k4,Instr.keyThatStays,hsame,hset]
      ·rw [Array.getElem?_modify] at hy
       by_cases hqj:q = j
       ·subst hqj
        rw [List.getElem?_set_self k7] at hq
        simp [k4] at hy
        cases hq; subst hy
        exact ⟨hk.mono (hle _) (.refl _),hu.mono (hle _) (.refl _)⟩
       ·rw [List.getElem?_set_ne (fun e => hqj e.symm)] at hq
        rw [if_neg (fun e => hqj e.symm)] at hy
        exact ⟨(h3 q kx ux y hq hy).1.mono (hle _) (.refl _),(h3 q kx ux y hq hy).2.mono (hle _) (.refl _)⟩
     ·rename_i hf
      cases hp
      have hfn:=qlR hk hkd es ents.toList 0 (by simp [h2]) (fun j kx u x hj hx => h3 j kx u x hj (by simpa using hx)) hf
      simp only at hfn
      refine ⟨{ w with heap:=w.heap.setIfInBounds b (.map (ents.push { key:=vk,val:=vu,born:=clock }) (clock + 1)) },?_,hbox ⟨_,_,hheap _,by simp [h2],fun q kx ux y hq hy => ?_⟩ (by simp),hle _⟩
      ·simp [Instr.mapUpdate,run_underlying ht,qiI h1,hch,Instr.findKey,run_underlying hkt,hfn,hset]
      ·rw [Array.getElem?_push] at hy
       by_cases hql:q = ents.size
       ·subst hql
        rw [List.getElem?_append_right (by omega),← h2,Nat.sub_self] at hq
        simp at hq hy
        obtain ⟨rfl,rfl⟩:=hq
        subst hy
        exact ⟨hk.mono (hle _) (.refl _),hu.mono (hle _) (.refl _)⟩
       ·rw [if_neg hql] at hy
        have hlt2:q < es.length:=by rw [← h2]; exact (Array.getElem?_eq_some_iff.1 hy).1
        rw [List.getElem?_append_left hlt2] at hq
        exact ⟨(h3 q kx ux y hq hy).1.mono (hle _) (.refl _),(h3 q kx ux y hq hy).2.mono (hle _) (.refl _)⟩
     ·cases hp
   ·cases hp
  ·cases hp
 ·cases hp
end
end Go.Proofs.YtgldgpdhblndkaaGreatDoor
