/-
  WHAT IS PROVED: parts of the proof, put together by a program out of smaller texts, their own names made short (SatQ). Conditions: none.
-/
import Derived.Test.YtgldgpdhblndkaaGreatDoorPkD26
namespace Go.Proofs.YtgldgpdhblndkaaGreatDoor
open Go
def idn {α:Type} (n:Nat) (l:List α) (i:Int):Option α:=if 0 ≤ i∧i.toNat < n then l[i.toNat]? else none
def frz {α:Type} (n:Nat) (l:List α):Option (List α):=if n = l.length then some l else none
theorem qCk {α:Type} {n:Nat} {l:List α} {i:Int} {x:α} (h:idn n l i = some x):idx l i = some x:=by
  unfold idn at h
  split at h
  · rename_i hh; unfold idx; rw [if_pos hh.1]; exact h
  · cases h
theorem quE {α:Type} {n:Nat} {l r:List α} (h:frz n l = some r):n = l.length∧r = l:=by
  unfold frz at h
  split at h
  · cases h; exact ⟨by assumption,rfl⟩
  · cases h
section
variable {P:Program} {GE:List (Nat×List PVal)} {T e:TypeId} {α:Type} {c:α→List PVal}
theorem SlT.iaN (s:SlT P T e c) (b:Nat) {n:Nat} {l:List α} {i:Int} {k:IntKind} {x:α} (h:idn n l i = some x):qgG P T (.bsl b 0 n) (.int k i) = some (.bptr b (quw P e i)):=by
  unfold idn at h
  split at h
  · rename_i hh
    unfold qgG
    rw [s.hu]
    simp only
    rw [if_pos ⟨hh.1,by omega,s.hi⟩]
  · cases h
theorem SlT.ldN (s:SlT P T e c) {n:Nat} {l:List α} {i:Int} {x:α} {p:PVal} (hl:∀ r,qbA P e (c x ++ r) = some p) (h:idn n l i = some x):qbA P e ((flC c l).drop (quw P e i)) = some p:=s.ldR hl (qCk h)
theorem SlT.fz1 (s:SlT P T e c) {m b:Nat} (hb:decide (m % 1000 ≤ b) = true) (l:List α):(m % 1000 ≤ b)∧∃ sz,0 < sz∧∀ x ∈ l.map c,x.length = sz:=⟨of_decide_eq_true hb,_,s.hp,fun x hx => (s.mapOk l x hx).1⟩
theorem SlT.fz2 (s:SlT P T e c) (b:Nat) (l:List α):noLL b (l.map c):=qoa b _ (qxa fun p hp => by obtain ⟨x,_,rfl⟩:=List.mem_map.1 hp; exact s.cl x)
theorem fz3 (c:α→List PVal) {n:Nat} {l r:List α} (h:frz n l = some r):flC c l = (r.map c).flatten:=by rw [(quE h).2]; rfl
theorem fz4 (c:α→List PVal) {n:Nat} {l r:List α} (h:frz n l = some r):n = (r.map c).length:=by rw [(quE h).2,List.length_map]; exact (quE h).1
theorem fb1 {m b:Nat} (hb:decide (m % 1000 ≤ b) = true) (l:List PVal) (hl:decide (l.length ≠ 0) = true):(m % 1000 ≤ b)∧∃ sz,0 < sz∧∀ x ∈ [l],x.length = sz:=⟨of_decide_eq_true hb,l.length,by have:=of_decide_eq_true hl; omega,fun x hx => by rw [List.mem_singleton.1 hx]⟩
theorem fb1' {m b n:Nat} (hb:decide (m % 1000 ≤ b) = true) {l:List PVal} (hl:l.length = n) (hn:decide (n ≠ 0) = true):(m % 1000 ≤ b)∧∃ sz,0 < sz∧∀ x ∈ [l],x.length = sz:=⟨of_decide_eq_true hb,l.length,by have:=of_decide_eq_true hn; omega,fun x hx => by rw [List.mem_singleton.1 hx]⟩
theorem fb2 (b:Nat) {l:List PVal} (h:clL 0 l):noLL b [l]:=qoa b _ ⟨h,trivial⟩
theorem fb3 {l r:List PVal} (h:r = l):l = [r].flatten:=by rw [h]; simp
theorem nof (b:Nat) {p:PVal} (h:p.cl 0):p.no b:=qu4 b p h
theorem nofL (b:Nat) {p:List PVal} (h:clL 0 p):(PVal.eptr p).no b:=qu4 b _ h
end
theorem clF {α:Type} {c:α→List PVal} (n:Nat) (h:∀ x,clL 0 (c x)):∀ (l:List α),clL n (flC c l)
  | [] => trivial
  | x :: l => by
    have e:flC c (x :: l) = c x ++ flC c l:=by simp [flC]
    rw [e]
    exact qom.2 ⟨qbQ (h x),clF n h l⟩
theorem eF (e:Exit) (s:PSt):PS [] (e = e∧s.tmps = s.tmps∧s.boxes = s.boxes∧true = true):=⟨rfl,fr s⟩
theorem eFx (m:Nat) (e:Exit) (s:PSt) (h4:decide (m % 1000 ≤ s.boxes.length) = true) (h5:clL s.boxes.length s.tmps) (h6:clBs s.boxes.length s.boxes) :
    PS [] (e = e∧s.tmps = s.tmps∧s.boxes = s.boxes∧true = true∧decide (m % 1000 ≤ s.boxes.length) = true∧clL s.boxes.length s.tmps∧clBs s.boxes.length s.boxes):=⟨rfl,frx m s h4 h5 h6⟩
end Go.Proofs.YtgldgpdhblndkaaGreatDoor
