/- WHAT IS PROVED: parts of the proof, put together by a program (SatQ). Conditions: none. -/
import Derived.Test.YtgldgpdhblndkaaGreatDoorPkE23
noncomputable section
namespace Go.Proofs.YtgldgpdhblndkaaGreatDoor
open Go
def idn {α:Type} (n:Nat) (l:List α) (i:Int):Option α:=if 0 ≤ i∧i.toNat < n then l[i.toNat]? else none
def idm {α:Type} (lo:Int) (n:Nat) (l:List α) (i:Int):Option α:=if 0 ≤ lo∧0 ≤ i∧i.toNat < n then l[(lo + i).toNat]? else none
def slcn (n:Nat) (lo hi:Int):Option Nat:=if 0 ≤ lo∧lo ≤ hi∧hi.toNat ≤ n then some (hi.toNat - lo.toNat) else none
def frz {α:Type} (n:Nat) (l:List α):Option (List α):=if n = l.length then some l else none
theorem qHk {α:Type} {n:Nat} {l:List α} {i:Int} {x:α} (h:idn n l i = some x):idx l i = some x:=by
 unfold idn at h
 split at h
 ·rename_i hh; unfold idx; rw [if_pos hh.1]; exact h
 ·cases h
theorem qyn {α:Type} {n:Nat} {l r:List α} (h:frz n l = some r):n = l.length∧r = l:=by
 unfold frz at h
 split at h
 ·cases h; exact ⟨by assumption,rfl⟩
 ·cases h
section
variable {P:Program} {GE:List (Nat×List PVal)} {T e:TypeId} {α:Type} {c:α→List PVal}
theorem SlT.iaN (s:SlT P T e c) (b:Nat) {n:Nat} {l:List α} {i:Int} {k:IntKind} {x:α} (h:idn n l i = some x):qeJ P T (.bsl b 0 n) (.int k i) = some (.bptr b (qib P e i)):=by
 unfold idn at h
 split at h
 ·rename_i hh
  unfold qeJ
  rw [s.hu]
  simp only
  rw [if_pos ⟨hh.1,by omega,s.hi⟩]
 ·cases h
theorem SlT.iaM (s:SlT P T e c) (b:Nat) {lo:Int} {n:Nat} {l:List α} {i:Int} {k:IntKind} {x:α} (h:idm lo n l i = some x):qeJ P T (.bsl b (qib P e lo) n) (.int k i) = some (.bptr b (qib P e (lo + i))):=by
 unfold idm at h
 split at h
 ·rename_i hh
  unfold qeJ
  rw [s.hu]
  simp only
  rw [if_pos ⟨hh.2.1,by omega,s.hi⟩]
  have:(lo + i).toNat = lo.toNat + i.toNat:=by omega
  simp only [qib,this,Nat.zero_add,Nat.add_mul]
 ·cases h
theorem SlT.ldN (s:SlT P T e c) {n:Nat} {l:List α} {i:Int} {x:α} {p:PVal} (hl:∀ r,qbg P e (c x ++ r) = some p) (h:idn n l i = some x):qbg P e ((flC c l).drop (qib P e i)) = some p:=s.ldR hl (qHk h)
theorem SlT.ldM (s:SlT P T e c) {lo:Int} {n:Nat} {l:List α} {i:Int} {x:α} {p:PVal} (hl:∀ r,qbg P e (c x ++ r) = some p) (h:idm lo n l i = some x):qbg P e ((flC c l).drop (qib P e (lo + i))) = some p:=by
 refine s.ldR hl ?_
 unfold idm at h
 split at h
 ·rename_i hh; unfold idx; rw [if_pos (by omega)]; exact h
 ·cases h
theorem SlT.scN (s:SlT P T e c) (b:Nat) {n m:Nat} {lo hi:Int} (h:slcn n lo hi = some m):qtN P T (.bsl b 0 n) (some (.int .i64 lo)) (some (.int .i64 hi)) none = some (.bsl b (qib P e lo) m):=by
 unfold slcn at h
 split at h
 ·rename_i hh
  cases h
  unfold qtN
  rw [s.hu]
  simp only [pnat,if_pos hh.1,if_pos (show 0 ≤ hi by omega)]
  rw [if_pos ⟨by omega,hh.2.2,s.hi⟩]
 ·cases h
theorem SlT.fz1 (s:SlT P T e c) {m b:Nat} (hb:decide (m % 1000 ≤ b) = true) (l:List α):(m % 1000 ≤ b)∧∃ sz,0 < sz∧∀ x ∈ l.map c,x.length = sz:=⟨of_decide_eq_true hb,_,s.hp,fun x hx => (s.mapOk l x hx).1⟩
theorem SlT.fz2 (s:SlT P T e c) (b:Nat) (l:List α):noLL b (l.map c):=qpb b _ (qBo fun p hp => by obtain ⟨x,_,rfl⟩:=List.mem_map.1 hp; exact s.cl x)
theorem fz3 (c:α→List PVal) {n:Nat} {l r:List α} (h:frz n l = some r):flC c l = (r.map c).flatten:=by rw [(qyn h).2]; rfl
theorem fz4 (c:α→List PVal) {n:Nat} {l r:List α} (h:frz n l = some r):n = (r.map c).length:=by rw [(qyn h).2,List.length_map]; exact (qyn h).1
theorem fb1 {m b:Nat} (hb:decide (m % 1000 ≤ b) = true) (l:List PVal) (hl:decide (l.length ≠ 0) = true):(m % 1000 ≤ b)∧∃ sz,0 < sz∧∀ x ∈ [l],x.length = sz:=⟨of_decide_eq_true hb,l.length,by have:=of_decide_eq_true hl; omega,fun x hx => by rw [List.mem_singleton.1 hx]⟩
theorem fb1' {m b n:Nat} (hb:decide (m % 1000 ≤ b) = true) {l:List PVal} (hl:l.length = n) (hn:decide (n ≠ 0) = true):(m % 1000 ≤ b)∧∃ sz,0 < sz∧∀ x ∈ [l],x.length = sz:=⟨of_decide_eq_true hb,l.length,by have:=of_decide_eq_true hn; omega,fun x hx => by rw [List.mem_singleton.1 hx]⟩
theorem fb2 (b:Nat) {l:List PVal} (h:clL 0 l):noLL b [l]:=qpb b _ ⟨h,trivial⟩
theorem fb3 {l r:List PVal} (h:r = l):l = [r].flatten:=by rw [h]; simp
theorem nof (b:Nat) {p:PVal} (h:p.cl 0):p.no b:=qyr b p h
theorem nofL (b:Nat) {p:List PVal} (h:clL 0 p):(PVal.eptr p).no b:=qyr b _ h
end
theorem clF {α:Type} {c:α→List PVal} (n:Nat) (h:∀ x,clL 0 (c x)):∀ (l:List α),clL n (flC c l)
 | [] => trivial
 | x :: l => by
  have e:flC c (x :: l) = c x ++ flC c l:=by simp [flC]
  rw [e]
  exact qoP.2 ⟨qbO (h x),clF n h l⟩
theorem noF {α:Type} {c:α→List PVal} (b:Nat) (h:∀ x,clL 0 (c x)) (l:List α):noL b (flC c l):=qi1 b _ (clF 0 h l)
theorem xS (ρ:List Nat) (i j off n:Nat) (h:ρ[i]? = some j):Rix ρ (.bsl j off n) (.bsl i off n) := .bsl i j off n h
theorem xRL (ρ:List Nat):∀ (l:List PVal),clL 0 l→RixL ρ l l
 | [],_ => trivial
 | p :: l,h => by simp only [clL] at h; exact ⟨.refl p h.1,xRL ρ l h.2⟩
theorem eF (e:Exit) (s:PSt):PS [] (e = e∧s.tmps = s.tmps∧s.boxes = s.boxes∧true = true):=⟨rfl,fr s⟩
theorem eFx (m:Nat) (e:Exit) (s:PSt) (h4:decide (m % 1000 ≤ s.boxes.length) = true) (h5:clL s.boxes.length s.tmps) (h6:clBs s.boxes.length s.boxes) :
  PS [] (e = e∧s.tmps = s.tmps∧s.boxes = s.boxes∧true = true∧decide (m % 1000 ≤ s.boxes.length) = true∧clL s.boxes.length s.tmps∧clBs s.boxes.length s.boxes):=⟨rfl,frx m s h4 h5 h6⟩
end Go.Proofs.YtgldgpdhblndkaaGreatDoor
