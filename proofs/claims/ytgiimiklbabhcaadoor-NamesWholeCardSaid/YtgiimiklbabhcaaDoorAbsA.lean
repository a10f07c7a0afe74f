/-
  WHAT IS PROVED: the ground of an abstract machine for Go code that only makes new memory: abstract values ('PVal': slices are lists), how a value of the model's stands for one ('VR'), that this lasts while memory grows ('VR.mono'). No program in sight. Conditions: none.
-/
import Derived.WalkKit
import Derived.ProofKit
namespace Go.Proofs.YtgiimiklbabhcaaDoor
open Go

/-- An abstract value. 'undef': anything. 'eptr': a pointer to cells that never change. 'bptr', 'mapr': a pointer to a box of the state. -/
inductive PVal where
  | undef
  | int (k : IntKind) (n : Int)
  | bool (b : Bool)
  | str (s : List UInt8)
  | val (v : Value)
  | agg (cs : List PVal)
  | tuple (vs : List PVal)
  | slice (es : List (List PVal))
  | eptr (cs : List PVal)
  | bptr (i off : Nat)
  | mapr (i : Nat)
  | func (fn : Fn) (first cap : List PVal)
  deriving Inhabited

/-- Which cells never change: so many at the beginning of a block. -/
abbrev Ghost := Nat → Option Nat
/-- Which block a box of the state is. -/
abbrev Boxes := List (Option Nat)

inductive VR (Γ : Ghost) (bs : Boxes) (w : World) : PVal → Value → Prop where
  | undef (v : Value) : VR Γ bs w .undef v
  | int (k : IntKind) (n : Int) : VR Γ bs w (.int k n) (.int k n)
  | bool (b : Bool) : VR Γ bs w (.bool b) (.bool b)
  | str (l : List UInt8) : VR Γ bs w (.str l) (.string ⟨l.toArray⟩)
  | val (v : Value) : VR Γ bs w (.val v) v
  | agg (cs : List PVal) (vs : Array Value) (hl : vs.size = cs.length)
      (h : ∀ (i : Nat) p v, cs[i]? = some p → vs[i]? = some v → VR Γ bs w p v) : VR Γ bs w (.agg cs) (.agg vs)
  | tuple (cs : List PVal) (vs : Array Value) (hl : vs.size = cs.length)
      (h : ∀ (i : Nat) p v, cs[i]? = some p → vs[i]? = some v → VR Γ bs w p v) : VR Γ bs w (.tuple cs) (.tuple vs)
  | sliceNil : VR Γ bs w (.slice []) (.slice none 0 0)
  | sliceE (a : Addr) (cap : Nat) : VR Γ bs w (.slice []) (.slice (some a) 0 cap)
  | slice (es : List (List PVal)) (b off cap n sz : Nat) (vals : Nat → Nat → Value) (hcap : es.length ≤ cap) (hg : Γ b = some n)
      (hn : off + es.length * sz ≤ n) (hsz : ∀ (i : Nat) e, es[i]? = some e → e.length = sz)
      (hc : ∀ (i : Nat) e (k : Nat) p, es[i]? = some e → e[k]? = some p → w.cell? ⟨b, off + i * sz + k, none⟩ = some (vals i k))
      (hv : ∀ (i : Nat) e (k : Nat) p, es[i]? = some e → e[k]? = some p → VR Γ bs w p (vals i k)) :
      VR Γ bs w (.slice es) (.slice (some ⟨b, off, none⟩) es.length cap)
  | eptr (cs : List PVal) (b off n : Nat) (vals : Nat → Value) (hg : Γ b = some n) (hn : off + cs.length ≤ n)
      (hc : ∀ (k : Nat) p, cs[k]? = some p → w.cell? ⟨b, off + k, none⟩ = some (vals k))
      (hv : ∀ (k : Nat) p, cs[k]? = some p → VR Γ bs w p (vals k)) :
      VR Γ bs w (.eptr cs) (.pointer (some ⟨b, off, none⟩))
  | bptr (i off b : Nat) (h : bs[i]? = some (some b)) : VR Γ bs w (.bptr i off) (.pointer (some ⟨b, off, none⟩))
  | mapr (i b : Nat) (h : bs[i]? = some (some b)) : VR Γ bs w (.mapr i) (.map (some b))
  | func (fn : Fn) (first cap : List PVal) (fs cs : Array Value) (hl : fs.size = first.length) (hl' : cs.size = cap.length)
      (h : ∀ (i : Nat) p v, first[i]? = some p → fs[i]? = some v → VR Γ bs w p v)
      (h' : ∀ (i : Nat) p v, cap[i]? = some p → cs[i]? = some v → VR Γ bs w p v) : VR Γ bs w (.func fn first cap) (.func fn fs cs)

/-- What never changes has not changed; more may never change from now on. -/
def Ghost.Le (Γ : Ghost) (w : World) (Γ' : Ghost) (w' : World) : Prop :=
  ∀ b n, Γ b = some n → ∃ n', Γ' b = some n' ∧ n ≤ n' ∧ ∀ o, o < n → w'.cell? ⟨b, o, none⟩ = w.cell? ⟨b, o, none⟩

theorem Ghost.Le.refl (Γ : Ghost) (w : World) : Γ.Le w Γ w := fun _ n h => ⟨n, h, Nat.le_refl _, fun _ _ => rfl⟩
theorem Ghost.Le.trans {Γ Γ' Γ'' : Ghost} {w w' w'' : World} (h : Γ.Le w Γ' w') (h' : Γ'.Le w' Γ'' w'') : Γ.Le w Γ'' w'' := by
  intro b n hb
  obtain ⟨n', h1, h2, h3⟩ := h b n hb
  obtain ⟨n'', h4, h5, h6⟩ := h' b n' h1
  exact ⟨n'', h4, by omega, fun o ho => (h6 o (by omega)).trans (h3 o ho)⟩

def Boxes.Sub (bs bs' : Boxes) : Prop := ∀ (i b : Nat), bs[i]? = some (some b) → bs'[i]? = some (some b)
theorem Boxes.Sub.refl (bs : Boxes) : bs.Sub bs := fun _ _ h => h
theorem Boxes.Sub.trans {a b c : Boxes} (h : a.Sub b) (h' : b.Sub c) : a.Sub c := fun i x hx => h' i x (h i x hx)

theorem idx_lt {i k L sz : Nat} (hi : i < L) (hk : k < sz) : i * sz + k < L * sz := by
  have h : (i + 1) * sz ≤ L * sz := Nat.mul_le_mul_right sz hi
  rw [Nat.add_mul, Nat.one_mul] at h
  omega

theorem lt_of_get {α : Type} {l : List α} {i : Nat} {x : α} (h : l[i]? = some x) : i < l.length := (List.getElem?_eq_some_iff.1 h).1

theorem VR.mono {Γ Γ' : Ghost} {bs bs' : Boxes} {w w' : World} {p : PVal} {v : Value} (h : VR Γ bs w p v) (hle : Γ.Le w Γ' w') (hb : bs.Sub bs') : VR Γ' bs' w' p v := by
  induction h with
  | undef v => exact .undef v
  | int k n => exact .int k n
  | bool b => exact .bool b
  | str l => exact .str l
  | val v => exact .val v
  | agg cs vs hl _ ih => exact .agg cs vs hl ih
  | tuple cs vs hl _ ih => exact .tuple cs vs hl ih
  | sliceNil => exact .sliceNil
  | sliceE a cap => exact .sliceE a cap
  | slice es b off cap n sz vals hcap hg hn hsz hc _ ih =>
    obtain ⟨n', h1, h2, h3⟩ := hle b n hg
    refine .slice es b off cap n' sz vals hcap h1 (by omega) hsz (fun i e k p he hp => ?_) ih
    rw [h3 _ _]
    · exact hc i e k p he hp
    · have := idx_lt (lt_of_get he) (show k < sz by have := lt_of_get hp; rw [hsz i e he] at this; exact this)
      omega
  | eptr cs b off n vals hg hn hc _ ih =>
    obtain ⟨n', h1, h2, h3⟩ := hle b n hg
    refine .eptr cs b off n' vals h1 (by omega) (fun k p hp => ?_) ih
    rw [h3 _ (by have := lt_of_get hp; omega)]
    exact hc k p hp
  | bptr i off b h => exact .bptr i off b (hb i b h)
  | mapr i b h => exact .mapr i b (hb i b h)
  | func fn first cap fs cs hl hl' _ _ ih ih' => exact .func fn first cap fs cs hl hl' ih ih'

/- Which boxes a value leads to: all are below n. -/
mutual
def PVal.cl (n : Nat) : PVal → Prop
  | .undef | .int _ _ | .bool _ | .str _ | .val _ => True
  | .agg cs => clL n cs
  | .tuple cs => clL n cs
  | .slice es => clLL n es
  | .eptr cs => clL n cs
  | .bptr i _ => i < n
  | .mapr i => i < n
  | .func _ f c => clL n f ∧ clL n c
def clL (n : Nat) : List PVal → Prop
  | [] => True
  | p :: ps => p.cl n ∧ clL n ps
def clLL (n : Nat) : List (List PVal) → Prop
  | [] => True
  | p :: ps => clL n p ∧ clLL n ps
end

theorem clL_get {n : Nat} : ∀ {l : List PVal} {i : Nat} {p : PVal}, clL n l → l[i]? = some p → p.cl n
  | [], i, p, _, h => by simp at h
  | q :: l, 0, p, h, hp => by simp at hp; subst hp; simp only [clL] at h; exact h.1
  | q :: l, i + 1, p, h, hp => by simp only [clL] at h; exact clL_get h.2 (by simpa using hp)
theorem clLL_get {n : Nat} : ∀ {l : List (List PVal)} {i : Nat} {p : List PVal}, clLL n l → l[i]? = some p → clL n p
  | [], i, p, _, h => by simp at h
  | q :: l, 0, p, h, hp => by simp at hp; subst hp; simp only [clLL] at h; exact h.1
  | q :: l, i + 1, p, h, hp => by simp only [clLL] at h; exact clLL_get h.2 (by simpa using hp)
theorem clL_of {n : Nat} : ∀ {l : List PVal}, (∀ p ∈ l, p.cl n) → clL n l
  | [], _ => by simp [clL]
  | p :: l, h => by simp only [clL]; exact ⟨h p (by simp), clL_of fun q hq => h q (by simp [hq])⟩
theorem clLL_of {n : Nat} : ∀ {l : List (List PVal)}, (∀ p ∈ l, clL n p) → clLL n l
  | [], _ => by simp [clLL]
  | p :: l, h => by simp only [clLL]; exact ⟨h p (by simp), clLL_of fun q hq => h q (by simp [hq])⟩

/-- A value that leads to the first n boxes alone stands as well where the others are forgotten. -/
theorem VR.restrict {Γ : Ghost} {bs bs' : Boxes} {w : World} {p : PVal} {v : Value} {n : Nat} (h : VR Γ bs w p v) (hc : p.cl n)
    (hb : ∀ (i b : Nat), i < n → bs[i]? = some (some b) → bs'[i]? = some (some b)) : VR Γ bs' w p v := by
  induction h with
  | undef v => exact .undef v
  | int k n => exact .int k n
  | bool b => exact .bool b
  | str l => exact .str l
  | val v => exact .val v
  | agg cs vs hl _ ih => simp only [PVal.cl] at hc; exact .agg cs vs hl fun i p v hp hv => ih i p v hp hv (clL_get hc hp)
  | tuple cs vs hl _ ih => simp only [PVal.cl] at hc; exact .tuple cs vs hl fun i p v hp hv => ih i p v hp hv (clL_get hc hp)
  | sliceNil => exact .sliceNil
  | sliceE a cap => exact .sliceE a cap
  | slice es b off cap n sz vals hcap hg hn hsz hcc _ ih =>
    simp only [PVal.cl] at hc
    exact .slice es b off cap n sz vals hcap hg hn hsz hcc fun i e k p he hp => ih i e k p he hp (clL_get (clLL_get hc he) hp)
  | eptr cs b off n vals hg hn hcc _ ih =>
    simp only [PVal.cl] at hc
    exact .eptr cs b off n vals hg hn hcc fun k p hp => ih k p hp (clL_get hc hp)
  | bptr i off b h => simp only [PVal.cl] at hc; exact .bptr i off b (hb i b hc h)
  | mapr i b h => simp only [PVal.cl] at hc; exact .mapr i b (hb i b hc h)
  | func fn first cap fs cs hl hl' _ _ ih ih' =>
    simp only [PVal.cl] at hc
    exact .func fn first cap fs cs hl hl' (fun i p v hp hv => ih i p v hp hv (clL_get hc.1 hp)) (fun i p v hp hv => ih' i p v hp hv (clL_get hc.2 hp))

end Go.Proofs.YtgiimiklbabhcaaDoor
