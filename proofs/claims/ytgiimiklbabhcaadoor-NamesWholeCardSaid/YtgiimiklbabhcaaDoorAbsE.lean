/-
  WHAT IS PROVED: what each operation on values does in the abstract machine, and that the model's operation does the same (second part: arithmetic, comparisons, addresses, parts). No program in sight. Conditions: none.
-/
import Derived.Test.YtgiimiklbabhcaaDoorAbsD
namespace Go.Proofs.YtgiimiklbabhcaaDoor
open Go

/-- Longer texts and lists are passed over. -/
def lenMax : Nat := 4611686018427387904

def pint (op : BinOp) (k : IntKind) (a b : Int) : Option PVal :=
  match op with
  | .add => some (.int k (k.wrap (a + b)))
  | .sub => some (.int k (k.wrap (a - b)))
  | .mul => some (.int k (k.wrap (a * b)))
  | .quo => if b = 0 then none else some (.int k (k.wrap (a.tdiv b)))
  | .rem => if b = 0 then none else some (.int k (a.tmod b))
  | .eql => some (.bool (a == b))
  | .neq => some (.bool (a != b))
  | .lss => some (.bool (decide (a < b)))
  | .leq => some (.bool (decide (a ≤ b)))
  | .gtr => some (.bool (decide (a > b)))
  | .geq => some (.bool (decide (a ≥ b)))
  | _ => none

def pstr (op : BinOp) (a b : List UInt8) : Option PVal :=
  match op with
  | .add => if a.length + b.length ≤ lenMax then some (.str (a ++ b)) else none
  | .eql => some (.bool (a == b))
  | .neq => some (.bool !(a == b))
  | .lss => some (.bool (Op.bytesLess a b))
  | .leq => some (.bool (Op.bytesLess a b || a == b))
  | .gtr => some (.bool !(Op.bytesLess a b || a == b))
  | .geq => some (.bool !(Op.bytesLess a b))
  | _ => none

def pboolOp (op : BinOp) (a b : Bool) : Option PVal :=
  match op with
  | .eql => some (.bool (a == b))
  | .neq => some (.bool !(a == b))
  | _ => none

def pbin (P : Program) (op : BinOp) (T : TypeId) (x y : PVal) : Option PVal :=
  match x, y with
  | .int k a, .int k' b => if k = k' then pint op k a b else none
  | .str a, .str b => pstr op a b
  | .bool a, .bool b => match P.underlying T with | some .bool => pboolOp op a b | _ => none
  | _, _ => none

def pun (op : UnOp) (x : PVal) : Option PVal :=
  match op, x with
  | .not, .bool b => some (.bool !b)
  | .neg, .int k n => some (.int k (k.wrap (0 - n)))
  | _, _ => none

/-- The bytes that a list of cells holds. -/
def pbytes : List (List PVal) → Option (List UInt8)
  | [] => some []
  | [.int .u8 n] :: r => if 0 ≤ n ∧ n < 256 then (pbytes r).map (UInt8.ofNat n.toNat :: ·) else none
  | _ :: _ => none

def pconv (P : Program) (src dst : TypeId) (x : PVal) : Option PVal :=
  match P.underlying src, P.underlying dst, x with
  | some (.slice e), some .string, .slice es => match P.underlying e with
    | some (.int .u8) => (pbytes es).map .str
    | _ => none
  | some (.int _), some (.int k), .int _ n => some (.int k (k.wrap n))
  | some .string, some .string, .str s => some (.str s)
  | _, _, _ => none

def pfieldAddr (P : Program) (s : TypeId) (x : PVal) (f : Nat) : Option PVal :=
  match P.underlying s with
  | some (.struct fs) =>
    match fs[f]? with
    | some fd => if P.cellsOf fd.type = 0 then none else
      match x with
      | .eptr cs => if fd.offset ≤ cs.length then some (.eptr (cs.drop fd.offset)) else none
      | .bptr i off => some (.bptr i (off + fd.offset))
      | _ => none
    | none => none
  | _ => none

def pindexAddr (P : Program) (t : TypeId) (x ix : PVal) : Option PVal :=
  match P.underlying t, x, ix with
  | some (.slice e), .slice es, .int _ i =>
    if 0 ≤ i then match es[i.toNat]? with
      | some el => if el.length = P.cellsOf e ∧ (P.info? e).isSome then some (.eptr el) else none
      | none => none
    else none
  | some (.array n e), .eptr cs, .int _ i => if 0 ≤ i ∧ i < n ∧ (P.info? e).isSome ∧ i.toNat * P.cellsOf e ≤ cs.length then some (.eptr (cs.drop (i.toNat * P.cellsOf e))) else none
  | some (.array n e), .bptr b off, .int _ i => if 0 ≤ i ∧ i < n ∧ (P.info? e).isSome then some (.bptr b (off + i.toNat * P.cellsOf e)) else none
  | _, _, _ => none

def pfield (P : Program) (t : TypeId) (x : PVal) (f : Nat) : Option PVal :=
  match P.underlying t, x with
  | some (.struct fs), .agg cs => match fs[f]? with
    | some fd => plook P fd.type (cs.drop fd.offset)
    | none => none
  | _, _ => none

def pindex (P : Program) (t : TypeId) (x ix : PVal) : Option PVal :=
  match P.underlying t, x, ix with
  | some (.array n e), .agg cs, .int _ i => if 0 ≤ i ∧ i < n ∧ (P.info? e).isSome then plook P e (cs.drop (i.toNat * P.cellsOf e)) else none
  | some .string, .str s, .int _ i => if 0 ≤ i then (s[i.toNat]?).map fun c => .int .u8 c.toNat else none
  | _, _, _ => none

def pextract (x : PVal) (i : Nat) : Option PVal := match x with | .tuple vs => vs[i]? | _ => none

def pnat (x : Option PVal) (d : Nat) : Option Nat :=
  match x with
  | none => some d
  | some (.int _ i) => if 0 ≤ i then some i.toNat else none
  | some _ => none

def pslice (P : Program) (t : TypeId) (x : PVal) (lo hi mx : Option PVal) : Option PVal :=
  match P.underlying t, x, mx with
  | some .string, .str s, none =>
    match pnat lo 0, pnat hi s.length with
    | some l, some h => if l ≤ h ∧ h ≤ s.length then some (.str ((s.take h).drop l)) else none
    | _, _ => none
  | some (.slice e), .slice es, none =>
    match pnat lo 0, pnat hi es.length with
    | some l, some h => if l ≤ h ∧ h ≤ es.length ∧ (P.info? e).isSome ∧ (∀ x ∈ es.take 1, x.length = P.cellsOf e) then some (.slice ((es.take h).drop l)) else none
    | _, _ => none
  | _, _, _ => none

section
variable {P : Program} {E : Ent} {Γ : Ghost} {bs : Boxes} {ow : Nat → Option Loc} {w : World} {a : Array Value} {st : PSt}

theorem pint_run {op : BinOp} {k : IntKind} {x y : Int} {p : PVal} (T : TypeId) (ox oy : Operand) (h : pint op k x y = some p) :
    ∃ v, (do eqGuard op T ox oy (.int k x) (.int k y); binOp op T (.int k x) (.int k y) : Sem Value).run P w = .ok v w ∧ VR Γ bs w p v := by
  cases op <;> simp only [pint] at h
  all_goals first
    | (cases h; done)
    | (cases h; refine ⟨_, ?_, .int _ _⟩; simp [eqGuard, binOp, Op.intArith]; done)
    | (cases h; refine ⟨_, ?_, .bool _⟩; simp [eqGuard, binOp, Op.intCmp]; done)
    | (split at h
       · cases h
       · cases h; refine ⟨_, ?_, .int _ _⟩; simp [eqGuard, binOp, Op.intDiv, *])

theorem string_list (l : List UInt8) : (ByteArray.mk l.toArray).toList = l := by simp

theorem pstr_run {op : BinOp} {x y : List UInt8} {p : PVal} (T : TypeId) (ox oy : Operand) (h : pstr op x y = some p) :
    ∃ v, (do eqGuard op T ox oy (.string ⟨x.toArray⟩) (.string ⟨y.toArray⟩); binOp op T (.string ⟨x.toArray⟩) (.string ⟨y.toArray⟩) : Sem Value).run P w = .ok v w ∧ VR Γ bs w p v := by
  cases op <;> simp only [pstr] at h
  all_goals first
    | (cases h; done)
    | (cases h; refine ⟨_, ?_, .bool _⟩; simp [eqGuard, binOp, Op.stringOp]; done)
    | (split at h
       · rename_i hl
         cases h
         refine ⟨.string ⟨(x ++ y).toArray⟩, ?_, .str _⟩
         have hsz : ¬ (((ByteArray.mk x.toArray).size + (ByteArray.mk y.toArray).size : Nat) : Int) > IntKind.i64.max := by
           show ¬ (((x.toArray.size + y.toArray.size : Nat) : Int) > IntKind.i64.max)
           simp only [List.size_toArray]
           have : (IntKind.i64.max : Int) = 9223372036854775807 := by decide
           unfold lenMax at hl
           omega
         have happ : ByteArray.mk x.toArray ++ ByteArray.mk y.toArray = ByteArray.mk (x ++ y).toArray := by
           apply ByteArray.ext; simp
         simp only [eqGuard, binOp, Op.stringOp, if_neg hsz, happ]
         simp
       · cases h)

theorem run_equal_bool {T : TypeId} (hT : P.underlying T = some .bool) (x y : Bool) : (Op.equal T (.bool x) (.bool y)).run P w = .ok (x == y) w := by
  show (Op.equalIn (9999 + 1) T (.bool x) (.bool y)).run P w = _
  rw [Op.equalIn]
  simp [run_underlying hT]

theorem pbin_run {op : BinOp} {T : TypeId} {x y p : PVal} {vx vy : Value} (hx : VR Γ bs w x vx) (hy : VR Γ bs w y vy) (ox oy : Operand) (h : pbin P op T x y = some p) :
    ∃ v, (do eqGuard op T ox oy vx vy; binOp op T vx vy : Sem Value).run P w = .ok v w ∧ VR Γ bs w p v := by
  unfold pbin at h
  split at h
  · split at h
    · rename_i hk; subst hk
      cases hx; cases hy
      exact pint_run T ox oy h
    · cases h
  · cases hx; cases hy
    exact pstr_run T ox oy h
  · split at h
    · rename_i hT
      cases hx; cases hy
      cases op <;> simp only [pboolOp] at h
      all_goals first
        | (cases h; done)
        | (cases h; refine ⟨_, ?_, .bool _⟩; simp [eqGuard, binOp, run_equal_bool hT]; done)
    · cases h
  · cases h

theorem pun_run {op : UnOp} {x p : PVal} {vx : Value} (hx : VR Γ bs w x vx) (h : pun op x = some p) :
    ∃ v, (Op.unary op vx).run P w = .ok v w ∧ VR Γ bs w p v := by
  unfold pun at h
  split at h
  · cases h; cases hx; exact ⟨_, by simp [Op.unary], .bool _⟩
  · cases h; cases hx; exact ⟨_, by simp [Op.unary, Op.intArith], .int _ _⟩
  · cases h

theorem pbytes_get : ∀ {es : List (List PVal)} {l : List UInt8}, pbytes es = some l → es.length = l.length ∧ ∀ (i : Nat) (h : i < l.length), es[i]? = some [.int .u8 (l[i].toNat : Int)]
  | [], l, h => by simp [pbytes] at h; subst h; simp
  | e :: r, l, h => by
    unfold pbytes at h
    split at h
    · rename_i h1; cases h1
    · rename_i n r' h1
      cases h1
      split at h
      · rename_i hn
        cases hr : pbytes r with
        | none => rw [hr] at h; cases h
        | some l' =>
          rw [hr] at h
          cases h
          obtain ⟨k1, k2⟩ := pbytes_get hr
          refine ⟨by simp [k1], fun i hi => ?_⟩
          cases i with
          | zero =>
            simp only [List.getElem?_cons_zero, List.getElem_cons_zero, Option.some.injEq, List.cons.injEq, and_true, PVal.int.injEq, true_and]
            rw [UInt8.toNat_ofNat_of_lt' (by show n.toNat < 256; omega)]
            omega
          | succ i => simpa using k2 i (by simpa using hi)
      · cases h
    · cases h

theorem pconv_run {src dst : TypeId} {x p : PVal} {vx : Value} (hx : VR Γ bs w x vx) (h : pconv P src dst x = some p) :
    ∃ v, (convert src dst vx).run P w = .ok v w ∧ VR Γ bs w p v := by
  unfold pconv at h
  split at h
  · rename_i e es h1 h2
    split at h
    · rename_i h3
      cases hb : pbytes es with
      | none => rw [hb] at h; cases h
      | some l =>
        rw [hb] at h
        cases h
        obtain ⟨k1, k2⟩ := pbytes_get hb
        cases hx with
        | sliceNil =>
          have hl : l = [] := by simpa using k1.symm
          subst hl
          refine ⟨.string ⟨#[]⟩, ?_, .str []⟩
          rw [run_convert_bytes_string w src dst e none 0 0 h1 h3 h2]
          rfl
        | sliceE a cap =>
          have hl : l = [] := by simpa using k1.symm
          subst hl
          exact ⟨.string ⟨#[]⟩, run_convert_bytes_back w src dst e a cap [] h1 h3 h2 (fun j hj => by simp at hj), .str []⟩
        | slice _ b off cap n sz vals hcap hg hn hsz hc hv =>
          refine ⟨.string ⟨l.toArray⟩, ?_, .str l⟩
          rw [k1]
          refine run_convert_bytes_back w src dst e ⟨b, off, none⟩ cap l h1 h3 h2 fun j hj => ?_
          have hj2 := k2 j hj
          have hs1 : sz = 1 := by have := hsz j _ hj2; simpa using this.symm
          subst hs1
          have e1 := hc j _ 0 _ hj2 rfl
          have e2 := hv j _ 0 _ hj2 rfl
          rw [Addr.add_lit]
          rw [show off + j * 1 + 0 = off + j by omega] at e1
          rw [e1]
          generalize vals j 0 = q at e2
          cases e2
          rfl
    · cases h
  · rename_i h1 h2
    cases h; cases hx
    exact ⟨_, by simp [convert, run_underlying h1, run_underlying h2, Conv.intToInt], .int _ _⟩
  · rename_i h1 h2
    cases h; cases hx
    exact ⟨_, by simp [convert, run_underlying h1, run_underlying h2], .str _⟩
  · cases h

/-- Behind the first cells of a row that never changes stand the others. -/
theorem VR.eptr_drop {cs : List PVal} {v : Value} (h : VR Γ bs w (.eptr cs) v) {d : Nat} (hd : d ≤ cs.length) :
    ∃ b off, v = .pointer (some ⟨b, off, none⟩) ∧ VR Γ bs w (.eptr (cs.drop d)) (.pointer (some ⟨b, off + d, none⟩)) := by
  cases h with
  | eptr cs b off n vals hg hn hc hv =>
    refine ⟨b, off, rfl, .eptr _ b (off + d) n (fun k => vals (d + k)) hg (by simp; omega) (fun k p hp => ?_) (fun k p hp => ?_)⟩
    · rw [List.getElem?_drop] at hp
      have := hc _ _ hp
      rwa [← Nat.add_assoc] at this
    · rw [List.getElem?_drop] at hp
      exact hv _ _ hp

theorem pfieldAddr_run {s : TypeId} {f : Nat} {x p : PVal} {vx : Value} (hx : VR Γ bs w x vx) (h : pfieldAddr P s x f = some p) :
    ∃ v, (Instr.fieldAt s vx f).run P w = .ok v w ∧ VR Γ bs w p v := by
  unfold pfieldAddr at h
  split at h
  · rename_i fs hs
    split at h
    · rename_i fd hf
      split at h
      · cases h
      · rename_i hz
        have hinfo : ∃ i, P.info? fd.type = some i := by
          cases hi : P.info? fd.type with
          | some i => exact ⟨i, rfl⟩
          | none => simp [Program.cellsOf, hi] at hz
        obtain ⟨i, hi⟩ := hinfo
        split at h
        · split at h
          · rename_i cs hd
            cases h
            obtain ⟨b, off, rfl, hv⟩ := hx.eptr_drop hd
            refine ⟨_, ?_, hv⟩
            simp [Instr.fieldAt, run_underlying hs, hf, Instr.sureAddr, fieldPlace, run_sizeOf w hi, hz, Addr.add_lit]
          · cases h
        · cases h
          cases hx with
          | bptr i' off b hb =>
            refine ⟨_, ?_, .bptr _ _ _ hb⟩
            simp [Instr.fieldAt, run_underlying hs, hf, Instr.sureAddr, fieldPlace, run_sizeOf w hi, hz, Addr.add_lit]
        · cases h
    · cases h
  · cases h

theorem pindexAddr_run {t : TypeId} {x ix p : PVal} {vx vi : Value} (hx : VR Γ bs w x vx) (hi : VR Γ bs w ix vi) (h : pindexAddr P t x ix = some p) :
    ∃ v, (Instr.indexAt t vx vi).run P w = .ok v w ∧ VR Γ bs w p v := by
  unfold pindexAddr at h
  split at h
  · rename_i e es k i ht
    cases hi
    split at h
    · rename_i h0
      split at h
      · rename_i el hel
        split at h
        · rename_i hel2
          obtain ⟨hsz', hinf⟩ := hel2
          obtain ⟨inf, hinf⟩ := Option.isSome_iff_exists.1 hinf
          cases h
          have hlt := lt_of_get hel
          cases hx with
          | sliceNil => simp at hlt
          | sliceE a cap => simp at hlt
          | slice es b off cap n sz vals hcap hg hn hsz hc hv =>
            have hs := hsz _ _ hel
            have hsz2 : sz = P.cellsOf e := by omega
            have hix : i < (es.length : Int) := by omega
            refine ⟨.pointer (some ⟨b, off + i.toNat * sz, none⟩), ?_, .eptr el b _ n (fun k => vals i.toNat k) hg ?_ (fun k p hp => hc _ _ _ _ hel hp) (fun k p hp => hv _ _ _ _ hel hp)⟩
            · simp [Instr.indexAt, run_underlying ht, asIntOf, run_sizeOf w hinf, h0, hix, Addr.add_lit, hsz2]
            · have h2 : (i.toNat + 1) * sz ≤ es.length * sz := Nat.mul_le_mul_right sz hlt
              rw [Nat.add_mul, Nat.one_mul] at h2
              omega
        · cases h
      · cases h
    · cases h
  · rename_i n e cs k i ht
    cases hi
    split at h
    · rename_i hh
      obtain ⟨h0, h1, hinf, hd⟩ := hh
      obtain ⟨inf, hinf⟩ := Option.isSome_iff_exists.1 hinf
      cases h
      obtain ⟨b, off, rfl, hv⟩ := hx.eptr_drop hd
      refine ⟨_, ?_, hv⟩
      simp [Instr.indexAt, run_underlying ht, asIntOf, Instr.sureAddr, run_sizeOf w hinf, h0, h1, Addr.add_lit]
    · cases h
  · rename_i n e bx off k i ht
    cases hi
    split at h
    · rename_i hh
      obtain ⟨h0, h1, hinf⟩ := hh
      obtain ⟨inf, hinf⟩ := Option.isSome_iff_exists.1 hinf
      cases h
      cases hx with
      | bptr i' off b hb =>
        refine ⟨_, ?_, .bptr _ _ _ hb⟩
        simp [Instr.indexAt, run_underlying ht, asIntOf, Instr.sureAddr, run_sizeOf w hinf, h0, h1, Addr.add_lit]
    · cases h
  · cases h

end
end Go.Proofs.YtgiimiklbabhcaaDoor
