/- WHAT IS PROVED: parts of the proof, put together by a program (AbsD AbsE). Conditions: none. -/
import Derived.Test.YtgldgpdhblndkaaGreatDoorPkE1
noncomputable section
namespace Go.Proofs.YtgldgpdhblndkaaGreatDoor
open Go
def absC:Value→PVal
 | .int k n => .int k n
 | .bool b => .bool b
 | .string s => .str s.data.toList
 | .slice none 0 0 => .slice []
 | v => .val v
def absV:Value→PVal
 | .agg cs => .agg (cs.toList.map absC)
 | v => absC v
theorem VR.absC {Γ:qaP} {bs:qbj} {w:World} (v:Value):VR Γ bs w (absC v) v:=by
 unfold Go.Proofs.YtgldgpdhblndkaaGreatDoor.absC
 split
 ·exact .int _ _
 ·exact .bool _
 ·rename_i s; exact .str s.data.toList
 ·exact .sliceNil
 ·exact .val _
theorem VR.absV {Γ:qaP} {bs:qbj} {w:World} (v:Value):VR Γ bs w (absV v) v:=by
 unfold Go.Proofs.YtgldgpdhblndkaaGreatDoor.absV
 split
 ·rename_i cs
  refine .agg _ cs (by simp) fun i p v hp hv => ?_
  simp only [List.getElem?_map,Array.getElem?_toList,hv,Option.map_some,Option.some.injEq] at hp
  subst hp; exact .absC v
 ·exact .absC v
def qsU:List (Nat×List PVal)→Nat→PVal
 | [],_ => .undef
 | (g,cs) :: r,x => if g = x then .eptr cs else qsU r x
def opv (GE:List (Nat×List PVal)) (tmps:List PVal):Operand→PVal
 | .tmp t => tmps.getD t .undef
 | .const v => absV v
 | .global g => qsU GE g
 | .func f => .func (.func f) [] []
theorem qzN {GE:List (Nat×List PVal)} {g:Nat}:qsU GE g = .undef∨∃ cs,(g,cs) ∈ GE∧qsU GE g = .eptr cs:=by
 induction GE with
 | nil => exact .inl rfl
 | cons x r ih =>
  obtain ⟨h,cs⟩:=x
  simp only [qsU]
  split
  ·rename_i e; subst e; exact .inr ⟨cs,by simp,rfl⟩
  ·rcases ih with ih | ⟨cs',h1,h2⟩
   ·exact .inl ih
   ·exact .inr ⟨cs',by simp [h1],h2⟩
section
variable {P:Program} {E:Ent} {Γ:qaP} {bs:qbj} {ow:Nat→Option Loc} {w:World} {a:Array Value} {st:PSt}
theorem SR.opv (h:SR P E Γ bs ow w a st) (ds:List Deferred) (x:Operand):VR Γ bs w (opv E.GE st.tmps x) ((Act.mk a ds).eval x):=by
 cases x with
 | tmp t =>
  show VR Γ bs w (st.tmps.getD t .undef) (a.getD t undef)
  by_cases ht:t < a.size
  ·have h1:st.tmps[t]? = some (st.tmps[t]'(by rw [← h.sz]; exact ht)):=by simp
   have h2:a[t]? = some a[t]:=by simp [ht]
   have:=h.tm t _ _ h1 h2
   rw [List.getD_eq_getElem?_getD,h1]
   simpa [Array.getD_eq_getD_getElem?,ht] using this
  ·have:st.tmps[t]? = none:=List.getElem?_eq_none (by rw [← h.sz]; exact Nat.le_of_not_lt ht)
   rw [List.getD_eq_getElem?_getD,this]
   exact .undef _
 | const v => exact .absV v
 | global g =>
  show VR Γ bs w (qsU E.GE g) _
  rcases qzN (GE:=E.GE) (g:=g) with h1 | ⟨cs,h1,h2⟩
  ·rw [h1]; exact .undef _
  ·rw [h2]; exact h.gl g cs h1
 | func f => exact .func _ [] [] #[] #[] rfl rfl (fun i p v hp _ => by simp at hp) (fun i p v hp _ => by simp at hp)
def _root_.Go.Proofs.YtgldgpdhblndkaaGreatDoor.PVal.one:PVal→Bool
 | .undef | .agg _ | .tuple _ => false
 | .val v => v.oneCell'
 | _ => true
theorem VR.one {p:PVal} {v:Value} (h:VR Γ bs w p v) (hp:p.one = true):v.oneCell' = true:=by
 cases h <;> first | rfl | (simp [PVal.one] at hp; done) | exact hp
theorem qv7 {v:Value} (h:v.oneCell' = true):v.cells = #[v]:=by
 cases v <;> simp [Value.oneCell'] at h <;> rfl
def qaJ:PVal→Option (List PVal)
 | .agg cs => some cs
 | p => if p.one then some [p] else none
theorem VR.cells {p:PVal} {v:Value} {cs:List PVal} (h:VR Γ bs w p v) (hp:qaJ p = some cs) :
  v.cells.size = cs.length∧∀ (i:Nat) q u,cs[i]? = some q→v.cells[i]? = some u→VR Γ bs w q u:=by
 have hone:∀ {p:PVal} {v:Value},VR Γ bs w p v→p.one = true→v.cells.size = [p].length∧∀ (i:Nat) q u,[p][i]? = some q→v.cells[i]? = some u→VR Γ bs w q u:=by
  intro p v h ho
  rw [qv7 (VR.one h ho)]
  refine ⟨rfl,fun i q u hq hu => ?_⟩
  match i,hq,hu with
  | 0,hq,hu =>
   simp at hq hu
   subst hq; subst hu; exact h
 unfold qaJ at hp
 split at hp
 ·cases hp
  cases h with
  | agg cs vs hl h => exact ⟨hl,h⟩
 ·split at hp
  ·rename_i ho
   cases hp
   exact hone h ho
  ·cases hp
def qbg (P:Program) (t:TypeId) (cs:List PVal):Option PVal :=
 match P.underlying t with
 | some (.struct _) | some (.array _ _) => if P.cellsOf t ≤ cs.length then some (.agg (cs.take (P.cellsOf t))) else none
 | some _ => cs.head?
 | none => none
theorem qkY {t:TypeId} {d:TypeDesc} (h:P.underlying t = some d):∃ i,P.info? t = some i:=by
 unfold Program.underlying at h
 cases hi:P.info? t with
 | some i => exact ⟨i,rfl⟩
 | none => simp [hi] at h
theorem qf7 {t:TypeId} {b off:Nat} {cs:List PVal} {vals:Nat→Value} {p:PVal} (hp:qbg P t cs = some p)
  (hc:∀ (k:Nat) q,cs[k]? = some q→w.cell? ⟨b,off + k,none⟩ = some (vals k)) (hv:∀ (k:Nat) q,cs[k]? = some q→VR Γ bs w q (vals k)) :
  ∃ v,(loadVar t ⟨b,off,none⟩).run P w = .ok v w∧VR Γ bs w p v:=by
 have hagg:∀ {d},P.underlying t = some d→(match d with | .struct _ | .array _ _ => True | _ => False)→P.cellsOf t ≤ cs.length →
   ∃ v,(loadVar t ⟨b,off,none⟩).run P w = .ok v w∧VR Γ bs w (.agg (cs.take (P.cellsOf t))) v:=by
  intro d hd hm hl
  obtain ⟨i,hi⟩:=qkY hd
  have hrun:=run_loadCells (P:=P) w ⟨b,off,none⟩ (P.cellsOf t) vals (fun j hj => by
   rw [Addr.add_lit]
   exact hc j _ (List.getElem?_eq_getElem (by omega)))
  refine ⟨.agg ((List.range (P.cellsOf t)).map vals).toArray,?_,.agg _ _ (by simp; omega) fun k q u hq hu => ?_⟩
  ·cases d <;> simp at hm <;> simp [loadVar,isAgg,run_underlying hd,run_sizeOf w hi,hrun]
  ·have hk:k < P.cellsOf t:=by have:=qae hq; simp at this; omega
   rw [List.getElem?_take_of_lt hk] at hq
   simp [hk] at hu
   subst hu
   exact hv k q hq
 unfold qbg at hp
 split at hp
 ·rename_i fs hd
  split at hp
  ·cases hp; exact hagg hd trivial ‹_›
  ·cases hp
 ·rename_i n e hd
  split at hp
  ·cases hp; exact hagg hd trivial ‹_›
  ·cases hp
 ·rename_i d hns hna hd
  cases cs with
  | nil => simp at hp
  | cons q cs =>
   simp at hp; subst hp
   have h0:=hc 0 q rfl
   simp only [Nat.add_zero] at h0
   refine ⟨vals 0,?_,hv 0 q rfl⟩
   cases d <;> simp at hns hna <;> simp [loadVar,isAgg,run_underlying hd,h0]
 ·cases hp
end
def qEU:Nat:=4611686018427387904
def pint (op:BinOp) (k:IntKind) (a b:Int):Option PVal :=
  match op with
  | .add => some (.int k (k.wrap (a + b)))
  | .sub => some (.int k (k.wrap (a - b)))
  | .mul => some (.int k (k.wrap (a * b)))
  | .quo => if b = 0 then none else some (.int k (k.wrap (a.tdiv b)))
  | .rem => if b = 0 then none else some (.int k (a.tmod b))
  | .eql => some (.bool (a == b))
  | .neq => some (.bool (a != b))
  | .lss => some (.bool (decide (a < b)))
  | .leq => some (.bool (decide (a ≤ b)))
  | .gtr => some (.bool (decide (a > b)))
  | .geq => some (.bool (decide (a ≥ b)))
  | _ => none
def pstr (op:BinOp) (a b:List UInt8):Option PVal :=
  match op with
  | .add => if a.length + b.length ≤ qEU then some (.str (a ++ b)) else none
  | .eql => some (.bool (a == b))
  | .neq => some (.bool !(a == b))
  | .lss => some (.bool (Op.bytesLess a b))
  | .leq => some (.bool (Op.bytesLess a b || a == b))
  | .gtr => some (.bool !(Op.bytesLess a b || a == b))
  | .geq => some (.bool !(Op.bytesLess a b))
  | _ => none
def qDY (op:BinOp) (a b:Bool):Option PVal :=
  match op with
  | .eql => some (.bool (a == b))
  | .neq => some (.bool !(a == b))
  | _ => none
def qoB (P:Program) (xs ys:List PVal):List Field→Option Bool
  | [] => some true
  | f :: r => if f.name = "_" then none else
    match qoB P xs ys r,P.underlying f.type,xs[f.offset]?,ys[f.offset]? with
    | some b,some (.int _),some (.int k a),some (.int k' c) => if k = k' then some ((a == c) && b) else none
    | some b,some .string,some (.str a),some (.str c) => some ((a == c) && b)
    | some b,some .bool,some (.bool a),some (.bool c) => some ((a == c) && b)
    | _,_,_,_ => none
def qr5 (P:Program) (T:TypeId) (xs ys:List PVal):Option Bool :=
  match P.stoodInHeld T,P.eqGuardType P.depth T,P.underlying T with
  | false,false,some (.struct fs) => qoB P xs ys fs.toList
  | _,_,_ => none
def pbin (P:Program) (op:BinOp) (T:TypeId) (x y:PVal):Option PVal :=
  match x,y with
  | .int k a,.int k' b => if k = k' then pint op k a b else none
  | .str a,.str b => pstr op a b
  | .bool a,.bool b => match P.underlying T with | some .bool => qDY op a b | _ => none
  | .agg xs,.agg ys => match op with
    | .eql => (qr5 P T xs ys).map .bool
    | .neq => (qr5 P T xs ys).map fun b => .bool !b
    | _ => none
  | _,_ => none
def pun (op:UnOp) (x:PVal):Option PVal :=
  match op,x with
  | .not,.bool b => some (.bool !b)
  | .neg,.int k n => some (.int k (k.wrap (0 - n)))
  | _,_ => none
def qrq:List (List PVal)→Option (List UInt8)
  | [] => some []
  | [.int .u8 n] :: r => if 0 ≤ n∧n < 256 then (qrq r).map (UInt8.ofNat n.toNat :: ·) else none
  | _ :: _ => none
def qy5 (P:Program) (src dst:TypeId) (x:PVal):Option PVal :=
  match P.underlying src,P.underlying dst,x with
  | some (.slice e),some .string,.slice es => match P.underlying e with
    | some (.int .u8) => (qrq es).map .str
    | _ => none
  | some (.int _),some (.int k),.int _ n => some (.int k (k.wrap n))
  | some .string,some .string,.str s => some (.str s)
  | _,_,_ => none
def qaM (P:Program) (s:TypeId) (x:PVal) (f:Nat):Option PVal :=
  match P.underlying s with
  | some (.struct fs) =>
    match fs[f]? with
    | some fd => if P.cellsOf fd.type = 0 then none else
      match x with
      | .eptr cs => if fd.offset ≤ cs.length then some (.eptr (cs.drop fd.offset)) else none
      | .bptr i off => some (.bptr i (off + fd.offset))
      | _ => none
    | none => none
  | _ => none
def qeJ (P:Program) (t:TypeId) (x ix:PVal):Option PVal :=
  match P.underlying t,x,ix with
  | some (.slice e),.slice es,.int _ i =>
    if 0 ≤ i then match es[i.toNat]? with
      | some el => if el.length = P.cellsOf e∧(P.info? e).isSome then some (.eptr el) else none
      | none => none
    else none
  | some (.slice e),.bsl b off n,.int _ i => if 0 ≤ i∧i < n∧(P.info? e).isSome then some (.bptr b (off + i.toNat * P.cellsOf e)) else none
  | some (.array n e),.eptr cs,.int _ i => if 0 ≤ i∧i < n∧(P.info? e).isSome∧i.toNat * P.cellsOf e ≤ cs.length then some (.eptr (cs.drop (i.toNat * P.cellsOf e))) else none
  | some (.array n e),.bptr b off,.int _ i => if 0 ≤ i∧i < n∧(P.info? e).isSome then some (.bptr b (off + i.toNat * P.cellsOf e)) else none
  | _,_,_ => none
def qCz (P:Program) (t:TypeId) (x:PVal) (f:Nat):Option PVal :=
  match P.underlying t,x with
  | some (.struct fs),.agg cs => match fs[f]? with
    | some fd => qbg P fd.type (cs.drop fd.offset)
    | none => none
  | _,_ => none
def qBK (P:Program) (t:TypeId) (x ix:PVal):Option PVal :=
  match P.underlying t,x,ix with
  | some (.array n e),.agg cs,.int _ i => if 0 ≤ i∧i < n∧(P.info? e).isSome then qbg P e (cs.drop (i.toNat * P.cellsOf e)) else none
  | some .string,.str s,.int _ i => if 0 ≤ i then (s[i.toNat]?).map fun c => .int .u8 c.toNat else none
  | _,_,_ => none
def qmo (x:PVal) (i:Nat):Option PVal:=match x with | .tuple vs => vs[i]? | _ => none
def pnat (x:Option PVal) (d:Nat):Option Nat :=
  match x with
  | none => some d
  | some (.int _ i) => if 0 ≤ i then some i.toNat else none
  | some _ => none
def qtN (P:Program) (t:TypeId) (x:PVal) (lo hi mx:Option PVal):Option PVal :=
  match P.underlying t,x,mx with
  | some .string,.str s,none =>
    match pnat lo 0,pnat hi s.length with
    | some l,some h => if l ≤ h∧h ≤ s.length then some (.str ((s.take h).drop l)) else none
    | _,_ => none
  | some (.slice e),.slice es,none =>
    match pnat lo 0,pnat hi es.length with
    | some l,some h => if l ≤ h∧h ≤ es.length∧(P.info? e).isSome∧(∀ x ∈ es.take 1,x.length = P.cellsOf e) then some (.slice ((es.take h).drop l)) else none
    | _,_ => none
  | some (.slice e),.bsl i off n,none =>
    match pnat lo 0,pnat hi n with
    | some l,some h => if l ≤ h∧h ≤ n∧(P.info? e).isSome then some (.bsl i (off + l * P.cellsOf e) (h - l)) else none
    | _,_ => none
  | _,_,_ => none
section
variable {P:Program} {E:Ent} {Γ:qaP} {bs:qbj} {ow:Nat→Option Loc} {w:World} {a:Array Value} {st:PSt}
theorem qF1 {op:BinOp} {k:IntKind} {x y:Int} {p:PVal} (T:TypeId) (ox oy:Operand) (h:pint op k x y = some p) :
    ∃ v,(do eqGuard op T ox oy (.int k x) (.int k y); binOp op T (.int k x) (.int k y):Sem Value).run P w = .ok v w∧VR Γ bs w p v:=by
  cases op <;> simp only [pint] at h
  all_goals first
    | (cases h; done)
    | (cases h; refine ⟨_,?_,.int _ _⟩; simp [eqGuard,binOp,Op.intArith]; done)
    | (cases h; refine ⟨_,?_,.bool _⟩; simp [eqGuard,binOp,Op.intCmp]; done)
    | (split at h
       · cases h
       · cases h; refine ⟨_,?_,.int _ _⟩; simp [eqGuard,binOp,Op.intDiv, *])
theorem qFL {op:BinOp} {x y:List UInt8} {p:PVal} (T:TypeId) (ox oy:Operand) (h:pstr op x y = some p) :
    ∃ v,(do eqGuard op T ox oy (.string ⟨x.toArray⟩) (.string ⟨y.toArray⟩); binOp op T (.string ⟨x.toArray⟩) (.string ⟨y.toArray⟩):Sem Value).run P w = .ok v w∧VR Γ bs w p v:=by
  cases op <;> simp only [pstr] at h
  all_goals first
    | (cases h; done)
    | (cases h; refine ⟨_,?_,.bool _⟩; simp [eqGuard,binOp,Op.stringOp]; done)
    | (split at h
       · rename_i hl
         cases h
         refine ⟨.string ⟨(x ++ y).toArray⟩,?_,.str _⟩
         have hsz:¬ (((ByteArray.mk x.toArray).size + (ByteArray.mk y.toArray).size:Nat):Int) > IntKind.i64.max:=by
           show ¬ (((x.toArray.size + y.toArray.size:Nat):Int) > IntKind.i64.max)
           simp only [List.size_toArray]
           have:(IntKind.i64.max:Int) = 9223372036854775807:=by decide
           unfold qEU at hl
           omega
         have happ:ByteArray.mk x.toArray ++ ByteArray.mk y.toArray = ByteArray.mk (x ++ y).toArray:=by
           apply ByteArray.ext; simp
         simp only [eqGuard,binOp,Op.stringOp,if_neg hsz,happ]
         simp
       · cases h)
theorem qwP {T:TypeId} (hT:P.underlying T = some .bool) (x y:Bool):(Op.equal T (.bool x) (.bool y)).run P w = .ok (x == y) w:=by
  show (Op.equalIn (9999 + 1) T (.bool x) (.bool y)).run P w = _
  rw [Op.equalIn]
  simp [run_underlying hT]
theorem qtO {d:Nat} {xs ys:List PVal} {vs us:Array Value} (h1:∀ (i:Nat) p v,xs[i]? = some p→vs[i]? = some v→VR Γ bs w p v) (h2:∀ (i:Nat) p v,ys[i]? = some p→us[i]? = some v→VR Γ bs w p v)
    (hz1:vs.size = xs.length) (hz2:us.size = ys.length):∀ {fs:List Field} {b:Bool},qoB P xs ys fs = some b→(Op.eqFields (d + 1) vs us fs).run P w = .ok b w
  | [],b,h => by cases h; simp [Op.eqFields]
  | f :: r,b,h => by
    unfold qoB at h
    split at h
    · cases h
    · rename_i hn
      have step:∀ {x y:PVal} {b1 b2:Bool} {D:TypeDesc},P.underlying f.type = some D→(match D with | .struct _ | .array _ _ => False | _ => True)→xs[f.offset]? = some x→ys[f.offset]? = some y→qoB P xs ys r = some b2 →
          (∀ {v u},VR Γ bs w x v→VR Γ bs w y u→(Op.equalIn (d + 1) f.type v u).run P w = .ok b1 w)→(Op.eqFields (d + 1) vs us (f :: r)).run P w = .ok (b1 && b2) w:=by
        intro x y b1 b2 D hD hnD hx hy hr hk
        have ih:=qtO h1 h2 hz1 hz2 (d:=d) hr
        obtain ⟨v,hv⟩:∃ v,vs[f.offset]? = some v:=⟨_,Array.getElem?_eq_getElem (by rw [hz1]; exact qae hx)⟩
        obtain ⟨u,hu⟩:∃ u,us[f.offset]? = some u:=⟨_,Array.getElem?_eq_getElem (by rw [hz2]; exact qae hy)⟩
        have hp1:(part f.type vs f.offset).run P w = .ok v w:=by cases D <;> simp at hnD <;> simp [part,isAgg,run_underlying hD,hv]
        have hp2:(part f.type us f.offset).run P w = .ok u w:=by cases D <;> simp at hnD <;> simp [part,isAgg,run_underlying hD,hu]
        have hq:=hk (h1 _ _ _ hx hv) (h2 _ _ _ hy hu)
        unfold Op.eqFields
        rw [if_pos hn]
        cases b1 <;> simp [hp1,hp2,hq,ih]
      split at h
      · rename_i b2 k' k a k2 c hr hD hx hy
        split at h
        · rename_i hk; subst hk
          cases h
          refine step hD trivial hx hy hr fun hv hu => ?_
          cases hv; cases hu
          exact run_equalIn_int w d f.type _ _ _ _ hD
        · cases h
      · rename_i b2 a c hr hD hx hy
        cases h
        refine step hD trivial hx hy hr fun hv hu => ?_
        cases hv; cases hu
        rw [run_equalIn_string w d f.type _ _ hD]
        simp
      · rename_i b2 a c hr hD hx hy
        cases h
        refine step hD trivial hx hy hr fun hv hu => ?_
        cases hv; cases hu
        exact run_equalIn_bool' w d f.type _ _ hD
      · cases h
theorem qGk {op:BinOp} {T:TypeId} {x y p:PVal} {vx vy:Value} (hx:VR Γ bs w x vx) (hy:VR Γ bs w y vy) (ox oy:Operand) (h:pbin P op T x y = some p) :
    ∃ v,(do eqGuard op T ox oy vx vy; binOp op T vx vy:Sem Value).run P w = .ok v w∧VR Γ bs w p v:=by
  unfold pbin at h
  split at h
  · split at h
    · rename_i hk; subst hk
      cases hx; cases hy
      exact qF1 T ox oy h
    · cases h
  · cases hx; cases hy
    exact qFL T ox oy h
  · split at h
    · rename_i hT
      cases hx; cases hy
      cases op <;> simp only [qDY] at h
      all_goals first
        | (cases h; done)
        | (cases h; refine ⟨_,?_,.bool _⟩; simp [eqGuard,binOp,qwP hT]; done)
    · cases h
  · rename_i xs ys
    cases hx with
    | agg _ vs hl1 hv1 =>
      cases hy with
      | agg _ us hl2 hv2 =>
        have key:∀ {b},qr5 P T xs ys = some b→P.eqGuardType P.depth T = false∧(Op.equalIn 10000 T (.agg vs) (.agg us)).run P w = .ok b w:=by
          intro b hb
          unfold qr5 at hb
          split at hb
          · rename_i fs h1 h2 h3
            have hf:P.fieldsOf T = fs:=by unfold Program.fieldsOf; rw [h3]
            refine ⟨h2,?_⟩
            rw [run_equalIn_struct w 9999 T vs us (by rw [hf]; exact h3) h1,hf]
            exact qtO (d:=9998) hv1 hv2 (by omega) (by omega) hb
          · cases hb
        cases op <;> simp only at h <;> first
          | (cases h; done)
          | (rw [Option.map_eq_some_iff] at h
             obtain ⟨b,hb,rfl⟩:=h
             obtain ⟨k1,k2⟩:=key hb
             refine ⟨_,?_,.bool _⟩
             simp [run_eqGuard_agg w _ T ox oy vs us k1,run_eql_struct,run_neq_struct,k2])
  · cases h
theorem qHj {op:UnOp} {x p:PVal} {vx:Value} (hx:VR Γ bs w x vx) (h:pun op x = some p) :
    ∃ v,(Op.unary op vx).run P w = .ok v w∧VR Γ bs w p v:=by
  unfold pun at h
  split at h
  · cases h; cases hx; exact ⟨_,by simp [Op.unary],.bool _⟩
  · cases h; cases hx; exact ⟨_,by simp [Op.unary,Op.intArith],.int _ _⟩
  · cases h
theorem qxK:∀ {es:List (List PVal)} {l:List UInt8},qrq es = some l→es.length = l.length∧∀ (i:Nat) (h:i < l.length),es[i]? = some [.int .u8 (l[i].toNat:Int)]
  | [],l,h => by simp [qrq] at h; subst h; simp
  | e :: r,l,h => by
    unfold qrq at h
    split at h
    · rename_i h1; cases h1
    · rename_i n r' h1
      cases h1
      split at h
      · rename_i hn
        cases hr:qrq r with
        | none => rw [hr] at h; cases h
        | some l' =>
          rw [hr] at h
          cases h
          obtain ⟨k1,k2⟩:=qxK hr
          refine ⟨by simp [k1],fun i hi => ?_⟩
          cases i with
          | zero =>
            simp only [List.getElem?_cons_zero,List.getElem_cons_zero,Option.some.injEq,List.cons.injEq,and_true,PVal.int.injEq,true_and]
            rw [UInt8.toNat_ofNat_of_lt' (by show n.toNat < 256; omega)]
            omega
          | succ i => simpa using k2 i (by simpa using hi)
      · cases h
    · cases h
theorem qE9 {src dst:TypeId} {x p:PVal} {vx:Value} (hx:VR Γ bs w x vx) (h:qy5 P src dst x = some p) :
    ∃ v,(convert src dst vx).run P w = .ok v w∧VR Γ bs w p v:=by
  unfold qy5 at h
  split at h
  · rename_i e es h1 h2
    split at h
    · rename_i h3
      cases hb:qrq es with
      | none => rw [hb] at h; cases h
      | some l =>
        rw [hb] at h
        cases h
        obtain ⟨k1,k2⟩:=qxK hb
        cases hx with
        | sliceNil =>
          have hl:l = []:=by simpa using k1.symm
          subst hl
          refine ⟨.string ⟨#[]⟩,?_,.str []⟩
          rw [run_convert_bytes_string w src dst e none 0 0 h1 h3 h2]
          rfl
        | sliceE a cap =>
          have hl:l = []:=by simpa using k1.symm
          subst hl
          exact ⟨.string ⟨#[]⟩,run_convert_bytes_back w src dst e a cap [] h1 h3 h2 (fun j hj => by simp at hj),.str []⟩
        | slice _ b off cap n sz vals hz0 hcap hg hn hsz hc hv =>
          refine ⟨.string ⟨l.toArray⟩,?_,.str l⟩
          rw [k1]
          refine run_convert_bytes_back w src dst e ⟨b,off,none⟩ cap l h1 h3 h2 fun j hj => ?_
          have hj2:=k2 j hj
          have hs1:sz = 1:=by have:=hsz j _ hj2; simpa using this.symm
          subst hs1
          have e1:=hc j _ 0 _ hj2 rfl
          have e2:=hv j _ 0 _ hj2 rfl
          rw [Addr.add_lit]
          rw [show off + j * 1 + 0 = off + j by omega] at e1
          rw [e1]
          generalize vals j 0 = q at e2
          cases e2
          rfl
    · cases h
  · rename_i h1 h2
    cases h; cases hx
    exact ⟨_,by simp [convert,run_underlying h1,run_underlying h2,Conv.intToInt],.int _ _⟩
  · rename_i h1 h2
    cases h; cases hx
    exact ⟨_,by simp [convert,run_underlying h1,run_underlying h2],.str _⟩
  · cases h
theorem VR.eptr_drop {cs:List PVal} {v:Value} (h:VR Γ bs w (.eptr cs) v) {d:Nat} (hd:d ≤ cs.length) :
    ∃ b off,v = .pointer (some ⟨b,off,none⟩)∧VR Γ bs w (.eptr (cs.drop d)) (.pointer (some ⟨b,off + d,none⟩)):=by
  cases h with
  | eptrE b off => exact ⟨b,off,rfl,by simpa using .eptrE b (off + d)⟩
  | eptr cs b off n vals hg hn hc hv =>
    refine ⟨b,off,rfl,.eptr _ b (off + d) n (fun k => vals (d + k)) hg (by simp; omega) (fun k p hp => ?_) (fun k p hp => ?_)⟩
    · rw [List.getElem?_drop] at hp
      have:=hc _ _ hp
      rwa [← Nat.add_assoc] at this
    · rw [List.getElem?_drop] at hp
      exact hv _ _ hp
theorem qwO {s:TypeId} {f:Nat} {x p:PVal} {vx:Value} (hx:VR Γ bs w x vx) (h:qaM P s x f = some p) :
    ∃ v,(Instr.fieldAt s vx f).run P w = .ok v w∧VR Γ bs w p v:=by
  unfold qaM at h
  split at h
  · rename_i fs hs
    split at h
    · rename_i fd hf
      split at h
      · cases h
      · rename_i hz
        have hinfo:∃ i,P.info? fd.type = some i:=by
          cases hi:P.info? fd.type with
          | some i => exact ⟨i,rfl⟩
          | none => simp [Program.cellsOf,hi] at hz
        obtain ⟨i,hi⟩:=hinfo
        split at h
        · split at h
          · rename_i cs hd
            cases h
            obtain ⟨b,off,rfl,hv⟩:=hx.eptr_drop hd
            refine ⟨_,?_,hv⟩
            simp [Instr.fieldAt,run_underlying hs,hf,Instr.sureAddr,fieldPlace,run_sizeOf w hi,hz,Addr.add_lit]
          · cases h
        · cases h
          cases hx with
          | bptr i' off b hb =>
            refine ⟨_,?_,.bptr _ _ _ hb⟩
            simp [Instr.fieldAt,run_underlying hs,hf,Instr.sureAddr,fieldPlace,run_sizeOf w hi,hz,Addr.add_lit]
        · cases h
    · cases h
  · cases h
theorem qwD {t:TypeId} {x ix p:PVal} {vx vi:Value} (hx:VR Γ bs w x vx) (hi:VR Γ bs w ix vi) (h:qeJ P t x ix = some p) :
    ∃ v,(Instr.indexAt t vx vi).run P w = .ok v w∧VR Γ bs w p v:=by
  unfold qeJ at h
  split at h
  · rename_i e es k i ht
    cases hi
    split at h
    · rename_i h0
      split at h
      · rename_i el hel
        split at h
        · rename_i hel2
          obtain ⟨hsz',hinf⟩:=hel2
          obtain ⟨inf,hinf⟩:=Option.isSome_iff_exists.1 hinf
          cases h
          have hlt:=qae hel
          cases hx with
          | sliceNil => simp at hlt
          | sliceE a cap => simp at hlt
          | slice es b off cap n sz vals hz0 hcap hg hn hsz hc hv =>
            have hs:=hsz _ _ hel
            have hsz2:sz = P.cellsOf e:=by omega
            have hix:i < (es.length:Int):=by omega
            refine ⟨.pointer (some ⟨b,off + i.toNat * sz,none⟩),?_,.eptr el b _ n (fun k => vals i.toNat k) hg ?_ (fun k p hp => hc _ _ _ _ hel hp) (fun k p hp => hv _ _ _ _ hel hp)⟩
            · simp [Instr.indexAt,run_underlying ht,asIntOf,run_sizeOf w hinf,h0,hix,Addr.add_lit,hsz2]
            · have h2:(i.toNat + 1) * sz ≤ es.length * sz:=Nat.mul_le_mul_right sz hlt
              rw [Nat.add_mul,Nat.one_mul] at h2
              omega
        · cases h
      · cases h
    · cases h
  · rename_i e bx off n k i ht
    cases hi
    split at h
    · rename_i hh
      obtain ⟨h0,h1,hinf⟩:=hh
      obtain ⟨inf,hinf⟩:=Option.isSome_iff_exists.1 hinf
      cases h
      cases hx with
      | bsl _ _ _ x cap hcap hnil hxb =>
        rcases hxb with rfl | ⟨b,rfl,hb⟩
        · exact absurd h1 (by omega)
        · refine ⟨_,?_,.bptr _ _ _ hb⟩
          simp [Instr.indexAt,run_underlying ht,asIntOf,run_sizeOf w hinf,h0,h1,Addr.add_lit]
    · cases h
  · rename_i n e cs k i ht
    cases hi
    split at h
    · rename_i hh
      obtain ⟨h0,h1,hinf,hd⟩:=hh
      obtain ⟨inf,hinf⟩:=Option.isSome_iff_exists.1 hinf
      cases h
      obtain ⟨b,off,rfl,hv⟩:=hx.eptr_drop hd
      refine ⟨_,?_,hv⟩
      simp [Instr.indexAt,run_underlying ht,asIntOf,Instr.sureAddr,run_sizeOf w hinf,h0,h1,Addr.add_lit]
    · cases h
  · rename_i n e bx off k i ht
    cases hi
    split at h
    · rename_i hh
      obtain ⟨h0,h1,hinf⟩:=hh
      obtain ⟨inf,hinf⟩:=Option.isSome_iff_exists.1 hinf
      cases h
      cases hx with
      | bptr i' off b hb =>
        refine ⟨_,?_,.bptr _ _ _ hb⟩
        simp [Instr.indexAt,run_underlying ht,asIntOf,Instr.sureAddr,run_sizeOf w hinf,h0,h1,Addr.add_lit]
    · cases h
  · cases h
end
end Go.Proofs.YtgldgpdhblndkaaGreatDoor
