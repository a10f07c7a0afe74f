/- WHAT IS PROVED: parts of the proof, put together by a program (Cw SatA). Conditions: none. -/
import Derived.WalkKit
import Derived.RangeFuncNested
import Derived.RangeFuncCalls
import Derived.Sort.LoopGhostIn
import Derived.OrdersIn
import Derived.Test.YtgldgpdhblndkaaGreatDoorPkE9
import Derived.Test.YtgldgpdhblndkaaGreatDoorPkE12
noncomputable section
namespace Go.Proofs.YtgldgpdhblndkaaGreatDoor
open Go
def cwp (ro:Option Nat) (P:Program) (c:Code) (Q:Exit→Act→World→Prop) (a:Act) (w:World):Prop:=match ro with
 | none => c.wp P Q a w
 | some l => ∀ n,c.wpIn (Fence.wide.inRound l) n P Q a w
def qd7 (o:Oper):Bool:=match o.op with
 | .defer _ => false
 | _ => true
section
variable {P:Program} {ro:Option Nat} {Q:Exit→Act→World→Prop} {a:Act} {w:World}
theorem qk0 {c:Code} {Q':Exit→Act→World→Prop} (h:cwp ro P c Q a w) (hq:∀ e a w,Q e a w→Q' e a w):cwp ro P c Q' a w:=by
 cases ro with
 | none => exact wp_mono h hq
 | some l => exact fun n => wpIn_mono (h n) hq
theorem qGv (h:Q .normal a w):cwp ro P .skip Q a w:=by
 cases ro with
 | none => exact wp_skip h
 | some l => exact fun n => wpIn_skip h
theorem qEA {l:Nat} (h:Q .normal a w):cwp ro P (.label l) Q a w:=by
 cases ro with
 | none => exact wp_label h
 | some l => exact fun n => wpIn_label h
theorem qGy {id:Nat} (h:Q (.exit id) a w):cwp ro P (.exit id) Q a w:=by
 cases ro with
 | none => exact wp_exit h
 | some l => exact fun n => wpIn_exit h
theorem qHQ (h:Q .ret a w):cwp ro P .ret Q a w:=by
 cases ro with
 | none => exact wp_ret h
 | some l => exact fun n => wpIn_ret h
theorem qHA {x y:Code} (h:cwp ro P x (Exit.then (cwp ro P y Q) Q) a w):cwp ro P (.seq x y) Q a w:=by
 cases ro with
 | none => exact wp_seq h
 | some l => exact fun n => wpIn_seq (wpIn_mono (h n) fun e a w hq => by cases e <;> first | exact hq n | exact hq)
theorem qGq {c:Operand} {x y:Code} {t:Bool} (hc:a.eval c = .bool t) (h1:t = true→cwp ro P x Q a w) (h2:t = false→cwp ro P y Q a w):cwp ro P (.cond c x y) Q a w:=by
 cases t with
 | true => cases ro with
  | none => exact wp_cond hc (h1 rfl)
  | some l => exact fun n => wpIn_cond hc (h1 rfl n)
 | false => cases ro with
  | none => exact wp_cond hc (h2 rfl)
  | some l => exact fun n => wpIn_cond hc (h2 rfl n)
theorem qDT {id:Nat} {c:Code} (h:cwp ro P c (Exit.inBlock id Q) a w):cwp ro P (.block id c) Q a w:=by
 cases ro with
 | none => exact wp_block h
 | some l => exact fun n => wpIn_block (h n)
theorem qw6 {c:Code} (I:Nat→Act→World→Prop) (n₀:Nat) (h₀:I n₀ a w) (round:∀ n a w,I n a w→cwp ro P c (Exit.then (fun a' w' => ∃ n',n' < n∧I n' a' w') Q) a w):cwp ro P (.loop c) Q a w:=by
 cases ro with
 | none => exact wp_loop_ghost I n₀ h₀ round
 | some l => exact fun n => wpIn_loop_ghost I n₀ h₀ fun k a w hI => round k a w hI n
theorem qHH {l n:Nat} {row:String} {args:Array Value} {R:Value→World→Prop} (h:Rows P row args w R):RowsIn (Fence.wide.inRound l) n P row args w R:=fun c cs _ => by
 obtain ⟨v,w',r,s⟩:=h c cs
 exact ⟨v,w',r,by rw [fenced_inRound]; exact stepsIn_wide.2 s⟩
theorem qGC {l n:Nat} {f:FuncId} {args:Array Value} {R:Ending→World→Prop} (h:Calls P f args w R):CallsIn (Fence.wide.inRound l) n P f args w R:=CallsIn.inRound l (callsIn_wide.2 h)
theorem qDX {l n:Nat} {o:Oper} {next:Act→World→Prop} (hd:qd7 o = true) (h:o.wp P a w next Q):o.wpIn (Fence.wide.inRound l) n P a w next Q:=by
 refine ⟨fun _ _ => trivial,?_⟩
 have hs:o.semAt (Fence.wide.inRound l).round a.eval = execOp a.eval o:=Oper.semAt_eq _ _ _ fun c hc => by unfold qd7 at hd; rw [hc] at hd; cases hd
 rw [hs]
 unfold Oper.wp at h
 generalize (execOp a.eval o).run P w = r at *
 have hdep:(Fence.wide.inRound l).depth.isSome = true→1 ≤ n:=fun h => by simp [Fence.wide] at h
 cases r with
 | ok x w' =>
  cases x <;> simp only [Oper.upon] at h <;> simp only [Oper.uponIn] <;> first
   | exact h.elim
   | exact h
   | exact ⟨hdep,qGC h⟩
   | exact ⟨hdep,qHH h⟩
 | halt x w' => cases x <;> simp only [Oper.upon] at h <;> simp only [Oper.uponIn] <;> exact h
theorem quS {l n:Nat} {ops:Array Oper} (hd:ops.toList.all qd7 = true) (hQ:¬ LetsOut Q):∀ (L:List Nat) (a:Act) (w:World),wpOps P ops Q L a w→wpOpsIn (Fence.wide.inRound l) n P ops Q L a w
 | [],a,w,h => h
 | i :: rest,a,w,h => by
  unfold wpOps at h
  unfold wpOpsIn
  split at h
  ·rename_i ho; simp only [ho]; exact quS hd hQ rest a w h
  ·rename_i o ho
   simp only [ho]
   have hn:qd7 o = true:=List.all_eq_true.1 hd o (by
    have:=Array.mem_of_getElem? ho
    simpa using this)
   split at h
   ·rename_i hw
    rw [if_pos hw]
    rcases h with h | h
    ·exact Oper.wpIn_mono (fun a w h => quS hd hQ rest a w h) (qDX hn h)
    ·exact absurd h.2 hQ
   ·rename_i hw
    rw [if_neg hw]
    exact ⟨fun _ _ => trivial,quS hd hQ rest _ w h⟩
theorem qHU {l n:Nat} {ops:Array Oper} (hd:ops.toList.all qd7 = true) (hQ:¬ LetsOut Q) {i:Nat} {K:Act→World→Prop} (h:wpOp P ops Q i K a w):wpOpIn (Fence.wide.inRound l) n P ops Q i K a w:=by
 unfold wpOp at h
 unfold wpOpIn
 split at h
 ·rename_i ho; simp only [ho]; exact h
 ·rename_i o ho
  simp only [ho]
  have hn:qd7 o = true:=List.all_eq_true.1 hd o (by
   have:=Array.mem_of_getElem? ho
   simpa using this)
  split at h
  ·rename_i hw
   rw [if_pos hw]
   rcases h with h | h
   ·exact qDX hn h
   ·exact absurd h.2 hQ
  ·rename_i hw
   rw [if_neg hw]
   exact ⟨fun _ _ => trivial,h⟩
theorem qBP {l n:Nat} {md:Region.Mode} {ops:Array Oper} (hd:ops.toList.all qd7 = true) (hQ:¬ LetsOut Q):∀ (fuel:Nat) (listed:Array Bool) (a:Act) (w:World),wpAny P md ops Q fuel listed a w→wpAnyIn (Fence.wide.inRound l) n P md ops Q fuel listed a w
 | 0,_,_,_,h => h
 | fuel + 1,_,_,_,h => ⟨h.1,fun i hi => wpOpIn_mono (fun a w h => qBP hd hQ fuel _ a w h) (qHU hd hQ (h.2 i hi))⟩
theorem qsO {id:Nat} {ops:Array Oper} (hd:ops.toList.all qd7 = true) (hQ:¬ LetsOut Q) (h:wpOps P ops Q (List.range ops.size) a w):cwp ro P (.region id ops false) Q a w:=by
 cases ro with
 | none => exact wp_region h
 | some l => exact fun n => wpIn_region (quS hd hQ _ _ _ h)
theorem qwx {id:Nat} {ops:Array Oper} (hf:P.follows .mixedOrders = true) (hd:ops.toList.all qd7 = true) (hQ:¬ LetsOut Q)
  (h:wpAny P .any ops Q ops.size (Array.replicate ops.size false) a { w with drawn:=w.drawn + 1 }):cwp ro P (.region id ops true) Q a w:=by
 cases ro with
 | none => exact wp_region_any hf h
 | some l => exact fun n => wpIn_region_any hf (qBP hd hQ _ _ _ _ h)
end
section plain
variable {σ X:Type}
def qpA (body:σ→Option (σ⊕X)):Nat→σ→Option X
 | 0,_ => none
 | n + 1,s => match body s with
  | none => none
  | some (.inl s') => qpA body n s'
  | some (.inr x) => some x
theorem qyg {body:σ→Option (σ⊕X)}:∀ {n:Nat} {s:σ} {x:X},qpA body n s = some x→∀ k,qpA body (n + k) s = some x
 | 0,_,_,h,_ => by cases h
 | n + 1,s,x,h,k => by
  rw [Nat.add_right_comm]
  unfold qpA at h ⊢
  split at h
  ·cases h
  ·exact qyg h k
  ·exact h
theorem qz7 {body:σ→Option (σ⊕X)} {n m:Nat} {s:σ} {x y:X} (h1:qpA body n s = some x) (h2:qpA body m s = some y):x = y:=by
 have h3:=qyg h1 m
 have h4:=qyg h2 n
 rw [Nat.add_comm] at h4
 exact Option.some.inj (h3.symm.trans h4)
open Classical in
def qHa (body:σ→Option (σ⊕X)) (s:σ):Option X:=if h:∃ x n,qpA body n s = some x then some h.choose else none
def big:Nat:=2 ^ 200
def loop (body:σ→Option (σ⊕X)) (s:σ):Option X:=match qpA body big s with
 | some x => some x
 | none => qHa body s
theorem qq9 {body:σ→Option (σ⊕X)} {s:σ} {x:X}:loop body s = some x↔∃ n,qpA body n s = some x:=by
 have hC:qHa body s = some x↔∃ n,qpA body n s = some x:=by
  unfold qHa
  constructor
  ·intro h
   split at h
   ·rename_i he; cases h; exact he.choose_spec
   ·cases h
  ·rintro ⟨n,h⟩
   have he:∃ x n,qpA body n s = some x:=⟨x,n,h⟩
   rw [dif_pos he]
   obtain ⟨m,hm⟩:=he.choose_spec
   rw [qz7 hm h]
 unfold loop
 split
 ·rename_i y hy
  exact ⟨fun h => ⟨big,hy.trans h⟩,fun ⟨n,h⟩ => congrArg some (qz7 hy h)⟩
 ·exact hC
theorem qjj (body:σ→Option (σ⊕X)) (s:σ):loop body s = match body s with
  | none => none
  | some (.inl s') => loop body s'
  | some (.inr x) => some x:=by
 have key:∀ y,loop body s = some y↔(match body s with
  | none => none
  | some (.inl s') => loop body s'
  | some (.inr x) => some x) = some y:=by
  intro y
  rw [qq9]
  constructor
  ·rintro ⟨n,h⟩
   cases n with
   | zero => cases h
   | succ n =>
    unfold qpA at h
    cases hb:body s with
    | none => rw [hb] at h; cases h
    | some v =>
     cases v with
     | inl s' => rw [hb] at h; exact qq9.2 ⟨n,h⟩
     | inr x => rw [hb] at h; exact h
  ·intro h
   cases hb:body s with
   | none => rw [hb] at h; cases h
   | some v =>
    cases v with
    | inl s' =>
     rw [hb] at h
     obtain ⟨n,hn⟩:=qq9.1 h
     exact ⟨n + 1,by unfold qpA; rw [hb]; exact hn⟩
    | inr x => rw [hb] at h; exact ⟨1,by unfold qpA; rw [hb]; exact h⟩
 cases h1:loop body s with
 | none =>
  cases h2:(match body s with
   | none => none
   | some (.inl s') => loop body s'
   | some (.inr x) => some x) with
  | none => rfl
  | some y => rw [(key y).2 h2] at h1; cases h1
 | some y => exact ((key y).1 h1).symm
def idx {α:Type} (l:List α) (i:Int):Option α:=if 0 ≤ i then l[i.toNat]? else none
theorem bnd {α β:Type} {o:Option α} {k:α→Option β} {x:β} (h:o.bind k = some x):∃ a,o = some a∧k a = some x:=by
 cases o with
 | none => cases h
 | some a => exact ⟨a,rfl,h⟩
theorem ifs {β:Type} {b:Bool} {x y:Option β} {z:β} (h:(if b = true then x else y) = some z):(b = true∧x = some z)∨(b = false∧y = some z):=by
 cases b
 ·exact .inr ⟨rfl,h⟩
 ·exact .inl ⟨rfl,h⟩
end plain
structure EGood (GE:List (Nat×List PVal)) (m:Nat) (E:Ent):Prop where
 ge:E.GE = GE
 low:∀ b n,E.Γ b = some n→b < E.w.heap.size
 nt:m = 0→∀ b,¬ E.T b
 gl:∀ g cs,(g,cs) ∈ GE→VR E.Γ [] E.w (.eptr cs) (.pointer (some ⟨g,0,none⟩))
def Sat (P:Program) (GE:List (Nat×List PVal)) (m:Nat) (c:Code) (Q:Exit→PSt→Prop) (st:PSt):Prop :=
 ∀ (ro:Option Nat) (E:Ent) (bs0:qbj) (a:Act) (w:World),EGood GE m E→bs0.length = m % 1000→Rel P E bs0 st a w→cwp ro P c (qHB P E bs0 a.defers Q) a w
def EX (e:Exit) (st:PSt):Exit→PSt→Prop:=fun e' st' => e' = e∧st' = st
def Weak (P:Program) (m:Nat) (st st':PSt):Prop := ∀ (E:Ent) (bs0:qbj) (a:Act) (w:World),bs0.length = m % 1000→Rel P E bs0 st a w→Rel P E bs0 st' a w
section
variable {P:Program} {GE:List (Nat×List PVal)} {m:Nat}
theorem Weak.refl (st:PSt):Weak P m st st:=fun _ _ _ _ _ h => h
theorem Weak.trans {a b c:PSt} (h:Weak P m a b) (h':Weak P m b c):Weak P m a c:=fun E bs0 x w hb h0 => h' E bs0 x w hb (h E bs0 x w hb h0)
theorem Weak.of_less {st st':PSt} (h:Less st st') (hm:m % 1000 ≤ st'.boxes.length):Weak P m st st':=fun _ _ _ _ hb hR => hR.less h (by rw [hb]; exact hm)
theorem Sat.mono {c:Code} {Q Q':Exit→PSt→Prop} {st:PSt} (h:Sat P GE m c Q st) (hq:∀ e st,Q e st→∃ st',Weak P m st st'∧Q' e st'):Sat P GE m c Q' st :=
 fun ro E bs0 a w hE hb hR => qk0 (h ro E bs0 a w hE hb hR) fun e a' w' hP => by
  obtain ⟨hd,st1,hR1,hQ⟩:=hP
  obtain ⟨st2,hw,hQ2⟩:=hq e st1 hQ
  exact ⟨hd,st2,hw E bs0 a' w' hb hR1,hQ2⟩
theorem Sat.imp {c:Code} {Q Q':Exit→PSt→Prop} {st:PSt} (h:Sat P GE m c Q st) (hq:∀ e st,Q e st→Q' e st):Sat P GE m c Q' st:=h.mono fun e st hQ => ⟨st,.refl st,hq e st hQ⟩
theorem Sat.weak {c:Code} {Q:Exit→PSt→Prop} {st st':PSt} (hw:Weak P m st st') (h:Sat P GE m c Q st'):Sat P GE m c Q st :=
 fun ro E bs0 a w hE hb hR => h ro E bs0 a w hE hb (hw E bs0 a w hb hR)
theorem Sat.skip {Q:Exit→PSt→Prop} {st:PSt} (h:Q .normal st):Sat P GE m .skip Q st:=fun _ _ _ _ _ _ _ hR => qGv ⟨rfl,st,hR,h⟩
theorem Sat.label {l:Nat} {Q:Exit→PSt→Prop} {st:PSt} (h:Q .normal st):Sat P GE m (.label l) Q st:=fun _ _ _ _ _ _ _ hR => qEA ⟨rfl,st,hR,h⟩
theorem Sat.exit {id:Nat} {Q:Exit→PSt→Prop} {st:PSt} (h:Q (.exit id) st):Sat P GE m (.exit id) Q st:=fun _ _ _ _ _ _ _ hR => qGy ⟨rfl,st,hR,h⟩
theorem Sat.ret {Q:Exit→PSt→Prop} {st:PSt} (h:Q .ret st):Sat P GE m .ret Q st:=fun _ _ _ _ _ _ _ hR => qHQ ⟨rfl,st,hR,h⟩
theorem Sat.seq {x y:Code} {Q:Exit→PSt→Prop} {st:PSt} (h:Sat P GE m x (fun e st' => match e with | .normal => Sat P GE m y Q st' | e => Q e st') st):Sat P GE m (.seq x y) Q st:=by
 intro ro E bs0 a w hE hb hR
 refine qHA (qk0 (h ro E bs0 a w hE hb hR) fun e a' w' hq => ?_)
 obtain ⟨hd,st',hR',hq⟩:=hq
 cases e with
 | normal =>
  have:=hq ro E bs0 a' w' hE hb hR'
  rw [hd] at this
  exact this
 | exit id => exact ⟨hd,st',hR',hq⟩
 | goto l => exact ⟨hd,st',hR',hq⟩
 | ret => exact ⟨hd,st',hR',hq⟩
 | panic c => exact ⟨hd,st',hR',hq⟩
 | outgrown => exact ⟨hd,st',hR',hq⟩
theorem Sat.cond {c:Operand} {x y:Code} {Q:Exit→PSt→Prop} {st:PSt} {t:Bool} (hv:opv GE st.tmps c = .bool t) (h1:t = true→Sat P GE m x Q st) (h2:t = false→Sat P GE m y Q st):Sat P GE m (.cond c x y) Q st:=by
 intro ro E bs0 a w hE hb hR
 obtain ⟨Γ,bs,ow,h,hk⟩:=hR
 have hv':=h.opv a.defers c
 rw [hE.ge,hv] at hv'
 generalize hc:(Act.mk a.tmps a.defers).eval c = vc at hv'
 cases hv'
 exact qGq (t:=t) hc (fun ht => h1 ht ro E bs0 a w hE hb ⟨Γ,bs,ow,h,hk⟩) (fun ht => h2 ht ro E bs0 a w hE hb ⟨Γ,bs,ow,h,hk⟩)
theorem Sat.block {id:Nat} {c:Code} {Q:Exit→PSt→Prop} {st:PSt} (h:Sat P GE m c (qDA id Q) st):Sat P GE m (.block id c) Q st:=by
 intro ro E bs0 a w hE hb hR
 refine qDT (qk0 (h ro E bs0 a w hE hb hR) fun e a' w' hq => ?_)
 obtain ⟨hd,st',hR',hq⟩:=hq
 cases e with
 | exit id' =>
  simp only [qDA] at hq
  simp only [Exit.inBlock]
  split at hq
  ·rename_i hid; rw [if_pos hid]; exact ⟨hd,st',hR',hq⟩
  ·rename_i hid; rw [if_neg hid]; exact ⟨hd,st',hR',hq⟩
 | normal => exact ⟨hd,st',hR',hq⟩
 | goto l => exact ⟨hd,st',hR',hq⟩
 | ret => exact ⟨hd,st',hR',hq⟩
 | panic c => exact ⟨hd,st',hR',hq⟩
 | outgrown => exact ⟨hd,st',hR',hq⟩
theorem Sat.text {A:List Nat} {id:Nat} {ops:Array Oper} {Q:Exit→PSt→Prop} {st:PSt} (hd:ops.toList.all qd7 = true)
  (h:qbW P GE A ops (Q .normal) ops.toList st.boxes.length { st with boxes:=st.boxes ++ qdQ P ops.toList }):Sat P GE m (.region id ops false) Q st:=by
 intro ro E bs0 a w hE hb hR
 obtain ⟨rfl,_,_,_⟩:=hE
 refine qk0 (qsO (Q:=fun e a' w' => e = .normal∧qHB P E bs0 a.defers Q .normal a' w') hd (by rintro ⟨_,_,h,_⟩; cases h) ?_) fun e a' w' hq => by obtain ⟨rfl,hq⟩:=hq; exact hq
 exact qyH hR hR.len (fun a' w' st' hd hR' hK => ⟨rfl,hd,st',hR',hK⟩) h
def LQ {σ X:Type} (S:σ→PSt) (ex:X→Exit) (so:X→PSt):σ⊕X→Exit→PSt→Prop
 | .inl s,e,st => e = .normal∧st = S s
 | .inr x,e,st => e ≠ .normal∧e = ex x∧st = so x
theorem Sat.loop {σ X:Type} {S:σ→PSt} {ex:X→Exit} {so:X→PSt} {body:σ→Option (σ⊕X)} {c:Code} {s:σ} {x:X} (h:loop body s = some x)
  (hb:∀ s y,body s = some y→Sat P GE m c (LQ S ex so y) (S s)):Sat P GE m (.loop c) (EX (ex x) (so x)) (S s):=by
 obtain ⟨n,hn⟩:=qq9.1 h
 intro ro E bs0 a w hE hb0 hR
 refine qw6 (fun k a' w' => a'.defers = a.defers∧∃ s',Rel P E bs0 (S s') a' w'∧qpA body k s' = some x) n ⟨rfl,s,hR,hn⟩ ?_
 intro k a1 w1 hI
 obtain ⟨hd1,s1,hR1,hl⟩:=hI
 cases k with
 | zero => cases hl
 | succ k =>
  unfold qpA at hl
  split at hl
  ·cases hl
  ·rename_i s2 hs2
   refine qk0 (hb s1 _ hs2 ro E bs0 a1 w1 hE hb0 hR1) fun e a' w' hq => ?_
   obtain ⟨hd,st',hR',rfl,rfl⟩:=hq
   exact ⟨k,Nat.lt_succ_self k,hd.trans hd1,s2,hR',hl⟩
  ·rename_i x2 hs2
   cases hl
   refine qk0 (hb s1 _ hs2 ro E bs0 a1 w1 hE hb0 hR1) fun e a' w' hq => ?_
   obtain ⟨hd,st',hR',hne,rfl,rfl⟩:=hq
   have hd':=hd.trans hd1
   cases hex:ex x with
   | normal => exact absurd hex hne
   | exit id => exact ⟨hd',_,hR',rfl,rfl⟩
   | goto l => exact ⟨hd',_,hR',rfl,rfl⟩
   | ret => exact ⟨hd',_,hR',rfl,rfl⟩
   | panic c => exact ⟨hd',_,hR',rfl,rfl⟩
   | outgrown => exact ⟨hd',_,hR',rfl,rfl⟩
def fgT:List PVal→List PVal→List PVal
 | [],_ => []
 | _ :: ps,[] => .undef :: fgT ps []
 | _ :: ps,.undef :: qs => .undef :: fgT ps qs
 | p :: ps,_ :: qs => p :: fgT ps qs
def fgB1:PBox→PBox→PBox
 | _,.dead => .dead
 | .cells cs own,.cells _ own' => .cells cs (match own'.all fun x => decide (x ∈ own) with
  | true => own'
  | false => own)
 | p,_ => p
def fgB:List PBox→List PBox→List PBox
 | [],_ => []
 | p :: ps,[] => p :: fgB ps []
 | p :: ps,q :: qs => fgB1 p q :: fgB ps qs
def BLe (B B':PBox):Prop:=B = .dead∨B = B'∨∃ cs own own',B' = .cells cs own∧B = .cells cs own'∧∀ x ∈ own',x ∈ own
theorem qFx (p q:PBox):BLe (fgB1 p q) p:=by
 unfold fgB1
 split
 ·exact .inl rfl
 ·split
  ·rename_i h
   exact .inr (.inr ⟨_,_,_,rfl,rfl,fun x hx => by simpa using List.all_eq_true.1 h x hx⟩)
  ·exact .inr (.inl rfl)
 ·exact .inr (.inl rfl)
theorem qCn (p:PVal) (ps qs:List PVal):∃ q r,fgT (p :: ps) qs = q :: fgT ps r∧(q = .undef∨q = p):=by
 cases qs with
 | nil => exact ⟨_,[],by simp [fgT],.inl rfl⟩
 | cons q qs => cases q <;> first | (refine ⟨p,qs,?_,.inr rfl⟩; simp only [fgT]; done) | (refine ⟨.undef,qs,?_,.inl rfl⟩; simp only [fgT]; done)
theorem qAP:∀ {l bs:List PVal} {i:Nat} {p:PVal},(fgT l bs)[i]? = some p→p = .undef∨l[i]? = some p
 | [],bs,i,p,h => by simp [fgT] at h
 | q :: l,bs,i,p,h => by
  obtain ⟨q',r,h1,h2⟩:=qCn q l bs
  rw [h1] at h
  cases i with
  | zero => simp at h; subst h; rcases h2 with h2 | h2 <;> simp [h2]
  | succ i => simpa using qAP (by simpa using h)
theorem qAV:∀ {l bs:List PVal},(fgT l bs).length = l.length
 | [],bs => by simp [fgT]
 | q :: l,bs => by obtain ⟨q',r,h1,h2⟩:=qCn q l bs; rw [h1]; simp [qAV]
theorem qyh:∀ {l bs:List PBox} {i:Nat} {B:PBox},(fgB l bs)[i]? = some B→∃ B',l[i]? = some B'∧BLe B B'
 | [],bs,i,p,h => by simp [fgB] at h
 | q :: l,[],i,B,h => by
  simp only [fgB] at h
  cases i with
  | zero => simp at h; subst h; exact ⟨q,rfl,.inr (.inl rfl)⟩
  | succ i => simpa using qyh (by simpa using h)
 | q :: l,r :: bs,i,B,h => by
  simp only [fgB] at h
  cases i with
  | zero => simp at h; subst h; exact ⟨q,rfl,qFx q r⟩
  | succ i => simpa using qyh (by simpa using h)
theorem qBr:∀ {l bs:List PBox},(fgB l bs).length = l.length
 | [],bs => by simp [fgB]
 | q :: l,[] => by simp only [fgB,List.length_cons,qBr]
 | q :: l,r :: bs => by simp only [fgB,List.length_cons,qBr]
theorem Weak.forget {st:PSt} (bt:List PVal) (bb:List PBox) (own:List ((Nat×Nat)×TypeId)) (ho:∀ x ∈ own,x ∈ st.own):Weak P m st ⟨fgT st.tmps bt,fgB st.boxes bb,own⟩:=by
 intro E bs0 a w hb hR
 obtain ⟨Γ,bs,ow,h,hk⟩:=hR
 refine ⟨Γ,bs,ow,?_,hk⟩
 exact { h with
  sz:=by rw [h.sz]; exact qAV.symm
  tm:=fun t p v hp hv => by
   rcases qAP hp with rfl | hp'
   ·exact .undef v
   ·exact h.tm t p v hp' hv
  bl:=by rw [h.bl]; exact qBr.symm
  bx:=fun i b B hib hB => by
   obtain ⟨B',hB',hx⟩:=qyh hB
   obtain ⟨k1,k2,k3⟩:=h.bx i b B' hib hB'
   rcases hx with rfl | rfl | ⟨cs,own,own',rfl,rfl,_⟩
   ·exact ⟨k1,k2,trivial⟩
   ·exact ⟨k1,k2,k3⟩
   ·exact ⟨k1,k2,k3⟩
  ot:=fun t k e he => h.ot t k e (ho _ he)
  ob:=fun i j e cs own' b hB hj hib => by
   obtain ⟨B',hB',hx⟩:=qyh hB
   rcases hx with hx | rfl | ⟨cs1,own1,own2,rfl,e2,hs⟩
   ·cases hx
   ·exact h.ob i j e cs own' b hB' hj hib
   ·cases e2; exact h.ob i j e _ own1 b hB' (hs _ hj) hib }
theorem EX.of {c:Code} {e:Exit} {st st0:PSt} {Q:Exit→PSt→Prop} (h:Sat P GE m c (EX e st0) st) (hq:Q e st0):Sat P GE m c Q st :=
 h.imp fun e' st' hx => by obtain ⟨rfl,rfl⟩:=hx; exact hq
end
end Go.Proofs.YtgldgpdhblndkaaGreatDoor
