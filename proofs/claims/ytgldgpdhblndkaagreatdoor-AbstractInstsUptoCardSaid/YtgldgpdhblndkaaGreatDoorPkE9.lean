/- WHAT IS PROVED: parts of the proof, put together by a program (AbsS AbsT AbsU AbsV AbsW AbsX AbsY AbsZ). Conditions: none. -/
import Derived.Test.YtgldgpdhblndkaaGreatDoorPkE8
import Derived.Deep.LoopGhost
noncomputable section
namespace Go.Proofs.YtgldgpdhblndkaaGreatDoor
open Go
def qbd (P:Program):Op→Nat
 | .load .. | .lookup .. => 2
 | .store .. | .mapUpdate .. => 3
 | .call c => match c.callee with
  | .value (.func _) => 0
  | .value _ => 3
  | .builtin .len => match c.argTypes.toList with
   | [t] => (match P.underlying t with
    | some (.map ..) => 2
    | _ => 0)
   | _ => 0
  | _ => 0
 | _ => 0
def qfZ (acc:List Nat) (o:Oper):Nat:=o.after.toList.foldl (fun s e => if Region.binds .any e then s ||| 2 ^ e.on ||| acc.getD e.on 0 else s) 0
def ancs (ops:List Oper):List Nat:=ops.foldl (fun acc o => acc ++ [qfZ acc o]) []
def looks (ops:Array Oper) (o:Oper):List Tmp :=
 (o.op.operands.toList.filterMap fun | .tmp t => some t | _ => none) ++ (match o.guard with
  | some (j,_) => ((ops[j]?).bind (·.dst)).toList
  | none => [])
section
variable {P:Program} {GE:List (Nat×List PVal)}
theorem qzo {acc:List Nat} {o:Oper} {i:Nat} (h:(qfZ acc o).testBit i = true):∃ e ∈ o.after.toList,Region.binds .any e = true∧(e.on = i∨(acc.getD e.on 0).testBit i = true):=by
 unfold qfZ at h
 have key:∀ (l:List Edge) (s:Nat),(l.foldl (fun s e => if Region.binds .any e then s ||| 2 ^ e.on ||| acc.getD e.on 0 else s) s).testBit i = true →
   s.testBit i = true∨∃ e ∈ l,Region.binds .any e = true∧(e.on = i∨(acc.getD e.on 0).testBit i = true):=by
  intro l
  induction l with
  | nil => intro s hs; exact .inl hs
  | cons e l ih =>
   intro s hs
   simp only [List.foldl_cons] at hs
   rcases ih _ hs with hs' | ⟨e',h1,h2⟩
   ·split at hs'
    ·rename_i hb
     simp only [Nat.testBit_or,Bool.or_eq_true] at hs'
     rcases hs' with (hs' | hs') | hs'
     ·exact .inl hs'
     ·refine .inr ⟨e,by simp,hb,.inl ?_⟩
      rw [Nat.testBit_two_pow] at hs'
      simpa using hs'
     ·exact .inr ⟨e,by simp,hb,.inr hs'⟩
    ·exact .inl hs'
   ·exact .inr ⟨e',by simp [h1],h2⟩
 rcases key _ 0 h with h0 | h0
 ·simp at h0
 ·exact h0
theorem qAm (ops:List Oper):(ancs ops).length = ops.length∧∀ (j i:Nat),((ancs ops).getD j 0).testBit i = true→∃ o,ops[j]? = some o∧∃ e ∈ o.after.toList,Region.binds .any e = true∧(e.on = i∨(e.on < j∧((ancs ops).getD e.on 0).testBit i = true)):=by
 unfold ancs
 have key:∀ (rest pre:List Oper) (acc:List Nat),acc.length = pre.length →
   (∀ (j i:Nat),(acc.getD j 0).testBit i = true→∃ o,(pre ++ rest)[j]? = some o∧∃ e ∈ o.after.toList,Region.binds .any e = true∧(e.on = i∨(e.on < j∧(acc.getD e.on 0).testBit i = true))) →
   (rest.foldl (fun acc o => acc ++ [qfZ acc o]) acc).length = (pre ++ rest).length∧∀ (j i:Nat),((rest.foldl (fun acc o => acc ++ [qfZ acc o]) acc).getD j 0).testBit i = true →
    ∃ o,(pre ++ rest)[j]? = some o∧∃ e ∈ o.after.toList,Region.binds .any e = true∧(e.on = i∨(e.on < j∧((rest.foldl (fun acc o => acc ++ [qfZ acc o]) acc).getD e.on 0).testBit i = true)):=by
  intro rest
  induction rest with
  | nil => intro pre acc hl h; exact ⟨by simpa using hl,by simpa using h⟩
  | cons o rest ih =>
   intro pre acc hl h
   simp only [List.foldl_cons]
   have hsplit:pre ++ o :: rest = (pre ++ [o]) ++ rest:=by simp
   rw [hsplit]
   refine ih (pre ++ [o]) (acc ++ [qfZ acc o]) (by simp [hl]) (fun j i hb => ?_)
   have hlow:∀ m,m < acc.length→(acc ++ [qfZ acc o]).getD m 0 = acc.getD m 0:=fun m hm => by
    rw [List.getD_eq_getElem?_getD,List.getD_eq_getElem?_getD,List.getElem?_append_left hm]
   by_cases hj:j < acc.length
   ·rw [hlow j hj] at hb
    obtain ⟨o',h1,e,h2,h3,h4⟩:=h j i hb
    refine ⟨o',by rw [← hsplit]; exact h1,e,h2,h3,h4.imp id fun hx => ⟨hx.1,?_⟩⟩
    rw [hlow _ (by omega)]; exact hx.2
   ·by_cases hj2:j = acc.length
    ·subst hj2
     have:(acc ++ [qfZ acc o]).getD acc.length 0 = qfZ acc o:=by
      rw [List.getD_eq_getElem?_getD,List.getElem?_append_right (Nat.le_refl _)]; simp
     rw [this] at hb
     obtain ⟨e,h1,h2,h3⟩:=qzo hb
     refine ⟨o,by rw [hl]; simp,e,h1,h2,?_⟩
     rcases h3 with h3 | h3
     ·exact .inl h3
     ·have hlt:e.on < acc.length:=by
       by_cases hlt:e.on < acc.length
       ·exact hlt
       ·rw [List.getD_eq_getElem?_getD,List.getElem?_eq_none (by omega)] at h3; simp at h3
      exact .inr ⟨hlt,by rw [hlow _ hlt]; exact h3⟩
    ·rw [List.getD_eq_getElem?_getD,List.getElem?_eq_none (by simp; omega)] at hb; simp at hb
 have:=key ops [] [] rfl (fun j i hb => by simp at hb)
 simpa using this
end
section
variable {P:Program} {GE:List (Nat×List PVal)}
theorem qFs {op:Op} {id:Nat} {v:Operand→PVal} {H H':List PBox} {p:PVal} (hc:qbd P op ≠ 3) (hm:qak op = false) (h:pev P op id v H = some (p,H')):H' = H:=by
 unfold pev at h
 split at h
 all_goals first
  | (cases h; done)
  | (cases h; rfl)
  | (obtain ⟨q,_,he⟩:=qcX h; cases he; rfl)
  | (exact absurd rfl hc)
  | (simp [qak] at hm; done)
  | (split at h <;> first | (cases h; rfl) | cases h)
theorem qHV {op:Op} {id:Nat} {v:Operand→PVal} {H:List PBox} {p:PVal} (hc:qbd P op < 2) (hm:qak op = false) (h:pev P op id v H = some (p,H)) (H2:List PBox):pev P op id v H2 = some (p,H2):=by
 unfold pev at h ⊢
 split at h
 case h_24 x t =>
  obtain ⟨q,hq,he⟩:=qcX h
  cases he
  simp only [qbd] at hc
  have:plen P t (v x) H2 = plen P t (v x) H:=by
   unfold plen
   split <;> first | rfl | skip
   rename_i hu _
   simp [hu] at hc
  rw [this,hq]; rfl
 all_goals first
  | (cases h; done)
  | (cases h; rfl)
  | (obtain ⟨q,hq,he⟩:=qcX h; cases he; simp only [hq,Option.map_some]; done)
  | (simp [qbd] at hc; done)
  | (simp [qak] at hm; done)
  | (split at h <;> first | (cases h; done) | (cases h; rfl) | (rename_i hv; cases h; simp only [hv]; done))
theorem quQ {l:List Operand} {v v':Operand→PVal} (h:∀ x ∈ l,v x = v' x):l.map v = l.map v':=List.map_congr_left h
theorem qFH {op:Op} {id:Nat} {v v':Operand→PVal} {H:List PBox} (h:∀ x ∈ op.operands.toList,v x = v' x):pev P op id v H = pev P op id v' H:=by
 unfold pev
 split
 all_goals (simp only [Op.operands,Call.operands] at h)
 all_goals first
  | (simp at h; simp [h]; done)
  | skip
 case h_7 t parts =>
  rw [List.map_congr_left (f:=fun x:Nat×Operand => (x.1,v x.2)) (g:=fun x => (x.1,v' x.2)) fun x hx => by rw [h x.2 (List.mem_map.2 ⟨x,hx,rfl⟩)]]
 case h_8 t len parts =>
  rw [List.map_congr_left (f:=fun x:Nat×Operand => (x.1,v x.2)) (g:=fun x => (x.1,v' x.2)) fun x hx => by rw [h x.2 (List.mem_map.2 ⟨x,hx,rfl⟩)]]
 case h_15 fn first cap =>
  rw [quQ fun x hx => h x (by simp at hx ⊢; exact .inl hx),quQ fun x hx => h x (by simp at hx ⊢; exact .inr hx)]
 case h_16 t x lo hi =>
  have h1:v x = v' x:=h x (by simp)
  have h2:lo.map v = lo.map v':=by
   cases lo with
   | none => rfl
   | some y => simp only [Option.map_some]; rw [h y (by simp)]
  have h3:hi.map v = hi.map v':=by
   cases hi with
   | none => rfl
   | some y => simp only [Option.map_some]; rw [h y (by simp)]
  rw [h1,h2,h3]
 case h_25 x r tys =>
  rw [h x (by simp),quQ fun y hy => h y (by simp [hy])]
 case h_26 x r tys =>
  rw [h x (by simp),quQ fun y hy => h y (by simp [hy])]
end
section
variable {P:Program} {E:Ent} {Γ:qaP} {bs:qbj} {ow:Nat→Option Loc} {w:World} {a:Act} {st:PSt}
theorem quG {α:Type}:∀ {l:List α} {i:Nat} {x:α},l[i]? = some x→l.set i x = l
 | [],_,_,h => by simp at h
 | _ :: _,0,_,h => by simp at h; subst h; rfl
 | y :: l,i + 1,x,h => by simp only [List.set_cons_succ]; rw [quG (by simpa using h)]
end
def bf (ops:Array Oper) (i j:Nat):Prop:=((ancs ops.toList).getD j 0).testBit i = true
theorem qqq {α:Type} {l:List α} {i:Nat} {x d:α} (h:l[i]? = some x):l.getD i d = x:=by rw [List.getD_eq_getElem?_getD,h]; rfl
def qcN (listed:Array Bool) (i:Nat):Prop:=listed.getD i false = true
def Down (ops:Array Oper) (listed:Array Bool):Prop := ∀ (j:Nat) o,ops[j]? = some o→qcN listed j→∀ e ∈ o.after.toList,Region.binds .any e = true→qcN listed e.on
theorem qzv {ops:Array Oper} {listed:Array Bool} (hd:Down ops listed):∀ (j:Nat) o,ops[j]? = some o→(∀ e ∈ o.after.toList,Region.binds .any e = true→qcN listed e.on)→∀ i,bf ops i j→qcN listed i:=by
 intro j
 induction j using Nat.strongRecOn with
 | _ j ih =>
  intro o ho ha i hb
  obtain ⟨o',ho',e,he,hbi,hc⟩:=(qAm ops.toList).2 j i hb
  have:o' = o:=by
   have h':ops[j]? = some o':=by simpa using ho'
   rw [ho] at h'; cases h'; rfl
  subst this
  have hle:=ha e he hbi
  rcases hc with hc | ⟨hc,hb'⟩
  ·subst hc; exact hle
  ·obtain ⟨o2,ho2,_⟩:=(qAm ops.toList).2 e.on i hb'
   have h2:ops[e.on]? = some o2:=by simpa using ho2
   exact ih e.on hc o2 h2 (hd e.on o2 h2 hle) i hb'
theorem qcU {listed:Array Bool} {i j:Nat} (hi:i < listed.size):qcN (listed.setIfInBounds i true) j↔j = i∨qcN listed j:=by
 unfold qcN
 by_cases h:i = j
 ·subst h
  constructor
  ·intro _; exact .inl rfl
  ·intro _; simp [hi]
 ·rw [getD_set_ne false h]
  constructor
  ·exact .inr
  ·rintro (rfl | h')
   ·exact absurd rfl h
   ·exact h'
section
variable {P:Program} {E:Ent} {ops:Array Oper} {n base:Nat} {T:Nat→PSt} {bs0:qbj} {ds:List Deferred}
def idAt (ops:Array Oper) (base i:Nat):Nat:=base + qa8 (ops.toList.take i)
theorem qkq (l r:List Oper):qa8 (l ++ r) = qa8 l + qa8 r:=by simp [qa8]
theorem qEb {i j:Nat} {o:Oper} (ho:ops[i]? = some o) (hm:qak o.op = true) (hij:i < j):idAt ops base i < idAt ops base j:=by
 unfold idAt
 have hl:ops.toList[i]? = some o:=by simpa using ho
 have h1:ops.toList.take (i + 1) = ops.toList.take i ++ [o]:=by
  rw [List.take_add_one,hl]; rfl
 have h2:ops.toList.take j = ops.toList.take (i + 1) ++ (ops.toList.take j).drop (i + 1):=by
  have:=(List.take_append_drop (i + 1) (ops.toList.take j)).symm
  rwa [List.take_take,Nat.min_eq_left (by omega)] at this
 rw [h2,qkq,h1,qkq]
 have:qa8 [o] = 1:=by unfold qa8; simp [hm]
 omega
def qo5 (n:Nat) (listed:Array Bool):Nat:=((List.range n).filter fun i => !listed.getD i false).length
theorem qAN {l:List Nat} {p q:Nat→Bool} (hpq:∀ i,q i = true→p i = true) {j:Nat} (hj:j ∈ l) (hp:p j = true) (hq:q j = false):(l.filter q).length < (l.filter p).length:=by
 induction l with
 | nil => cases hj
 | cons x l ih =>
  have hle:∀ l:List Nat,(l.filter q).length ≤ (l.filter p).length:=by
   intro l
   induction l with
   | nil => simp
   | cons y l ih2 =>
    simp only [List.filter_cons]
    by_cases h1:q y = true
    ·simp [h1,hpq y h1]; exact ih2
    ·by_cases h2:p y = true
     ·simp [h1,h2]; omega
     ·simp [h1,h2]; exact ih2
  simp only [List.filter_cons]
  rcases List.mem_cons.1 hj with rfl | hj
  ·simp [hp,hq]; have:=hle l; omega
  ·have:=ih hj
   by_cases h1:q x = true
   ·simp [h1,hpq x h1]; exact this
   ·by_cases h2:p x = true
    ·simp [h1,h2]; omega
    ·simp [h1,h2]; exact this
end
section
variable {P:Program} {E:Ent} {w:World} {a:Act} {st:PSt}
theorem quT (m j:Nat):(Array.replicate m false).getD j false = false:=by
 rw [Array.getD_eq_getD_getElem?,Array.getElem?_replicate]
 split <;> rfl
theorem qtU:∀ (l:List Oper) (i:Nat) (o:Oper),l[i]? = some o→qak o.op = true→(qdQ P l)[qa8 (l.take i)]? = qkF P o
 | [],_,_,h,_ => by simp at h
 | x :: l,0,o,h,hm => by
  simp at h; subst h
  have:∃ B,qkF P x = some B:=by cases hx:x.op <;> simp [qak,hx] at hm <;> exact ⟨_,by simp [qkF,hx]; rfl⟩
  obtain ⟨B,hB⟩:=this
  simp [qdQ,qa8,hB]
 | x :: l,i + 1,o,h,hm => by
  have ih:=qtU l i o (by simpa using h) hm
  have hc:qa8 ((x :: l).take (i + 1)) = qa8 [x] + qa8 (l.take i):=by
   rw [List.take_succ_cons,← qkq]; rfl
  rw [hc]
  unfold qdQ
  rw [List.filterMap_cons]
  cases hx:qkF P x with
  | none =>
   have:qa8 [x] = 0:=by cases hx':x.op <;> simp [qkF,hx'] at hx <;> simp [qa8,qak,hx']
   rw [this,Nat.zero_add]; exact ih
  | some B =>
   have:qa8 [x] = 1:=by cases hx':x.op <;> simp [qkF,hx'] at hx <;> simp [qa8,qak,hx']
   rw [this,Nat.add_comm]
   simpa [qdQ] using ih
end
def qnc (n:Nat):List PVal→List PVal→Prop
 | [],[] => True
 | p :: ps,q :: qs => (q = .undef∨(p = q∧q.cl n))∧qnc n ps qs
 | _,_ => False
def qld (n:Nat):PBox→PBox→Prop
 | _,.dead => True
 | .cells cs own,.cells cs' own' => cs = cs'∧clL n cs∧∀ x ∈ own',x ∈ own
 | .map es,.map es' => es = es'∧(∀ x ∈ es,x.1.cl n∧x.2.cl n)
 | _,_ => False
def qbQ (n:Nat):List PBox→List PBox→Prop
 | _,[] => True
 | B :: l,B' :: l' => qld n B B'∧qbQ n l l'
 | [],_ :: _ => False
structure Less (st st':PSt):Prop where
 tmps:qnc st'.boxes.length st.tmps st'.tmps
 boxes:qbQ st'.boxes.length st.boxes st'.boxes
 own:∀ x ∈ st'.own,x ∈ st.own
def qDA (id:Nat) (Q:Exit→PSt→Prop):Exit→PSt→Prop
 | .exit id',st => if id' = id then Q .normal st else Q (.exit id') st
 | e,st => Q e st
section
variable {P:Program} {E:Ent} {bs0:qbj}
theorem qub {n:Nat}:∀ {l l':List PVal},qnc n l l'→l.length = l'.length∧∀ (i:Nat) q,l'[i]? = some q→q = .undef∨(l[i]? = some q∧q.cl n)
 | [],[],_ => ⟨rfl,by simp⟩
 | [],_ :: _,h => by simp [qnc] at h
 | _ :: _,[],h => by simp [qnc] at h
 | p :: l,q :: l',h => by
  simp only [qnc] at h
  obtain ⟨h1,h2⟩:=qub h.2
  refine ⟨by simp [h1],fun i x hx => ?_⟩
  cases i with
  | zero =>
   simp at hx; subst hx
   rcases h.1 with h3 | ⟨rfl,h3⟩
   ·exact .inl h3
   ·exact .inr ⟨rfl,h3⟩
  | succ i => simpa using h2 i x (by simpa using hx)
theorem qhc {n:Nat}:∀ {l l':List PBox},qbQ n l l'→l'.length ≤ l.length∧∀ (i:Nat) B',l'[i]? = some B'→∃ B,l[i]? = some B∧qld n B B'
 | _,[],_ => ⟨by simp,by simp⟩
 | [],_ :: _,h => by simp [qbQ] at h
 | B :: l,B' :: l',h => by
  simp only [qbQ] at h
  obtain ⟨h1,h2⟩:=qhc h.2
  refine ⟨by simpa using h1,fun i x hx => ?_⟩
  cases i with
  | zero => simp at hx; subst hx; exact ⟨B,rfl,h.1⟩
  | succ i => simpa using h2 i x (by simpa using hx)
theorem Rel.less {st st':PSt} {a:Act} {w:World} (hR:Rel P E bs0 st a w) (hl:Less st st') (hm:bs0.length ≤ st'.boxes.length):Rel P E bs0 st' a w:=by
 obtain ⟨Γ,bs,ow,h,hk⟩:=hR
 obtain ⟨h1,h2⟩:=qub hl.tmps
 obtain ⟨h3,h4⟩:=qhc hl.boxes
 have hbl:st'.boxes.length ≤ bs.length:=by rw [h.bl]; exact h3
 have hget:∀ {i b:Nat},(bs.take st'.boxes.length)[i]? = some (some b)→i < st'.boxes.length∧bs[i]? = some (some b):=by
  intro i b hi
  have hlt:i < st'.boxes.length:=by have:=qae hi; simp at this; omega
  rw [List.getElem?_take_of_lt hlt] at hi
  exact ⟨hlt,hi⟩
 have hres:∀ (i b:Nat),i < st'.boxes.length→bs[i]? = some (some b)→(bs.take st'.boxes.length)[i]? = some (some b):=fun i b hi hb => by
  rw [List.getElem?_take_of_lt hi]; exact hb
 refine ⟨Γ,bs.take st'.boxes.length,ow,?_,fun i hi => ?_⟩
 ·exact {
   wi:=h.wi
   sz:=by rw [h.sz,h1]
   tm:=fun t p v hp hv => by
    rcases h2 t p hp with rfl | ⟨h5,h6⟩
    ·exact .undef v
    ·exact (h.tm t p v h5 hv).restrict h6 hres
   bl:=by simp; omega
   bx:=fun i b B hb hB => by
    obtain ⟨hlt,hb⟩:=hget hb
    obtain ⟨B0,hB0,hx⟩:=h4 i B hB
    obtain ⟨k1,k2,k3⟩:=h.bx i b B0 hb hB0
    refine ⟨k1,k2,?_⟩
    cases B with
    | dead => trivial
    | cells cs own =>
     cases B0 <;> simp only [qld] at hx
     obtain ⟨rfl,hcl,_⟩:=hx
     obtain ⟨c,t,e1,e2,e3⟩:=k3
     exact ⟨c,t,e1,e2,fun j p v hp hv => (e3 j p v hp hv).restrict (qkj hcl hp) hres⟩
    | map es =>
     cases B0 <;> simp only [qld] at hx
     obtain ⟨rfl,hcl⟩:=hx
     obtain ⟨c,t,e1,e2,e3⟩:=k3
     refine ⟨c,t,e1,e2,fun j k u x hp hv => ?_⟩
     obtain ⟨q1,q2⟩:=hcl _ (List.mem_of_getElem? hp)
     exact ⟨(e3 j k u x hp hv).1.restrict q1 hres,(e3 j k u x hp hv).2.restrict q2 hres⟩
   inj:=fun i j b hi hj => h.inj i j b (hget hi).2 (hget hj).2
   bn:=fun i b hb => h.bn i b (hget hb).2
   on:=h.on
   ot:=fun t k e he => h.ot t k e (hl.own _ he)
   ob:=fun i j e cs own b hB hj hb => by
    obtain ⟨hlt,hb⟩:=hget hb
    obtain ⟨B0,hB0,hx⟩:=h4 i _ hB
    cases B0 <;> simp only [qld] at hx
    exact h.ob i j e _ _ b hB0 (hx.2.2 _ hj) hb
   gl:=fun g cs hg => (h.gl g cs hg).restrict (n:=0) (by simp only [PVal.cl]; exact h.gc g cs hg) (fun i b hi _ => absurd hi (Nat.not_lt_zero _))
   gc:=h.gc
   gx:=h.gx
   step:=h.step }
 ·rw [List.getElem?_take_of_lt (by omega)]; exact hk i hi
end
section
variable {P:Program} {E:Ent} {bs0:qbj}
theorem Rel.len {st:PSt} {a:Act} {w:World} (h:Rel P E bs0 st a w):bs0.length ≤ st.boxes.length:=by
 obtain ⟨Γ,bs,ow,h,hk⟩:=h
 rw [← h.bl]
 by_cases hl:bs0.length ≤ bs.length
 ·exact hl
 ·have h1:=hk bs.length (by omega)
  rw [List.getElem?_eq_none (Nat.le_refl _),List.getElem?_eq_getElem (by omega)] at h1
  cases h1
def qHB (P:Program) (E:Ent) (bs0:qbj) (ds:List Deferred) (Q:Exit→PSt→Prop):Exit→Act→World→Prop :=
 fun e a w => a.defers = ds∧∃ st,Rel P E bs0 st a w∧Q e st
end
def qHK (P:Program) (st:PSt):ResultVar→Option PVal
 | .tmp t => some (st.tmps.getD t .undef)
 | .cell t ty => qkH P ty (st.tmps.getD t .undef) st.boxes
def retL (P:Program) (st:PSt):List ResultVar→Option (List PVal)
 | [] => some []
 | x :: r => match qHK P st x,retL P st r with
  | some p,some l => some (p :: l)
  | _,_ => none
def retV (P:Program) (st:PSt):List ResultVar→Option PVal
 | [x] => qHK P st x
 | rs => (retL P st rs).map .tuple
def qdl:List ResultVar→Nat→Nat×Nat
 | [.tmp t],k => (t,k)
 | rs,k => match rs[k]? with
  | some (.tmp t) => (t,0)
  | _ => (0,0)
def PVal.isSlice:PVal→Bool
 | .slice _ => true
 | _ => false
def qll (st:PSt):List ResultVar→Nat→Prop
 | [.tmp _],_ => True
 | [_],_ => False
 | rs,k => match rs[k]? with
  | some (.tmp t) => (st.tmps.getD t .undef).isSlice = true
  | _ => False
def retP (P:Program) (rs:List ResultVar) (r:PVal) (ro:List (Nat×TypeId)) (H':List PBox):Exit→PSt→Prop
 | .normal,st | .ret,st => retV P st rs = some r∧r.cl H'.length∧qbQ H'.length st.boxes H'∧(∀ x ∈ ro,(qdl rs x.1,x.2) ∈ st.own∧qll st rs x.1) ∧
   (∀ x ∈ ro,∀ y ∈ ro,qdl rs x.1 = qdl rs y.1→x.1 = y.1)
 | _,_ => False
section
variable {P:Program} {E:Ent} {Γ:qaP} {bs:qbj} {ow:Nat→Option Loc} {w:World} {a:Array Value} {st:PSt}
def qwZ (src:Nat→Nat×Nat) (ro:List (Nat×TypeId)) (ow:Nat→Option Loc):Nat→Option Loc:=fun b =>
 match ow b with
 | some (.tmp t j) => (ro.find? fun x => src x.1 == (t,j)).map fun x => .tmp 0 x.1
 | L => L
theorem SR.finish (h:SR P E Γ bs ow w a st) {H':List PBox} {v:Value} {r:PVal} (hv:VR Γ bs w r v) (hcl:r.cl H'.length) (hB:qbQ H'.length st.boxes H') {src:Nat→Nat×Nat} {ro:List (Nat×TypeId)}
  (hro:∀ x ∈ ro,(src x.1,x.2) ∈ st.own∧∀ u v',a[(src x.1).1]? = some u→qji u (src x.1).2 = some v'→qji v x.1 = some v')
  (hinj:∀ x ∈ ro,∀ y ∈ ro,src x.1 = src y.1→x.1 = y.1) :
  SR P E Γ (bs.take H'.length) (qwZ src ro ow) w #[v] ⟨[r],H',ro.map fun x => ((0,x.1),x.2)⟩:=by
 have hR:Rel P E [] st ⟨a,[]⟩ w:=⟨Γ,bs,ow,h,fun i hi => absurd hi (Nat.not_lt_zero _)⟩
 obtain ⟨h3,h4⟩:=qhc hB
 have hget:∀ {i b:Nat},(bs.take H'.length)[i]? = some (some b)→i < H'.length∧bs[i]? = some (some b):=by
  intro i b hi
  have hlt:i < H'.length:=by have:=qae hi; simp at this; omega
  rw [List.getElem?_take_of_lt hlt] at hi
  exact ⟨hlt,hi⟩
 have hres:∀ (i b:Nat),i < H'.length→bs[i]? = some (some b)→(bs.take H'.length)[i]? = some (some b):=fun i b hi hb => by
  rw [List.getElem?_take_of_lt hi]; exact hb
 clear hR
 exact {
  wi:=h.wi
  sz:=rfl
  tm:=fun t p v' hp hv' => by
   cases t with
   | zero => simp at hp hv'; subst hp; subst hv'; exact hv.restrict hcl hres
   | succ t => simp at hp
  bl:=by simp [h.bl]; omega
  bx:=fun i b B hb hB => by
   obtain ⟨hlt,hb⟩:=hget hb
   obtain ⟨B0,hB0,hx⟩:=h4 i B hB
   obtain ⟨k1,k2,k3⟩:=h.bx i b B0 hb hB0
   refine ⟨k1,k2,?_⟩
   cases B with
   | dead => trivial
   | cells cs own =>
    cases B0 <;> simp only [qld] at hx
    obtain ⟨rfl,hcl,_⟩:=hx
    obtain ⟨c,t,e1,e2,e3⟩:=k3
    exact ⟨c,t,e1,e2,fun j p v hp hv => (e3 j p v hp hv).restrict (qkj hcl hp) hres⟩
   | map es =>
    cases B0 <;> simp only [qld] at hx
    obtain ⟨rfl,hcl⟩:=hx
    obtain ⟨c,t,e1,e2,e3⟩:=k3
    refine ⟨c,t,e1,e2,fun j k u x hp hv => ?_⟩
    obtain ⟨q1,q2⟩:=hcl _ (List.mem_of_getElem? hp)
    exact ⟨(e3 j k u x hp hv).1.restrict q1 hres,(e3 j k u x hp hv).2.restrict q2 hres⟩
  inj:=fun i j b hi hj => h.inj i j b (hget hi).2 (hget hj).2
  bn:=fun i b hb => h.bn i b (hget hb).2
  on:=fun b L hL => by
   unfold qwZ at hL
   cases hb:ow b with
   | none => rw [hb] at hL; cases hL
   | some L' => exact h.on b L' hb
  ot:=fun t k e he => by
   simp only [List.mem_map,Prod.mk.injEq] at he
   obtain ⟨⟨k',e'⟩,hm,⟨rfl,rfl⟩,rfl⟩:=he
   obtain ⟨h1,h2⟩:=hro _ hm
   obtain ⟨u,v',e1,e2,e3,e4⟩:=h.ot _ _ _ h1
   refine ⟨v,v',rfl,h2 u v' e1 e2,e3,fun b hb => ?_⟩
   have:=e4 b hb
   simp only [qwZ,this]
   cases hf:ro.find? fun x => src x.1 == src k' with
   | none =>
    have:=List.find?_eq_none.1 hf _ hm
    simp at this
   | some x =>
    have hx:=List.mem_of_find?_eq_some hf
    have hx2:=List.find?_some hf
    simp only [beq_iff_eq] at hx2
    have:=hinj x hx _ hm hx2
    simp only at this
    simp [this]
  ob:=fun i j e cs own b hB hj hb => by
   obtain ⟨hlt,hb⟩:=hget hb
   obtain ⟨B0,hB0,hx⟩:=h4 i _ hB
   cases B0 <;> simp only [qld] at hx
   obtain ⟨v',e1,e2,e3⟩:=h.ob i j e _ _ b hB0 (hx.2.2 _ hj) hb
   exact ⟨v',e1,e2,fun b' hb' => by simp [qwZ,e3 b' hb']⟩
  gl:=fun g cs hg => (h.gl g cs hg).restrict (n:=0) (by simp only [PVal.cl]; exact h.gc g cs hg) (fun i b hi _ => absurd hi (Nat.not_lt_zero _))
  gc:=h.gc
  gx:=h.gx
  step:=h.step }
theorem SR.getD (h:SR P E Γ bs ow w a st) (t:Nat):VR Γ bs w (st.tmps.getD t .undef) (a.getD t undef):=by
 have:=h.opv [] (.tmp t)
 exact this
theorem qzH {p:PVal} {v:Value} (hv:VR Γ bs w p v) (hp:p.isSlice = true):qji v 0 = some v:=by
 cases p <;> simp [PVal.isSlice] at hp
 cases hv <;> rfl
theorem qx0 (h:SR P E Γ bs ow w a st) {g:ResultVar→Sem Value} (h1:∀ t,g (.tmp t) = pure (a.getD t undef)) (h2:∀ x t,g (.cell x t) = do loadVar t (← asAddr (a.getD x undef))) :
  ∀ {rs:List ResultVar} {l:List PVal},retL P st rs = some l→∃ vs:List Value,(rs.mapM g).run P w = .ok vs w∧vs.length = rs.length∧l.length = rs.length∧(∀ (i:Nat) p v,l[i]? = some p→vs[i]? = some v→VR Γ bs w p v) ∧
   ∀ (i:Nat) t,rs[i]? = some (.tmp t)→vs[i]? = some (a.getD t undef)
 | [],l,hl => by
  cases hl
  exact ⟨[],by simp,rfl,rfl,by simp,by simp⟩
 | x :: rs,l,hl => by
  unfold retL at hl
  split at hl
  ·rename_i p l' hp hl'
   cases hl
   obtain ⟨vs,k1,k2,k3,k4,k5⟩:=qx0 h h1 h2 hl'
   have hx:∃ v,(g x).run P w = .ok v w∧VR Γ bs w p v∧∀ t,x = .tmp t→v = a.getD t undef:=by
    cases x with
    | tmp t =>
     cases hp
     exact ⟨a.getD t undef,by rw [h1]; simp,h.getD t,fun t' e => by cases e; rfl⟩
    | cell t ty =>
     have hv:=h.getD t
     obtain ⟨v,e1,e2⟩:=qwg h hv hp
     refine ⟨v,?_,e2,fun t' e => by cases e⟩
     rw [h2]
     have hp':qkH P ty (st.tmps.getD t .undef) st.boxes = some p:=hp
     generalize hvt:a.getD t undef = vt at hv e1
     generalize hpt:st.tmps.getD t .undef = pt at hv hp'
     unfold qkH at hp'
     split at hp'
     ·cases hv <;> simpa [Instr.loadAt,Instr.sureAddr,asAddr] using e1
     ·cases hv; simpa [Instr.loadAt,Instr.sureAddr,asAddr] using e1
     ·cases hp'
   obtain ⟨v,e1,e2,e3⟩:=hx
   refine ⟨v :: vs,by simp [List.mapM_cons,e1,k1],by simp [k2],by simp [k3],fun i q u hq hu => ?_,fun i t ht => ?_⟩
   ·cases i with
    | zero => simp at hq hu; subst hq; subst hu; exact e2
    | succ i => exact k4 i q u (by simpa using hq) (by simpa using hu)
   ·cases i with
    | zero => simp at ht; simp [e3 t ht]
    | succ i => simpa using k5 i t (by simpa using ht)
  ·cases hl
theorem qmD (h:SR P E Γ bs ow w a st) {fn:Func} {r:PVal} (hr:retV P st fn.results.toList = some r) :
  ∃ v,(results fn a).run P w = .ok v w∧VR Γ bs w r v∧∀ k u v',qll st fn.results.toList k→a[(qdl fn.results.toList k).1]? = some u→qji u (qdl fn.results.toList k).2 = some v'→qji v k = some v':=by
 have hres:fn.results = fn.results.toList.toArray:=by simp
 generalize fn.results.toList = rs at hr hres
 have hsl:∀ (t:Nat) u v',(st.tmps.getD t .undef).isSlice = true→a[t]? = some u→qji u 0 = some v'→a.getD t undef = v':=by
  intro t u v' hp hu hv'
  have h1:=h.getD t
  have h2:a.getD t undef = u:=by rw [Array.getD_eq_getD_getElem?,hu]; rfl
  rw [h2] at h1 ⊢
  rw [qzH h1 hp] at hv'
  exact (Option.some.injEq _ _).mp hv'
 obtain ⟨g,hg,h1,h2⟩:∃ g:ResultVar→Sem Value,results fn a = (do let vs ← fn.results.mapM g; pure (if h:vs.size = 1 then vs[0] else .tuple vs))∧(∀ t,g (.tmp t) = pure (a.getD t undef))∧(∀ x t,g (.cell x t) = do loadVar t (← asAddr (a.getD x undef))) :=
  ⟨_,rfl,fun _ => rfl,fun _ _ => rfl⟩
 rw [hg,hres,List.mapM_toArray]
 have many:∀ (l:List PVal),retL P st rs = some l→rs.length ≠ 1→r = .tuple l→(∀ k,qll st rs k→∃ t,rs[k]? = some (.tmp t)∧qdl rs k = (t,0)∧(st.tmps.getD t .undef).isSlice = true) →
   ∃ v,(do let vs ← (Functor.map List.toArray (rs.mapM g)); pure (if h:vs.size = 1 then vs[0] else Value.tuple vs):Sem Value).run P w = .ok v w∧VR Γ bs w r v ∧
    ∀ k u v',qll st rs k→a[(qdl rs k).1]? = some u→qji u (qdl rs k).2 = some v'→qji v k = some v':=by
  intro l hl hn hr hp
  obtain ⟨vs,k1,k2,k3,k4,k5⟩:=qx0 h h1 h2 hl
  refine ⟨.tuple vs.toArray,by simp [k1,k2,hn],?_,fun k u v' hk hu hv' => ?_⟩
  ·subst hr
   exact .tuple _ _ (by simp [k2,k3]) fun i p v hp hv => k4 i p v hp (by simpa using hv)
  ·obtain ⟨t,e1,e2,e3⟩:=hp k hk
   rw [e2] at hu hv'
   have:=k5 k t e1
   show vs.toArray[k]? = some v'
   rw [List.getElem?_toArray,this,hsl t u v' e3 hu hv']
 rcases rs with _ | ⟨x,_ | ⟨y,rs⟩⟩
 ·cases hr
  exact many [] rfl (by simp) rfl (fun k hk => by simp [qll] at hk)
 ·have hl:retL P st [x] = some [r]:=by
   have hr':qHK P st x = some r:=hr
   simp [retL,hr']
  obtain ⟨vs,k1,k2,k3,k4,k5⟩:=qx0 h h1 h2 hl
  match vs,k2 with
  | [v],_ =>
   refine ⟨v,by simp [-List.mapM_cons,k1],k4 0 r v rfl rfl,fun k u v' hk hu hv' => ?_⟩
   cases x with
   | tmp t =>
    have:=k5 0 t rfl
    simp at this
    simp only [qdl] at hu hv'
    rw [this,hu]
    exact hv'
   | cell t ty => exact hk.elim
 ·have hr':(retL P st (x :: y :: rs)).map PVal.tuple = some r:=hr
  rw [Option.map_eq_some_iff] at hr'
  obtain ⟨l,hl,e⟩:=hr'
  refine many l hl (by simp) e.symm fun k hk => ?_
  simp only [qll] at hk
  split at hk
  ·rename_i t ht
   exact ⟨t,ht,by simp only [qdl,ht],hk⟩
  ·exact hk.elim
end
section
variable {P:Program} {GE:List (Nat×List PVal)} {A:List Nat} {ops:Array Oper}
theorem qGB {op:Op} {id:Nat} {v:Operand→PVal} {H:List PBox} {K K':PVal→List (Nat×TypeId)→List PBox→Prop} (h:pdo P GE op id v H K) (hk:∀ p ro H,K p ro H→K' p ro H):pdo P GE op id v H K':=by
 unfold pdo at *
 split at h
 ·unfold qwk at *
  split at h
  ·rcases h with ⟨h1,r,ro,h2,h3⟩ | ⟨ρ,argsC,Hc,rc,ro,Hc',H',r,k1,k2,k3,k4,k5,k6,k7,k8,k9,h3⟩
   ·exact .inl ⟨h1,r,ro,h2,hk _ _ _ h3⟩
   ·exact .inr ⟨ρ,argsC,Hc,rc,ro,Hc',H',r,k1,k2,k3,k4,k5,k6,k7,k8,k9,hk _ _ _ h3⟩
  ·exact h.elim
 ·split at h
  ·exact hk _ _ _ h
  ·exact h.elim
theorem qiw {o:Oper} {id:Nat} {K K':PSt→Prop} {st:PSt} (hk:∀ st,K st→K' st) (h:qkt o st.tmps.length = true∧pdo P GE o.op id (opv GE st.tmps) st.boxes fun p ro H => K (putv st o.dst p ro H)) :
  qkt o st.tmps.length = true∧pdo P GE o.op id (opv GE st.tmps) st.boxes fun p ro H => K' (putv st o.dst p ro H):=⟨h.1,qGB h.2 fun _ _ _ h => hk _ h⟩
theorem qDl {o:Oper} {id:Nat} {K K':PSt→Prop} {st:PSt} (hk:∀ st,K st→K' st) (h:qzR P GE A o id K st):qzR P GE A o id K' st:=by
 unfold qzR at *
 split at h
 case h_1 => exact ⟨h.1,hk _ h.2⟩
 case h_2 =>
  split at h
  ·rename_i hA; simp only [if_pos hA]; exact ⟨h.1,hk _ h.2⟩
  ·rename_i hA; simp only [if_neg hA]; exact qiw hk h
 case h_3 =>
  split at h
  ·exact ⟨h.1,hk _ h.2⟩
  ·exact qiw hk h
 case h_4 =>
  split at h
  ·exact ⟨h.1,hk _ h.2⟩
  ·exact qiw hk h
 case h_5 =>
  split at h
  ·exact ⟨h.1,hk _ h.2⟩
  ·exact h.elim
 case h_6 =>
  split at h
  ·exact ⟨h.1,hk _ h.2⟩
  ·exact h.elim
 case h_7 =>
  split at h
  ·split at h
   ·exact ⟨h.1,h.2.1,h.2.2.1,hk _ h.2.2.2⟩
   ·exact h.elim
  ·exact h.elim
 case h_8 =>
  split at h
  ·rename_i hA
   simp only [if_pos hA]
   split at h
   ·split at h
    ·split at h
     ·exact ⟨h.1,h.2.1,hk _ h.2.2⟩
     ·exact h.elim
    ·exact h.elim
   ·exact h.elim
  ·rename_i hA; simp only [if_neg hA]; exact qiw hk h
 case h_9 =>
  split at h
  ·split at h
   ·exact hk _ h
   ·exact qiw hk h
  ·exact qiw hk h
 case h_10 => exact qiw hk h
theorem qIg {n:Int} (h1 : -9223372036854775808 ≤ n) (h2:n < 9223372036854775808):IntKind.i64.wrap n = n:=by
 simp [IntKind.wrap,IntKind.bits,IntKind.signed]; omega
end
end Go.Proofs.YtgldgpdhblndkaaGreatDoor
