/- WHAT IS PROVED: parts of the proof, put together by a program (PlA VisB VisC). Conditions: none. -/
import Derived.Test.YtgldgpdhblndkaaGreatDoorPkE26
import Derived.Test.YtgldgpdhblndkaaGreatDoorPkE25
import Derived.Test.YtgldgpdhblndkaaGreatDoorPkE20
noncomputable section
namespace Go.Proofs.YtgldgpdhblndkaaGreatDoor
open Go
set_option linter.unusedVariables false
set_option maxRecDepth 100000
def opsA:Code→Array Oper
 | .region _ ops _ => ops
 | _ => #[]
def idA:Code→Nat
 | .region id _ _ => id
 | _ => 0
def opA (c:Code) (i:Nat):Oper:=(opsA c)[i]?.getD default
def tysA (o:Oper):Array TypeId:=match o.op with
 | .call c => c.argTypes
 | _ => #[]
def qz1 (o:Oper):Bool:=o.guard.isNone && qd7 o && !qak o.op
theorem qvn {L:List Oper} (h:L.all qz1 = true):∀ o ∈ L,o.guard = none∧qd7 o = true∧qak o.op = false:=fun o ho => by
 have:=List.all_eq_true.1 h o ho
 simpa [qz1,and_assoc] using this
theorem qjQ {P:Program} {GE:List (Nat×List PVal)} {A:List Nat} {ops:Array Oper} {K K':PSt→Prop} (hK:∀ st,K st→K' st):∀ (L:List Oper) (id:Nat) (st:PSt),qbW P GE A ops K L id st→qbW P GE A ops K' L id st
 | [],_,st,h => hK st h
 | o :: L,id,st,h => by
  unfold qbW at h ⊢
  split at h
  ·exact qqU (fun st hx => qjQ hK L _ st hx) h
  ·split at h
   ·exact ⟨fun hx => qqU (fun st hx => qjQ hK L _ st hx) (h.1 hx),fun hx => qjQ hK L _ _ (h.2 hx)⟩
   ·exact h
theorem fzW {P:Program} {m:Nat} {sc:List It} {F:Prop} {st st0:PSt} (h:PS sc F) (he:F = fzK m sc st (fun _ st' => FG st' st0)):Weak P m st st0:=by
 obtain ⟨_,st',hw,hf⟩:=qCy (P:=P) (Eq.mp he h)
 exact hw.trans hf.weak
theorem Sat.thenW {P:Program} {GE:List (Nat×List PVal)} {m:Nat} {c:Code} {e:Exit} {st0 st1 st2:PSt} (h:Sat P GE m c (EX e st1) st0) (hw:Weak P m st1 st2):Sat P GE m c (EX e st2) st0 :=
 h.mono fun e' st' hx => ⟨st2,hx.2 ▸ hw,hx.1,rfl⟩
theorem qvD {P:Program} {GE:List (Nat×List PVal)} {A:List Nat} {ops:Array Oper} {L:List Oper} {st st0:PSt} {sc:List It} {F:Prop} (h:PS sc F) (he:F = qA1 P GE A ops (fun _ st => FG st st0) L 0 0 sc st):qbW P GE A ops (fun st => FG st st0) L 0 st :=
 qjQ (fun st ⟨_,hx⟩ => hx) L 0 st (qpa L 0 0 sc st (Eq.mp he h))
theorem FG.sr {P:Program} {E:Ent} {Γ:qaP} {bs:qbj} {ow:Nat→Option Loc} {w:World} {a:Array Value} {st st0:PSt} (h:SR P E Γ bs ow w a st) (hf:FG st st0):∃ Γ' bs' ow',SR P E Γ' bs' ow' w a st0:=by
 obtain ⟨Γ',bs',ow',h',_⟩:=(hf.weak (P:=P) (m:=0)) E [] ⟨a,[]⟩ w rfl ⟨Γ,bs,ow,h,fun i hi => absurd hi (Nat.not_lt_zero _)⟩
 exact ⟨Γ',bs',ow',h'⟩
structure Yd (P:Program) (GE:List (Nat×List PVal)) (l:Nat) {S α:Type} (c:α→List PVal) (step:S→α→Option (Bool×S)) (J:Bool→S→qaP→World→Prop):Prop where
 base:∀ b s Γ w,J b s Γ w→Base GE Γ w
 side:∀ b s Γ w,J b s Γ w→∀ Γ' bs' ow' w' a' st',SR P (asd GE Γ w) Γ' bs' ow' w' a' st'→J b s Γ' w'
 yield:∀ s Γ w x v n r,J true s Γ w→VR Γ [] w (.agg (c x)) v→step s x = some r→YieldAt Fence.wide n P l #[v] w fun e w' => ∃ Γ',e = .returned (.bool r.1)∧Γ.Le w Γ' w'∧J r.1 r.2 Γ' w'
section
variable {S:Type} (step:S→tPred→Option (Bool×S))
mutual
def visP:tPred→S→Option (Bool×S)
 | ⟨o,n,k,ks⟩,s => (step s ⟨o,n,k,ks⟩).bind fun r => match r.1 with
  | false => some (false,r.2)
  | true => if ks.length < 4611686018427387904 then visL ks r.2 else none
def visL:List tPred→S→Option (Bool×S)
 | [],s => some (true,s)
 | p :: ps,s => (visP p s).bind fun r => match r.1 with
  | false => some (false,r.2)
  | true => visL ps r.2
end
theorem qHI (p:tPred) (s:S):visP step p s = (step s p).bind fun r => match r.1 with
  | false => some (false,r.2)
  | true => if p.Kids.length < 4611686018427387904 then visL step p.Kids r.2 else none:=by
 obtain ⟨o,n,k,ks⟩:=p
 rw [visP]; rfl
end
abbrev fV:Nat:=150
noncomputable def bV:Code:=Tryz.f150.body.getD .skip
abbrev vR0:Code:=qeA bV [false]
abbrev vR1:Code:=qeA bV [true,false,false]
abbrev vR2:Code:=qeA bV [true,false,true,false,false]
abbrev vR3:Code:=qeA bV [true,true,false,false]
abbrev vL:Code:=qeA bV [true,true,false,true,false,false]
abbrev vR4:Code:=qeA bV [true,true,false,true,false,false,false]
abbrev vR5:Code:=qeA bV [true,true,false,true,false,false,true,true,false,false,false]
abbrev vR6:Code:=qeA bV [true,true,false,true,false,false,true,true,false,false,true,false]
abbrev vR7:Code:=qeA bV [true,true,false,true,false,false,true,true,false,false,true,true,false,false]
abbrev vR8:Code:=qeA bV [true,true,false,true,false,false,true,true,true]
abbrev vR9:Code:=qeA bV [true,true,true,false]
theorem qIH:bV = .seq vR0 (.seq (.seq vR1 (.cond (.tmp 10) (.seq vR2 .ret) .skip)) (.seq (.seq vR3 (.block 0 (.loop vL))) (.seq vR9 .ret))):=by kernel_rfl
theorem qIK:vL = .seq vR4 (.seq (.cond (.tmp 15) .skip (.exit 0)) (.seq (.block 1 (.seq vR5 (.seq vR6 (.cond (.tmp 21) (.seq vR7 .ret) .skip)))) vR8)):=by kernel_rfl
abbrev yv (l:Nat):PVal := .val (.func (.yield l) #[] #[])
abbrev xpr (p:tPred):List PVal:=[.int .i64 p.Op,.str p.Name,.int .i64 p.N,sl qaa p.Kids]
theorem clx (p:tPred):clL 0 (xpr p):=by have:=qab p; rwa [qal] at this
abbrev vS1 (p:tPred) (l:Nat):PSt:=stt 23 [(1,yv l),(2,.eptr (qaa p))] [.dead] []
abbrev vS3 (l:Nat) (ks:List tPred) (i:Int):PSt:=stt 23 [(1,yv l),(12,sl qaa ks),(13,.int .i64 (ks.length:Int)),(14,.int .i64 i)] [.dead] []
abbrev vS5 (l:Nat) (ks:List tPred) (i:Int) (x:tPred):PSt:=stt 23 [(1,yv l),(6,.eptr (qaa x)),(12,sl qaa ks),(13,.int .i64 (ks.length:Int)),(14,.int .i64 i)] [.dead,.dead] []
theorem v_0 (p:tPred) (l:Nat):Sat Pg GE 0 vR0 (EX .normal (vS1 p l)) (stt 23 [(0,.agg (qaa p)),(1,yv l)] [] []):=by
 have z:=sx (qaw p) <| eF .normal (stt 23 [(1,yv l),(2,.bptr 0 0)] [.cells (xpr p) []] [])
 have h1:Sat Pg GE 0 vR0 (EX .normal (stt 23 [(1,yv l),(2,.bptr 0 0)] [.cells (xpr p) []] [])) (stt 23 [(0,.agg (qaa p)),(1,yv l)] [] []):=qjJ (A:=[]) mixed z (by kernel_rfl)
 have z2:=sfz 0 [xpr p] [1,2] [] (fb1 (m:=0) (b:=0) rfl (xpr p) rfl) (fb2 0 (clx p)) (fb3 (l:=xpr p) (r:=xpr p) rfl) <| en (fr (stt 23 [(1,yv l),(2,.eptr (xpr p))] [.dead] []))
 have h2:=h1.thenW (st2:=stt 23 [(1,yv l),(2,.eptr (xpr p))] [.dead] []) (fzW z2 (by kernel_rfl))
 unfold vS1
 rw [qal]
 rw [qal] at h2
 exact h2
theorem v_1 (p:tPred) (l:Nat):qbW Pg GE [] (opsA vR1) (fun st => FG st (stt 23 [(1,yv l),(2,.eptr (qaa p)),(7,yv l),(8,.agg (qaa p))] [.dead] [])) ((opsA vR1).toList.take 2) 0 (vS1 p l):=by
 have z:=sv (qaj p) <| en (fr (stt 23 [(1,yv l),(2,.eptr (qaa p)),(7,yv l),(8,.agg (qaa p))] [.dead] []))
 exact qvD z (by kernel_rfl)
theorem v_1b (p:tPred) (l:Nat) (b:Bool):qbW Pg GE [] (opsA vR1) (fun st => FG st (stt 23 [(1,yv l),(2,.eptr (qaa p)),(10,.bool (!b))] [.dead] [])) ((opsA vR1).toList.drop 3) 0 (stt 23 [(1,yv l),(2,.eptr (qaa p)),(7,yv l),(8,.agg (qaa p)),(9,.bool b)] [.dead] []):=by
 have z:=en (fr (stt 23 [(1,yv l),(2,.eptr (qaa p)),(10,.bool (!b))] [.dead] []))
 exact qvD z (by kernel_rfl)
abbrev vE (H:List PBox) (b:Bool):PSt:=stt 23 [(4,.bool b)] H []
theorem v_2 (p:tPred) (l:Nat):Sat Pg GE 0 (.seq vR2 .ret) (EX .ret (vE [.dead] false)) (stt 23 [(1,yv l),(2,.eptr (qaa p)),(10,.bool true)] [.dead] []):=by
 have z:=eF .ret (vE [.dead] false)
 exact qjJ (A:=[]) mixed z (by kernel_rfl)
theorem v_3 (p:tPred) (l:Nat):Sat Pg GE 0 vR3 (EX .normal (vS3 l p.Kids 0)) (stt 23 [(1,yv l),(2,.eptr (qaa p)),(10,.bool false)] [.dead] []):=by
 have z:=sv (qax p) <| sv (qay p) <| svn (sT29.ln p.Kids) <| eF .normal (vS3 l p.Kids 0)
 exact qjJ (A:=[]) mixed z (by kernel_rfl)
abbrev vS4 (l:Nat) (ks:List tPred) (i:Int):PSt:=stt 23 [(1,yv l),(12,sl qaa ks),(13,.int .i64 (ks.length:Int)),(14,.int .i64 i),(15,.bool (decide (i < (ks.length:Int))))] [.dead] []
theorem v_4 (l:Nat) (ks:List tPred) (i:Int):Sat Pg GE 0 vR4 (EX .normal (vS4 l ks i)) (vS3 l ks i):=by
 have z:=eF .normal (vS4 l ks i)
 exact qjJ (A:=[]) mixed z (by kernel_rfl)
theorem v_5 (l:Nat) (ks:List tPred) (i:Int) (x:tPred) (hx:idx ks i = some x):Sat Pg GE 0 vR5 (EX .normal (vS5 l ks i x)) (vS4 l ks i):=by
 have z:=sv (sT29.ia (k := .i64) hx) <| sv (qaj x) <| sx pz31 <| sx (qaw x) <| eF .normal (stt 23 [(1,yv l),(6,.bptr 1 0),(12,sl qaa ks),(13,.int .i64 (ks.length:Int)),(14,.int .i64 i)] [.dead,.cells (xpr x) []] [])
 have h1:Sat Pg GE 0 vR5 (EX .normal (stt 23 [(1,yv l),(6,.bptr 1 0),(12,sl qaa ks),(13,.int .i64 (ks.length:Int)),(14,.int .i64 i)] [.dead,.cells (xpr x) []] [])) (vS4 l ks i):=qjJ (A:=[]) mixed z (by kernel_rfl)
 have z2:=sfz 1 [xpr x] [1,6,12,13,14] [] (fb1 (m:=0) (b:=1) rfl (xpr x) rfl) (fb2 1 (clx x)) (fb3 (l:=xpr x) (r:=xpr x) rfl) <| sf (nof 1 (p:=sl qaa ks) (qad qab ks)) <| en (fr (stt 23 [(1,yv l),(6,.eptr (xpr x)),(12,sl qaa ks),(13,.int .i64 (ks.length:Int)),(14,.int .i64 i)] [.dead,.dead] []))
 have h2:=h1.thenW (st2:=stt 23 [(1,yv l),(6,.eptr (xpr x)),(12,sl qaa ks),(13,.int .i64 (ks.length:Int)),(14,.int .i64 i)] [.dead,.dead] []) (fzW z2 (by kernel_rfl))
 unfold vS5
 rw [qal]
 exact h2
theorem v_6 (l:Nat) (ks:List tPred) (i:Int) (x:tPred):qbW Pg GE [] (opsA vR6) (fun st => FG st (stt 23 [(1,yv l),(12,sl qaa ks),(13,.int .i64 (ks.length:Int)),(14,.int .i64 i),(18,.agg (qaa x)),(19,yv l)] [.dead,.dead] [])) ((opsA vR6).toList.take 2) 0 (vS5 l ks i x):=by
 have z:=sv (qaj x) <| en (fr (stt 23 [(1,yv l),(12,sl qaa ks),(13,.int .i64 (ks.length:Int)),(14,.int .i64 i),(18,.agg (qaa x)),(19,yv l)] [.dead,.dead] []))
 exact qvD z (by kernel_rfl)
abbrev vS6 (l:Nat) (ks:List tPred) (i:Int) (x:tPred) (b:Bool):PSt:=stt 23 [(1,yv l),(12,sl qaa ks),(13,.int .i64 (ks.length:Int)),(14,.int .i64 i),(18,.agg (qaa x)),(19,yv l),(20,.bool b)] [.dead,.dead] []
abbrev vS7 (l:Nat) (ks:List tPred) (i:Int) (b:Bool):PSt:=stt 23 [(1,yv l),(12,sl qaa ks),(13,.int .i64 (ks.length:Int)),(14,.int .i64 i),(21,.bool (!b))] [.dead,.dead] []
theorem v_6b (l:Nat) (ks:List tPred) (i:Int) (x:tPred) (b:Bool):qbW Pg GE [] (opsA vR6) (fun st => FG st (vS7 l ks i b)) ((opsA vR6).toList.drop 3) 0 (vS6 l ks i x b):=by
 have z:=en (fr (vS7 l ks i b))
 exact qvD z (by kernel_rfl)
theorem v_7 (l:Nat) (ks:List tPred) (i:Int):Sat Pg GE 0 (.seq vR7 .ret) (EX .ret (vE [.dead,.dead] false)) (vS7 l ks i false):=by
 have z:=eF .ret (vE [.dead,.dead] false)
 exact qjJ (A:=[]) mixed z (by kernel_rfl)
theorem v_8 (l:Nat) (ks:List tPred) (i:Int):Sat Pg GE 0 vR8 (EX .normal (⟨(vS3 l ks (w64 (i + 1))).tmps,[.dead,.dead],[]⟩)) (vS7 l ks i true):=by
 have z:=eF .normal (⟨(vS3 l ks (w64 (i + 1))).tmps,[.dead,.dead],[]⟩)
 exact qjJ (A:=[]) mixed z (by kernel_rfl)
theorem v_9 (l:Nat) (ks:List tPred) (i:Int):Sat Pg GE 0 (.seq vR9 .ret) (EX .ret (vE [.dead] true)) (vS4 l ks i):=by
 have z:=eF .ret (vE [.dead] true)
 exact qjJ (A:=[]) mixed z (by kernel_rfl)
theorem qeY {n:Int} (h1 : -9223372036854775808 ≤ n) (h2:n < 9223372036854775808):w64 n = n:=qIg h1 h2
theorem qaS {α:Type} (l:List α) (i:Nat) (h:i < l.length):idx l (i:Int) = some l[i]:=by
 unfold idx
 rw [if_pos (by omega)]
 simp [h]
theorem qGV {α:Type} (l:List α) (i:Nat) (h:i ≤ l.length):slc l none (some (i:Int)) = some (l.take i):=by
 simp [slc,bd,h]
theorem qCC {α:Type} (l:List α) (i:Nat) (h:i ≤ l.length):slc l (some (i:Int)) none = some (l.drop i):=by
 simp [slc,bd,h]
theorem qcq {α:Type} {l r:List α} (h:l.length + r.length ≤ 1073741824):app l r = some (l ++ r):=if_pos h
theorem qzk {l r:Str} (h:l.length + r.length ≤ 4611686018427387904):cat l r = some (l ++ r):=if_pos h
theorem qhl {σ X:Type} {body:σ→Option (σ⊕X)} {s s':σ} (h:body s = some (.inl s')):loop body s = loop body s':=by rw [qjj,h]
theorem qez {σ X:Type} {body:σ→Option (σ⊕X)} {s:σ} {x:X} (h:body s = some (.inr x)):loop body s = some x:=by rw [qjj,h]
def runL {α σ X:Type} (f:Nat→α→σ→σ⊕X) (e:σ→X):List α→Nat→σ→X
 | [],_,s => e s
 | x :: r,i,s => match f i x s with
  | .inl s' => runL f e r (i + 1) s'
  | .inr y => y
theorem qiF {α σ τ X:Type} (l:List α) (hl:l.length < 9223372036854775808) (mk:Int→σ→τ) (body:τ→Option (τ⊕X)) (I:Nat→σ→Prop) (f:Nat→α→σ→σ⊕X) (e:σ→X)
  (hin:∀ (i:Nat) (h:i < l.length) s,I i s→body (mk i s) = some (match f i l[i] s with | .inl s' => .inl (mk (w64 ((i:Int) + 1)) s') | .inr y => .inr y)∧∀ s',f i l[i] s = .inl s'→I (i + 1) s')
  (hend:∀ s,I l.length s→body (mk l.length s) = some (.inr (e s))):∀ (i:Nat) (s:σ),i ≤ l.length→I i s→loop body (mk i s) = some (runL f e (l.drop i) i s):=by
 intro i s hi hI
 obtain ⟨k,hk⟩:∃ k,k + i = l.length:=⟨l.length - i,by omega⟩
 induction k generalizing i s with
 | zero =>
  have:i = l.length:=by omega
  subst this
  rw [qjj,hend s hI,List.drop_length]
  rfl
 | succ k ih =>
  have hlt:i < l.length:=by omega
  obtain ⟨h1,h2⟩:=hin i hlt s hI
  rw [qjj,h1,List.drop_eq_getElem_cons hlt]
  unfold runL
  cases hf:f i l[i] s with
  | inl s' =>
   simp only
   rw [qeY (by omega) (by omega)]
   have:=ih (i + 1) s' (by omega) (h2 s' hf) (by omega)
   rw [show ((i:Int) + 1) = ((i + 1:Nat):Int) by omega]
   exact this
  | inr y => rfl
theorem qCj {α X:Type} (p:α→Bool) (y e:X):∀ (l:List α) (i:Nat),runL (fun _ x (_:Unit) => if p x = true then Sum.inr y else .inl ()) (fun _ => e) l i () = if l.any p = true then y else e
 | [],i => by simp [runL]
 | x :: l,i => by
  have ih:=qCj p y e l (i + 1)
  unfold runL
  by_cases h:p x = true
  ·simp [h]
  ·simp only [h,if_false,ih,List.any_cons,Bool.false_or,Bool.false_eq_true]
theorem qyP {α X:Type} (l:List α) (hl:l.length < 9223372036854775808) (body:Int→Option (Int⊕X)) (p:α→Bool) (y e:X)
  (hin:∀ (i:Nat) (h:i < l.length),body i = some (if p l[i] = true then .inr y else .inl (w64 ((i:Int) + 1)))) (hend:body l.length = some (.inr e)) (i:Nat) (hi:i ≤ l.length) :
  loop body (i:Int) = some (if (l.drop i).any p = true then y else e):=by
 have:=qiF l hl (fun i (_:Unit) => i) body (fun _ _ => True) (fun _ x _ => if p x = true then Sum.inr y else .inl ()) (fun _ => e) (fun i h s _ => ⟨?_,fun _ _ => trivial⟩) (fun s _ => hend) i () hi trivial
 ·rw [this,qCj]
 ·rw [hin i h]
  by_cases hp:p l[i] = true <;> simp [hp]
theorem qzx {α X:Type} (p:α→Bool) (y:Nat→X) (e:X):∀ (l:List α) (i:Nat),runL (fun j x (_:Unit) => if p x = true then Sum.inr (y j) else .inl ()) (fun _ => e) l i () = match l.findIdx? p with | some j => y (i + j) | none => e
 | [],i => by simp [runL]
 | x :: l,i => by
  have ih:=qzx p y e l (i + 1)
  unfold runL
  rw [List.findIdx?_cons]
  by_cases h:p x = true
  ·simp [h]
  ·simp only [h,if_false,ih,Bool.false_eq_true]
   cases l.findIdx? p with
   | none => rfl
   | some j => simp only [Option.map_some]; congr 1; omega
theorem qrG {α X:Type} (l:List α) (hl:l.length < 9223372036854775808) (body:Int→Option (Int⊕X)) (p:α→Bool) (y:Nat→X) (e:X)
  (hin:∀ (i:Nat) (h:i < l.length),body i = some (if p l[i] = true then .inr (y i) else .inl (w64 ((i:Int) + 1)))) (hend:body l.length = some (.inr e)) :
  loop body (0:Int) = some (match l.findIdx? p with | some j => y j | none => e):=by
 have:=qiF l hl (fun i (_:Unit) => i) body (fun _ _ => True) (fun j x _ => if p x = true then Sum.inr (y j) else .inl ()) (fun _ => e) (fun i h s _ => ⟨?_,fun _ _ => trivial⟩) (fun s _ => hend) 0 () (Nat.zero_le _) trivial
 ·simp only [Int.ofNat_zero,List.drop_zero] at this
  have this2:=qzx p y e l 0
  simp only [Nat.zero_add] at this2
  rw [← this2]
  exact this
 ·rw [hin i h]
  by_cases hp:p l[i] = true <;> simp [hp]
def VF {S:Type} (J:Bool→S→qaP→World→Prop) (Γ0:qaP) (w0:World) (b:Bool) (s:S) (st:PSt) (a:Array Value) (w:World):Prop := ∃ Γ,J b s Γ w∧Γ0.Le w0 Γ w∧∃ E bs ow,SR Pg E Γ bs ow w a st
structure Dd (st:PSt) (k:Nat):Prop where
 c:clL 0 st.tmps
 b:st.boxes = List.replicate k .dead
 o:st.own = []
structure R4 (c:Code):Prop where
 eq:c = .region (idA c) (opsA c) false
 rg:List.range (opsA c).size = [0,1] ++ 2 :: ([3] ++ [])
 p1:[0,1].map (fun i => (opsA c)[i]?) = ((opsA c).toList.take 2).map some
 p2:((opsA c).toList.take 2).all qz1 = true
 o:(opsA c)[2]? = some (opA c 2)
 g:(opA c 2).guard = none
 q1:[3].map (fun i => (opsA c)[i]?) = ((opsA c).toList.drop 3).map some
 q2:((opsA c).toList.drop 3).all qz1 = true
theorem r4_1:R4 vR1:=⟨by kernel_rfl,by kernel_rfl,by kernel_rfl,by kernel_rfl,by kernel_rfl,by kernel_rfl,by kernel_rfl,by kernel_rfl⟩
theorem r4_6:R4 vR6:=⟨by kernel_rfl,by kernel_rfl,by kernel_rfl,by kernel_rfl,by kernel_rfl,by kernel_rfl,by kernel_rfl,by kernel_rfl⟩
theorem qH7:(opA vR1 2).op = .call { callee := .value (.tmp 7),args := #[.tmp 8],argTypes:=tysA (opA vR1 2) }:=by kernel_rfl
theorem qIY:(opA vR1 2).dst = some 9:=by kernel_rfl
theorem qIz:(opA vR6 2).op = .call { callee := .value (.func fV),args := #[.tmp 18,.tmp 19],argTypes:=tysA (opA vR6 2) }:=by kernel_rfl
theorem qIU:(opA vR6 2).dst = some 20:=by kernel_rfl
section
variable {S:Type} {step:S→tPred→Option (Bool×S)} {J:Bool→S→qaP→World→Prop} {l:Nat} {Γ0:qaP} {w0:World} {b:Bool} {s:S} {st0 st1 stA stB:PSt} {k kA kB:Nat} {a:Array Value} {w:World} {n:Nat} {ds:List Deferred}
theorem VF.again (hY:Yd Pg GE l qaa step J) (hD:Dd st0 k) (h:VF J Γ0 w0 b s st0 a w):∃ Γ,J b s Γ w∧Γ0.Le w0 Γ w∧SR Pg (asd GE Γ w) Γ (List.replicate k none) (fun _ => none) w a st0:=by
 obtain ⟨Γ,hJ,hle,E,bs,ow,hS⟩:=h
 obtain ⟨tm,H,own⟩:=st0
 have hb:H = _:=hD.b
 have ho:own = []:=hD.o
 subst hb; subst ho
 exact ⟨Γ,hJ,hle,hS.again hD.c (hY.base _ _ _ _ hJ) (.refl _ _) k⟩
theorem VF.redo (hY:Yd Pg GE l qaa step J) (hD:Dd st0 k) (h:VF J Γ0 w0 b s st0 a w) (k':Nat):VF J Γ0 w0 b s ⟨st0.tmps,List.replicate k' .dead,[]⟩ a w:=by
 obtain ⟨Γ,hJ,hle,hS⟩:=h.again hY hD
 exact ⟨Γ,hJ,hle,_,_,_,hS.again hD.c (hY.base _ _ _ _ hJ) (.refl _ _) k'⟩
theorem VF.piece (hY:Yd Pg GE l qaa step J) {c:Code} {e:Exit} (hS:Sat Pg GE 0 c (EX e st1) st0) (hD:Dd st0 k) (h:VF J Γ0 w0 b s st0 a w) :
  c.wpIn Fence.wide n Pg (fun e' a' w' => e' = e∧a'.defers = ds∧VF J Γ0 w0 b s st1 a'.tmps w') ⟨a,ds⟩ w:=by
 obtain ⟨Γ,hJ,hle,hR⟩:=h.again hY hD
 refine wpIn_mono (hS.wide (hY.base _ _ _ _ hJ) hR n ds) ?_
 rintro e' a' w' ⟨hd,Γ',bs',ow',st',h',rfl,rfl⟩
 exact ⟨rfl,hd,Γ',hY.side _ _ _ _ hJ _ _ _ _ _ _ h',hle.trans h'.step.le,_,_,_,h'⟩
theorem VF.reg (hY:Yd Pg GE l qaa step J) {c:Code} (hR:R4 c) (hD:Dd st0 k) (hDB:Dd stB kB) (hpre:qbW Pg GE [] (opsA c) (fun st => FG st stA) ((opsA c).toList.take 2) 0 st0) (hsuf:qbW Pg GE [] (opsA c) (fun st => FG st st1) ((opsA c).toList.drop 3) 0 stB) {r:Bool×S}
  (hcall:∀ a w (next:Act→World→Prop) (Q:Exit→Act→World→Prop),VF J Γ0 w0 b s stA a w→(∀ a' w',VF J Γ0 w0 r.1 r.2 stB a' w'→next ⟨a',ds⟩ w')→(opA c 2).wpIn Fence.wide n Pg ⟨a,ds⟩ w next Q)
  (h:VF J Γ0 w0 b s st0 a w):c.wpIn Fence.wide n Pg (fun e' a' w' => e' = .normal∧a'.defers = ds∧VF J Γ0 w0 r.1 r.2 st1 a'.tmps w') ⟨a,ds⟩ w:=by
 have key:(Code.region (idA c) (opsA c) false).wpIn Fence.wide n Pg (fun e' a' w' => e' = .normal∧a'.defers = ds∧VF J Γ0 w0 r.1 r.2 st1 a'.tmps w') ⟨a,ds⟩ w:=by
  refine wpIn_region ?_
  rw [hR.rg]
  obtain ⟨Γ,hJ,hle,hS⟩:=h.again hY hD
  refine qrF (A:=[]) (K:=fun st => FG st stA) (fun Γ' bs' ow' a' w' st hS' hK => ?_) _ _ Γ _ _ a w st0 hR.p1 (qvn hR.p2) hS hpre
  obtain ⟨Γ2,bs2,ow2,hS2⟩:=FG.sr hS' hK
  refine qtt hR.o hR.g (hcall a' w' _ _ ⟨Γ2,hY.side _ _ _ _ hJ _ _ _ _ _ _ hS2,hle.trans hS2.step.le,_,_,_,hS2⟩ fun a3 w3 h3 => ?_)
  obtain ⟨Γ3,hJ3,hle3,hS3⟩:=h3.again hY hDB
  refine qrF (A:=[]) (K:=fun st => FG st st1) (fun Γ' bs' ow' a' w' st hS' hK => ?_) _ _ Γ3 _ _ a3 w3 stB hR.q1 (qvn hR.q2) hS3 hsuf
  obtain ⟨Γ4,bs4,ow4,hS4⟩:=FG.sr hS' hK
  exact ⟨rfl,rfl,Γ4,hY.side _ _ _ _ hJ3 _ _ _ _ _ _ hS4,hle3.trans hS4.step.le,_,_,_,hS4⟩
 rw [← hR.eq] at key
 exact key
theorem VF.ev (h:VF J Γ0 w0 b s st0 a w) {t:Nat} {x:Bool} (ht:st0.tmps.getD t .undef = .bool x):(Act.mk a ds).eval (.tmp t) = .bool x:=by
 obtain ⟨Γ,hJ,hle,E,bs,ow,hS⟩:=h
 have h1:=hS.opv ds (.tmp t)
 have e1:opv E.GE st0.tmps (.tmp t) = .bool x:=ht
 rw [e1] at h1
 generalize (Act.mk a ds).eval (.tmp t) = v at h1
 cases h1
 rfl
theorem VF.put (hY:Yd Pg GE l qaa step J) (hD:Dd stA kA) {Γ Γ':qaP} {w':World} {E:Ent} {bs:qbj} {ow:Nat→Option Loc} (hS:SR Pg E Γ bs ow w a stA) (hle:Γ0.Le w0 Γ w) (hle':Γ.Le w Γ' w') {r:Bool×S} (hJ':J r.1 r.2 Γ' w') {d:Nat} (hB:stB = ⟨stA.tmps.set d (.bool r.1),List.replicate kA .dead,[]⟩) :
  VF J Γ0 w0 r.1 r.2 stB (a.setIfInBounds d (.bool r.1)) w':=by
 have hS':=(hS.again hD.c (hY.base _ _ _ _ hJ') hle' kA).set (d:=d) (p := .bool r.1) (v := .bool r.1) (.bool _)
 exact ⟨Γ',hJ',hle.trans hle',_,_,_,hB ▸ hS'⟩
theorem VF.yieldc (hY:Yd Pg GE l qaa step J) (hD:Dd stA kA) {p:tPred} {r:Bool×S} (hr:step s p = some r) {o:Oper} {f x d:Nat} {tys:Array TypeId} (h7:stA.tmps.getD f .undef = yv l) (h8:stA.tmps.getD x .undef = .agg (qaa p))
  (ho:o.op = .call { callee := .value (.tmp f),args := #[.tmp x],argTypes:=tys }) (hd:o.dst = some d) (hB:stB = ⟨stA.tmps.set d (.bool r.1),List.replicate kA .dead,[]⟩)
  {next:Act→World→Prop} {Q:Exit→Act→World→Prop} (h:VF J Γ0 w0 true s stA a w) (hn:∀ a' w',VF J Γ0 w0 r.1 r.2 stB a' w'→next ⟨a',ds⟩ w'):o.wpIn Fence.wide n Pg ⟨a,ds⟩ w next Q:=by
 obtain ⟨Γ,hJ,hle,hS⟩:=h.again hY hD
 have h1:=hS.opv ds (.tmp f)
 have h2:=hS.opv ds (.tmp x)
 have e1:opv (asd GE Γ w).GE stA.tmps (.tmp f) = yv l:=h7
 have e2:opv (asd GE Γ w).GE stA.tmps (.tmp x) = .agg (qaa p):=h8
 rw [e1] at h1; rw [e2] at h2
 have hev:(Act.mk a ds).eval (.tmp f) = .func (.yield l) #[] #[]:=by
  generalize (Act.mk a ds).eval (.tmp f) = v at h1
  cases h1; rfl
 refine qC2 ho hev (R:=fun e w' => ∃ Γ',e = .returned (.bool r.1)∧Γ.Le w Γ' w'∧J r.1 r.2 Γ' w') ?_ ?_
 ·have:=hY.yield s Γ w p _ (n - 1) r hJ (h2.clo (by simp only [PVal.cl]; exact qab p)) hr
  simpa using this
 ·rintro e w' ⟨Γ',rfl,hle',hJ'⟩
  refine ⟨_,rfl,?_⟩
  rw [hd]
  exact hn _ _ (VF.put hY hD hS hle hle' hJ' hB)
def VOK (step:S→tPred→Option (Bool×S)) (J:Bool→S→qaP→World→Prop) (l:Nat) (p:tPred):Prop := ∀ s r Γ w v n,visP step p s = some r→J true s Γ w→VR Γ [] w (.agg (qaa p)) v →
 CallsIn Fence.wide n Pg fV #[v,.func (.yield l) #[] #[]] w fun e w' => ∃ Γ',e = .returned (.bool r.1)∧Γ.Le w Γ' w'∧J r.1 r.2 Γ' w'
theorem VF.visitc (hY:Yd Pg GE l qaa step J) (hD:Dd stA kA) {p:tPred} (hp:VOK step J l p) {r:Bool×S} (hr:visP step p s = some r) {o:Oper} {x y d:Nat} {tys:Array TypeId} (h7:stA.tmps.getD y .undef = yv l) (h8:stA.tmps.getD x .undef = .agg (qaa p))
  (ho:o.op = .call { callee := .value (.func fV),args := #[.tmp x,.tmp y],argTypes:=tys }) (hd:o.dst = some d) (hB:stB = ⟨stA.tmps.set d (.bool r.1),List.replicate kA .dead,[]⟩)
  {next:Act→World→Prop} {Q:Exit→Act→World→Prop} (h:VF J Γ0 w0 true s stA a w) (hn:∀ a' w',VF J Γ0 w0 r.1 r.2 stB a' w'→next ⟨a',ds⟩ w'):o.wpIn Fence.wide n Pg ⟨a,ds⟩ w next Q:=by
 obtain ⟨Γ,hJ,hle,hS⟩:=h.again hY hD
 have h1:=hS.opv ds (.tmp y)
 have h2:=hS.opv ds (.tmp x)
 have e1:opv (asd GE Γ w).GE stA.tmps (.tmp y) = yv l:=h7
 have e2:opv (asd GE Γ w).GE stA.tmps (.tmp x) = .agg (qaa p):=h8
 rw [e1] at h1; rw [e2] at h2
 have hev:(Act.mk a ds).eval (.tmp y) = .func (.yield l) #[] #[]:=by
  generalize (Act.mk a ds).eval (.tmp y) = v at h1
  cases h1; rfl
 refine qEF ho (g:=fV) (fs := #[]) (cs := #[]) rfl Tryz.call150 (R:=fun e w' => ∃ Γ',e = .returned (.bool r.1)∧Γ.Le w Γ' w'∧J r.1 r.2 Γ' w') ?_ ?_
 ·have:=hp s r Γ w _ (n - 1) hr hJ (h2.clo (by simp only [PVal.cl]; exact qab p))
  simpa [hev] using this
 ·rintro e w' ⟨Γ',rfl,hle',hJ'⟩
  refine ⟨_,rfl,?_⟩
  rw [hd]
  exact hn _ _ (VF.put hY hD hS hle hle' hJ' hB)
theorem VF.fin {x:Bool} {H:List PBox} (h:VF J Γ0 w0 b s (vE H x) a w):(results Tryz.f150 a).run Pg w = .ok (.bool x) w:=by
 obtain ⟨Γ,hJ,hle,E,bs,ow,hS⟩:=h
 obtain ⟨v,h1,h2,_⟩:=qmD hS (fn:=Tryz.f150) (r := .bool x) (by kernel_rfl)
 cases h2
 exact h1
theorem dd1 {N:Nat} {L:List (Nat×PVal)} (h:clTm 0 L) (k:Nat) {H:List PBox} (hH:H = List.replicate k .dead):Dd (stt N L H []) k:=⟨qbP h,hH,rfl⟩
theorem clsl (ks:List tPred):(sl qaa ks).cl 0:=qad qab ks
theorem qH5 (l:Nat) (ks:List tPred) (i:Int):Dd (vS3 l ks i) 1:=dd1 (by exact aI trivial <| aI (clsl ks) <| aI trivial <| aI trivial trivial) 1 rfl
theorem qIp (l:Nat) (ks:List tPred) (i:Int):Dd (vS4 l ks i) 1:=dd1 (by exact aI trivial <| aI (clsl ks) <| aI trivial <| aI trivial <| aI trivial trivial) 1 rfl
theorem qIl (l:Nat) (ks:List tPred) (i:Int) (b:Bool):Dd (vS7 l ks i b) 2:=dd1 (by exact aI trivial <| aI (clsl ks) <| aI trivial <| aI trivial <| aI trivial trivial) 2 rfl
theorem qDj (hY:Yd Pg GE l qaa step J) (p:tPred) (hk:∀ x ∈ p.Kids,VOK step J l x):VOK step J l p:=by
 intro s r Γ w v n hv hJ hvr
 refine callsIn_of_wp Tryz.func150 (c:=bV) rfl trivial ?_
 have h0:VF J Γ w true s (stt 23 [(0,.agg (qaa p)),(1,yv l)] [] []) (#[v,.func (.yield l) #[] #[]] ++ Array.replicate 21 undef) w:=by
  refine ⟨Γ,hJ,.refl _ _,_,_,_,(hY.base _ _ _ _ hJ).fresh 0 (tmps:=[.agg (qaa p),yv l] ++ List.replicate 21 .undef) (by simp) fun t q u hq hu => ?_⟩
  by_cases ht:t < 2
  ·rw [List.getElem?_append_left (by simpa using ht)] at hq
   rw [Array.getElem?_append_left (by simpa using ht)] at hu
   match t,ht with
   | 0,_ => simp at hq hu; subst hq; subst hu; exact hvr
   | 1,_ => simp at hq hu; subst hq; subst hu; exact .val _
  ·rw [List.getElem?_append_right (by simpa using ht),List.getElem?_replicate] at hq
   split at hq <;> cases hq
   exact .undef u
 show bV.wpIn Fence.wide n Pg _ ⟨_,[]⟩ w
 rw [qHI] at hv
 obtain ⟨q,hq,hv⟩:=bnd hv
 have hb:Pg.funcs.size = Pg.funcs.size:=rfl
 have hret:∀ {b:Bool} {s:S} {x:Bool} {H:List PBox} {a':Act} {w':World},a'.defers = []→VF J Γ w b s (vE H x) a'.tmps w'→b = r.1→s = r.2→x = r.1 →
   bodyPost Pg Tryz.f150 (fun e w' => ∃ Γ',e = .returned (.bool r.1)∧Γ.Le w Γ' w'∧J r.1 r.2 Γ' w') .ret a' w':=by
  rintro b s x H a' w' hd h rfl rfl rfl
  refine ⟨hd,.bool r.1,h.fin,?_⟩
  obtain ⟨Γ',hJ',hle,_⟩:=h
  exact ⟨Γ',rfl,hle,hJ'⟩
 rw [qIH]
 refine wpIn_seq (wpIn_mono (VF.piece hY (v_0 p l) (k:=0) (dd1 (by exact aI (qab p) <| aI trivial trivial) 0 rfl) h0) ?_)
 rintro e ⟨a1,ds1⟩ w1 ⟨rfl,rfl,h1⟩
 have d2:(PVal.eptr (qaa p)).cl 0:=by simp only [PVal.cl]; exact qab p
 have d3:(PVal.agg (qaa p)).cl 0:=by simp only [PVal.cl]; exact qab p
 refine wpIn_seq (wpIn_seq (wpIn_mono (VF.reg hY r4_1 (k:=1) (kB:=1) (r:=q) (stB:=stt 23 [(1,yv l),(2,.eptr (qaa p)),(7,yv l),(8,.agg (qaa p)),(9,.bool q.1)] [.dead] []) (dd1 (by exact aI trivial <| aI d2 trivial) 1 rfl) (dd1 (by exact aI trivial <| aI d2 <| aI trivial <| aI d3 <| aI trivial trivial) 1 rfl) (v_1 p l) (v_1b p l q.1)
  (fun a w next Q h hn => VF.yieldc hY (kA:=1) (dd1 (by exact aI trivial <| aI d2 <| aI trivial <| aI d3 trivial) 1 rfl) hq (f:=7) (x:=8) (d:=9) rfl rfl qH7 qIY rfl h hn) h1) ?_))
 rintro e ⟨a2,ds2⟩ w2 ⟨rfl,rfl,h2⟩
 refine wpIn_cond (h2.ev (t:=10) (x := !q.1) rfl) ?_
 have dS2:∀ b:Bool,Dd (stt 23 [(1,yv l),(2,.eptr (qaa p)),(10,.bool b)] [.dead] []) 1:=fun b => dd1 (by exact aI trivial <| aI d2 <| aI trivial trivial) 1 rfl
 obtain ⟨q1,q2⟩:=q
 cases q1 with
 | false =>
  cases hv
  refine wpIn_mono (VF.piece hY (v_2 p l) (dS2 true) h2) ?_
  rintro e ⟨a3,ds3⟩ w3 ⟨rfl,rfl,h3⟩
  exact hret rfl h3 rfl rfl rfl
 | true =>
  simp only at hv
  split at hv
  case isFalse => cases hv
  rename_i hlen
  refine wpIn_skip ?_
  refine wpIn_seq (wpIn_seq (wpIn_mono (VF.piece hY (v_3 p l) (dS2 false) h2) ?_))
  rintro e ⟨a3,ds3⟩ w3 ⟨rfl,rfl,h3⟩
  refine wpIn_block (wpIn_loop_ghost (fun k a w' => a.defers = []∧∃ (i:Nat) (s':S),k = p.Kids.length - i∧i ≤ p.Kids.length∧visL step (p.Kids.drop i) s' = some r∧VF J Γ w true s' (vS3 l p.Kids (i:Int)) a.tmps w') (p.Kids.length)
   ⟨rfl,0,q2,rfl,Nat.zero_le _,hv,h3⟩ ?_)
  rintro k ⟨a4,ds4⟩ w4 ⟨hd4,i,s',rfl,hi,hvl,h4⟩
  simp only at hd4; subst hd4
  rw [qIK]
  refine wpIn_seq (wpIn_mono (VF.piece hY (v_4 l p.Kids i) (qH5 _ _ _) h4) ?_)
  rintro e ⟨a5,ds5⟩ w5 ⟨rfl,rfl,h5⟩
  refine wpIn_seq (wpIn_cond (h5.ev (t:=15) (x:=decide ((i:Int) < (p.Kids.length:Int))) rfl) ?_)
  by_cases hlt:i < p.Kids.length
  ·rw [decide_eq_true (by omega)]
   refine wpIn_skip ?_
   have hdrop:p.Kids.drop i = p.Kids[i] :: p.Kids.drop (i + 1):=List.drop_eq_getElem_cons hlt
   rw [hdrop,visL] at hvl
   obtain ⟨q',hq',hvl⟩:=bnd hvl
   have hx:idx p.Kids (i:Int) = some p.Kids[i]:=qaS _ _ hlt
   generalize hxx:p.Kids[i] = x at *
   have hxm:x ∈ p.Kids:=hxx ▸ List.getElem_mem hlt
   have e2:(PVal.eptr (qaa x)).cl 0:=by simp only [PVal.cl]; exact qab x
   have e3:(PVal.agg (qaa x)).cl 0:=by simp only [PVal.cl]; exact qab x
   refine wpIn_seq (wpIn_block (wpIn_seq (wpIn_mono (VF.piece hY (v_5 l p.Kids i x hx) (qIp _ _ _) h5) ?_)))
   rintro e ⟨a6,ds6⟩ w6 ⟨rfl,rfl,h6⟩
   refine wpIn_seq (wpIn_mono (VF.reg hY r4_6 (k:=2) (kB:=2) (r:=q') (stB:=vS6 l p.Kids i x q'.1) (dd1 (by exact aI trivial <| aI e2 <| aI (clsl _) <| aI trivial <| aI trivial trivial) 2 rfl) (dd1 (by exact aI trivial <| aI (clsl _) <| aI trivial <| aI trivial <| aI e3 <| aI trivial <| aI trivial trivial) 2 rfl) (v_6 l p.Kids i x) (v_6b l p.Kids i x q'.1)
    (fun a w next Q h hn => VF.visitc hY (kA:=2) (dd1 (by exact aI trivial <| aI (clsl _) <| aI trivial <| aI trivial <| aI e3 <| aI trivial trivial) 2 rfl) (hk x hxm) hq' (y:=19) (x:=18) (d:=20) rfl rfl qIz qIU rfl h hn) h6) ?_)
   rintro e ⟨a7,ds7⟩ w7 ⟨rfl,rfl,h7⟩
   refine wpIn_cond (h7.ev (t:=21) (x := !q'.1) rfl) ?_
   obtain ⟨q1,q2⟩:=q'
   cases q1 with
   | false =>
    cases hvl
    refine wpIn_mono (VF.piece hY (v_7 l p.Kids i) (qIl _ _ _ _) h7) ?_
    rintro e ⟨a8,ds8⟩ w8 ⟨rfl,rfl,h8⟩
    exact hret rfl h8 rfl rfl rfl
   | true =>
    refine wpIn_skip ?_
    refine wpIn_mono (VF.piece hY (v_8 l p.Kids i) (qIl _ _ _ _) h7) ?_
    rintro e ⟨a8,ds8⟩ w8 ⟨rfl,rfl,h8⟩
    refine ⟨p.Kids.length - (i + 1),by omega,rfl,i + 1,q2,rfl,hlt,hvl,?_⟩
    have e:w64 ((i:Int) + 1) = ((i + 1:Nat):Int):=by rw [qeY (by omega) (by omega)]; omega
    rw [e] at h8
    exact VF.redo (st0:=⟨(vS3 l p.Kids ((i + 1:Nat):Int)).tmps,[.dead,.dead],[]⟩) hY (k:=2) ⟨(qH5 l p.Kids _).c,rfl,rfl⟩ h8 1
  ·rw [decide_eq_false (by omega)]
   refine wpIn_exit ?_
   have hi':i = p.Kids.length:=by omega
   rw [List.drop_eq_nil_of_le (by omega),visL] at hvl
   cases hvl
   refine wpIn_mono (VF.piece hY (v_9 l p.Kids i) (qIp _ _ _) h5) ?_
   rintro e ⟨a6,ds6⟩ w6 ⟨rfl,rfl,h6⟩
   exact hret rfl h6 rfl rfl rfl
mutual
theorem qB2 (hY:Yd Pg GE l qaa step J):∀ p:tPred,VOK step J l p
 | ⟨o,n,k,ks⟩ => qDj hY ⟨o,n,k,ks⟩ (qAD hY ks)
theorem qAD (hY:Yd Pg GE l qaa step J):∀ ks:List tPred,∀ x ∈ ks,VOK step J l x
 | [],x,hx => by simp at hx
 | y :: ks,x,hx => by
  rcases List.mem_cons.1 hx with h | h
  ·exact h ▸ qB2 hY y
  ·exact qAD hY ks x h
end
end
end Go.Proofs.YtgldgpdhblndkaaGreatDoor
