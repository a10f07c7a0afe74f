/- WHAT IS PROVED: parts of the proof, put together by a program (G12 Na PlB). Conditions: none. -/
import Derived.Test.YtgldgpdhblndkaaGreatDoorPkE39
import Derived.Test.YtgldgpdhblndkaaGreatDoorPkE27
noncomputable section
namespace Go.Proofs.YtgldgpdhblndkaaGreatDoor
open Go
set_option linter.unusedVariables false
set_option maxRecDepth 100000
noncomputable def b4:Code:=Tryz.f4.body.getD .skip
def A4:List Nat:=[]
def qny (abs:waE) (holes:waD) (t:tType):PSt:=stt 48 [(1,sl qap abs),(2,sl qai holes),(3,.eptr (qac t))] [.dead] []
def qdq (abs:waE) (holes:waD) (t:tType) (o:Bool):PSt:=stt 48 [(1,sl qap abs),(2,sl qai holes),(3,.eptr (qac t)),(21,.bool o)] [.dead] []
def qfW (abs:waE) (holes:waD) (t:tType):Option ((Bool)) :=
 (qAY ([t]:List tType)).bind fun r1 =>
 if (!r1) = true then
  some true
 else
  (qsB t).bind fun r4 =>
  if (!r4) = true then
   some true
  else
   (qrD abs holes).bind fun r7 =>
   some (!r7)
theorem qmk (abs:waE) (holes:waD) (t:tType) {x:(Bool)} (h:qfW abs holes t = some x) :
  Sat Pg GE 0 (cA b4 12) (EX .normal (qdq abs holes t x)) (qny abs holes t):=by
 obtain ⟨r1,br1,h⟩:=bnd h
 have p3:=fun {sc F} (r:PS sc F) => sv (qaW t) <| sv (sT27.mk' (v:=qha) qdn ([t]:List tType) 1 (by kernel_rfl)) <| sca (qCL br1) <| r
 rcases ifs h with ⟨c2,h⟩ | ⟨c2,h⟩
 ·obtain rfl:=lf h
  have z:=p3 <| sg 5 c2 <| eF .normal (qdq abs holes t true)
  exact pcZ A4 z (by kernel_rfl)
 ·obtain ⟨r4,br4,h⟩:=bnd h
  have p6:=fun {sc F} (r:PS sc F) => p3 <| sg 5 c2 <| sv (qaW t) <| sca (qxU br4) <| r
  rcases ifs h with ⟨c5,h⟩ | ⟨c5,h⟩
  ·obtain rfl:=lf h
   have z:=p6 <| sg 10 c5 <| eF .normal (qdq abs holes t true)
   exact pcZ A4 z (by kernel_rfl)
  ·obtain ⟨r7,br7,h⟩:=bnd h
   obtain rfl:=lf h
   have z:=p6 <| sg 10 c5 <| sca (qzu br7) <| eF .normal (qdq abs holes t (!r7))
   exact pcZ A4 z (by kernel_rfl)
def qiz (t:tType) (abs:waE) (holes:waD):Option (Bool) :=
 (qfW abs holes t).bind fun o8 =>
 if o8 = true then
  (qsa).bind fun r11 =>
  some r11
 else
  (qhu t abs holes).bind fun r12 =>
  (quU t abs holes).bind fun r13 =>
  (qm5 r12 r13).bind fun r14 =>
  if r14 = true then
   (qhS t.Pred abs holes).bind fun r17 =>
   (qmf t.Pred abs holes).bind fun r18 =>
   (qiL r17 r18).bind fun r19 =>
   if r19 = true then
    (qsa).bind fun r22 =>
    some r22
   else
    some false
  else
   some false
theorem qpp {t:tType} {abs:waE} {holes:waD} {r:Bool} (h:qiz t abs holes = some r):CC Pg GE 4 [.agg (qac t),sl qap abs,sl qai holes] (.bool r) []:=by
 obtain ⟨o8,bo8,h⟩:=bnd h
 have p10:=fun {sc F} (r:PS sc F) => se (qbH t) <| spa 1 <| spc (qmk abs holes t bo8) <| r
 rcases ifs h with ⟨c9,h⟩ | ⟨c9,h⟩
 ·obtain ⟨r11,br11,h⟩:=bnd h
  obtain rfl:=lf h
  have z:=p10 <| sg 0 c9 <| sca (qt4 br11) <| en (aI (rP (.bool r11)) <| trivial)
  exact cvZ A4 Tryz.call4 Tryz.func4 (c:=b4) rfl (aI (qaf t) (aI (qad qaO abs) (aI (qad qaD holes) trivial))) z (by kernel_rfl)
 ·obtain ⟨r12,br12,h⟩:=bnd h
  obtain ⟨r13,br13,h⟩:=bnd h
  obtain ⟨r14,br14,h⟩:=bnd h
  have p16:=fun {sc F} (r:PS sc F) => p10 <| sg 0 c9 <| sdr [0,0,0,7,0,0,0,127,255,511,1023,2047,1023,1023,16383,1023,33791,1023,1023,524287,1048575,2097151,4194303,8388607,16777215,33554431] <| sv (qaW t) <| sca (qnp br12) <| sv (qaW t) <| sca (qBu br13) <| sca (ql7 br14) <| r
  rcases ifs h with ⟨c15,h⟩ | ⟨c15,h⟩
  ·obtain ⟨r17,br17,h⟩:=bnd h
   obtain ⟨r18,br18,h⟩:=bnd h
   obtain ⟨r19,br19,h⟩:=bnd h
   have p21:=fun {sc F} (r:PS sc F) => p16 <| sg 10 c15 <| sv (qbV t) <| sv (qbY t) <| sca (qjs br17) <| sv (qbV t) <| sv (qbY t) <| sca (qqm br18) <| sca (qie br19) <| r
   rcases ifs h with ⟨c20,h⟩ | ⟨c20,h⟩
   ·obtain ⟨r22,br22,h⟩:=bnd h
    obtain rfl:=lf h
    have z:=p21 <| sg 23 c20 <| sca (qt4 br22) <| en (aI (rP (.bool r22)) <| trivial)
    exact cvZ A4 Tryz.call4 Tryz.func4 (c:=b4) rfl (aI (qaf t) (aI (qad qaO abs) (aI (qad qaD holes) trivial))) z (by kernel_rfl)
   ·obtain rfl:=lf h
    have z:=p21 <| sg 23 c20 <| en (aI (rP (.bool false)) <| trivial)
    exact cvZ A4 Tryz.call4 Tryz.func4 (c:=b4) rfl (aI (qaf t) (aI (qad qaO abs) (aI (qad qaD holes) trivial))) z (by kernel_rfl)
  ·obtain rfl:=lf h
   have z:=p16 <| sg 10 c15 <| en (aI (rP (.bool false)) <| trivial)
   exact cvZ A4 Tryz.call4 Tryz.func4 (c:=b4) rfl (aI (qaf t) (aI (qad qaO abs) (aI (qad qaD holes) trivial))) z (by kernel_rfl)
theorem qBW {α β X:Type} (g:α→β) (e:List β→X):∀ (l:List α) (i:Nat) (s:List β),runL (fun _ x (s:List β) => (Sum.inl (s ++ [g x]):List β⊕X)) e l i s = e (s ++ l.map g)
 | [],i,s => by simp [runL]
 | x :: l,i,s => by
  unfold runL
  simp only
  rw [qBW g e l (i + 1) (s ++ [g x])]
  simp
theorem qCJ {α β τ X:Type} (l:List α) (hl:l.length < 9223372036854775808) (mk:Int→List β→τ) (body:τ→Option (τ⊕X)) (g:α→β) (e:List β→X)
  (hin:∀ (i:Nat) (h:i < l.length) s,s.length = i→body (mk i s) = some (.inl (mk (w64 ((i:Int) + 1)) (s ++ [g l[i]])))) (hend:∀ s,body (mk l.length s) = some (.inr (e s))):loop body (mk 0 []) = some (e (l.map g)):=by
 have:=qiF l hl mk body (fun i s => s.length = i) (fun _ x s => .inl (s ++ [g x])) e (fun i h s hs => ⟨hin i h s hs,fun s' hs' => by cases hs'; simp [hs]⟩) (fun s _ => hend s) 0 [] (Nat.zero_le _) rfl
 rw [qBW] at this
 exact this
set_option linter.unusedSimpArgs false
abbrev LimL (a:List Str):Prop:=a.length < 9223372036854775808
def qFJ (l:List Str) (s:Str):Int:=match l.findIdx? (fun x => x == s) with | some j => (j:Int) | none => -1
theorem qmt (l:List Str) (s:Str) (hl:l.length < 9223372036854775808):qep l s = some (qFJ l s):=by
 unfold qep qml
 have:=qrG l hl (fun zz => qcz l s l.length zz) (fun x => x == s) (fun j => Sum.inl (j:Int)) (Sum.inr ()) (fun i h => by
  simp only [qcz]
  rw [if_pos (by simp; omega),qaS _ i h]
  simp only [Option.bind_some]
  split <;> simp_all) (by simp only [qcz]; rw [if_neg (by simp)])
 rw [this]
 unfold qFJ
 cases l.findIdx? (fun x => x == s) <;> rfl
theorem qkK (l:List Str) (s:Str):decide (qFJ l s ≥ 0) = l.any fun k => k == s:=by
 unfold qFJ
 cases h:l.findIdx? (fun x => x == s) with
 | none =>
  rw [List.findIdx?_eq_none_iff] at h
  symm
  simp only [List.any_eq_false]
  rw [show decide ((-1:Int) ≥ 0) = false from rfl]
  simp only [List.any_eq_false,Bool.not_eq_true]
  exact h
 | some j =>
  have h2:l.any (fun x => x == s) = true:=by
   have:=List.findIdx?_isSome (xs:=l) (p:=fun x => x == s)
   rw [h] at this
   exact this.symm
  rw [h2]
  simp
theorem qAj {α:Type} (k:Str) (v:α) (j:Str):∀ (m:List (Str×α)),mget (mput m k v) j = if (j == k) = true then some v else mget m j
 | [] => by
  simp only [mput,mget,List.find?_cons,List.find?_nil]
  cases (j == k) <;> rfl
 | e :: r => by
  have ih:=qAj k v j r
  unfold mput
  by_cases h:(k == e.1) = true
  ·have h':k = e.1:=by simpa using h
   rw [if_pos h]
   unfold mget
   simp only [List.find?_cons]
   rw [← h']
   cases hj:(j == k) <;> simp
  ·rw [if_neg h]
   unfold mget at ih ⊢
   simp only [List.find?_cons]
   cases hj:(j == e.1)
   ·simpa using ih
   ·have:¬ (j == k) = true:=fun hk => h (by
      have h1:j = e.1:=by simpa using hj
      have h2:j = k:=by simpa using hk
      simp [← h1,← h2])
    simp [this]
abbrev mhas (m:List (Str×Bool)) (k:Str):Bool:=(mget m k).getD false
theorem qGE (m:List (Str×Bool)) (k j:Str):mhas (mput m k true) j = (j == k || mhas m j):=by
 unfold mhas
 rw [qAj]
 cases (j == k) <;> rfl
def qD2 (l:Str):Nat:=l.foldl (fun a c => 10 * a + (c.toNat - 48)) 0
theorem qxt (u:Nat):qD2 (Lib.decDigits u) = u:=by
 induction u using Nat.strongRecOn with
 | _ u ih =>
  rw [Lib.decDigits]
  by_cases h:u < 10
  ·rw [dif_pos h]
   unfold qD2
   simp
   omega
  ·rw [dif_neg h]
   have:=ih (u / 10) (by omega)
   unfold qD2 at this ⊢
   rw [List.foldl_append,this]
   simp
   omega
theorem qHo {u v:Nat} (h:Lib.decDigits u = Lib.decDigits v):u = v:=by rw [← qxt u,← qxt v,h]
theorem qBd (u:Nat):(Lib.decDigits u).length ≤ u + 1:=by
 induction u using Nat.strongRecOn with
 | _ u ih =>
  rw [Lib.decDigits]
  by_cases h:u < 10
  ·rw [dif_pos h]; simp
  ·rw [dif_neg h]
   have:=ih (u / 10) (by omega)
   simp
   omega
theorem qAe:∀ (k n:Nat) (acc:Str),n ≤ k→n ≤ 1000000000→acc.length ≤ 1000000000 - n→qiv acc n = some (if n = 0 then acc else Lib.decDigits n ++ acc)
 | k,0,acc,_,_,_ => by
  unfold qiv
  exact qez rfl
 | 0,n + 1,_,h,_,_ => absurd h (by omega)
 | k + 1,n + 1,acc,hk,hn,ha => by
  have hb:qg9 acc ((n + 1:Nat):Int) = some (.inl (UInt8.ofNat (48 + (n + 1) % 10) :: acc,(((n + 1) / 10:Nat):Int))):=by
   simp only [qg9]
   have h1:(((n + 1:Nat):Int) != 0) = true:=by simp; omega
   have h2:re ((n + 1:Nat):Int) 10 = some (((n + 1) % 10:Nat):Int):=by
    simp only [re]
    have e:((n + 1:Nat):Int) % 10 = (((n + 1) % 10:Nat):Int):=by omega
    rw [if_neg (by omega),Int.tmod_eq_emod_of_nonneg (by omega),e]
   have h3:qmP (((n + 1) % 10:Nat):Int) = some (((n + 1) % 10:Nat):Int):=by
    simp only [qmP]
    rw [if_neg (by simp; omega)]
   have h4:IntKind.u8.wrap (w64 (48 + (((n + 1) % 10:Nat):Int))) = ((48 + (n + 1) % 10:Nat):Int):=by
    rw [qeY (by omega) (by omega)]
    have h5:(48:Int) + (((n + 1) % 10:Nat):Int) = ((48 + (n + 1) % 10:Nat):Int):=by omega
    rw [h5]
    generalize hq:48 + (n + 1) % 10 = q
    have:q < 58:=by omega
    show ((q:Int) % 256) = q
    omega
   have h6:qmN [((48 + (n + 1) % 10:Nat):Int)] = some [UInt8.ofNat (48 + (n + 1) % 10)]:=by
    simp only [qmN]
    rw [if_pos (by omega)]
    rfl
   have h7:qu .i64 ((n + 1:Nat):Int) 10 = some (((n + 1) / 10:Nat):Int):=by
    simp only [qu]
    rw [if_neg (by omega),Int.tdiv_eq_ediv_of_nonneg (by omega)]
    have e:((n + 1:Nat):Int) / 10 = (((n + 1) / 10:Nat):Int):=by omega
    rw [e]
    exact congrArg some (qeY (by omega) (by omega))
   rw [h1]
   simp only [if_true,h2,Option.bind_some,h3,h4,h6]
   rw [qzk (by simp; omega),h7]
   rfl
  unfold qiv
  refine (qhl (body:=fun zz:Str×Int => qg9 zz.1 zz.2) (s:=(acc,((n + 1:Nat):Int))) (s':=(UInt8.ofNat (48 + (n + 1) % 10) :: acc,(((n + 1) / 10:Nat):Int))) hb).trans ?_
  have ih:=qAe k ((n + 1) / 10) (UInt8.ofNat (48 + (n + 1) % 10) :: acc) (by omega) (by omega) (by simp; omega)
  unfold qiv at ih
  rw [ih,if_neg (by omega:¬ n + 1 = 0)]
  conv => rhs; rw [Lib.decDigits]
  by_cases h:n + 1 < 10
  ·rw [dif_pos h,if_pos (by omega),Nat.mod_eq_of_lt h]
   rfl
  ·rw [dif_neg h,if_neg (by omega)]
   simp
theorem qvF (n:Nat) (h0:1 ≤ n) (h:n ≤ 1000000000):quW n = some (Lib.decDigits n):=by
 unfold quW
 have h1:((n:Int) == 0) = false:=by simp; omega
 rw [h1,qAe n n [] (Nat.le_refl _) h (by simp)]
 have h2:decide ((n:Int) < 0) = false:=by simp
 simp only [Bool.false_eq_true,if_false,Option.bind_some,h2]
 rw [if_neg (by omega)]
 simp
theorem qCw (n:Nat) (h:n ≤ 1000000000):qGi n = some (Lib.decDigits n):=by
 unfold qGi Lib.itoa
 rw [if_pos (by simp; omega),if_neg (by omega)]
 rfl
theorem qGX:∀ (used L:List Str),L.Nodup→used.length < L.length→∃ x ∈ L,x ∉ used
 | [],L,_,h => by
  cases L with
  | nil => simp at h
  | cons x L => exact ⟨x,by simp,by simp⟩
 | u :: us,L,hn,h => by
  obtain ⟨x,hx,hu⟩:=qGX us (L.erase u) (hn.erase u) (by
   have:=List.length_erase (a:=u) (l:=L)
   rw [this]
   simp at h
   split <;> omega)
  rw [hn.mem_erase_iff] at hx
  exact ⟨x,hx.2,by simp [hx.1,hu]⟩
theorem qFT (used:List Str) (base:Str):∃ n,1 ≤ n∧n ≤ used.length + 1∧base ++ Lib.decDigits n ∉ used:=by
 obtain ⟨x,hx,hu⟩:=qGX used ((List.range (used.length + 1)).map fun i => base ++ Lib.decDigits (i + 1)) (by
  unfold List.Nodup
  rw [List.pairwise_map]
  refine List.Pairwise.imp ?_ (List.nodup_range (n:=used.length + 1))
  intro a b hab e
  have:=qHo (List.append_cancel_left e)
  omega) (by simp)
 simp only [List.mem_map,List.mem_range] at hx
 obtain ⟨i,hi,rfl⟩:=hx
 exact ⟨i + 1,by omega,by omega,hu⟩
def qkk (used:List Str) (base:Str):Nat→Nat→Str
 | 0,_ => []
 | k + 1,n => if used.contains (base ++ Lib.decDigits n) = true then qkk used base k (n + 1) else base ++ Lib.decDigits n
def qdG (used:List Str) (base:Str):Str:=if used.contains base = true then qkk used base 100000001 1 else base
theorem qsL (used:List Str) (hl:LimL used):∃ m,qiP used used.length 0 [] = some m∧∀ k,mhas m k = used.contains k:=by
 unfold qiP
 have:=qiF used hl (fun i (m:List (Str×Bool)) => (i,m)) (fun zz => qes used used.length zz.1 zz.2) (fun _ _ => True) (fun _ x m => .inl (mput m x true)) (fun m => m) (fun i hi t _ => ⟨by
   simp only [qes]
   rw [if_pos (by simp; omega),qaS _ i hi]
   rfl,fun _ _ => trivial⟩) (fun _ _ => by simp only [qes]; rw [if_neg (by simp)]) 0 [] (Nat.zero_le _) trivial
 simp only [Int.ofNat_zero,List.drop_zero] at this
 rw [this]
 refine ⟨_,rfl,?_⟩
 have key:∀ (l:List Str) (i:Nat) (m:List (Str×Bool)) k,mhas (runL (fun _ x (m:List (Str×Bool)) => (Sum.inl (mput m x true):List (Str×Bool)⊕List (Str×Bool))) (fun m => m) l i m) k = (l.contains k || mhas m k):=by
  intro l
  induction l with
  | nil => intro i m k; simp [runL]
  | cons x l ih =>
   intro i m k
   unfold runL
   simp only [ih,qGE,List.contains_cons]
   cases (k == x) <;> cases l.contains k <;> simp
 intro k
 rw [key]
 simp [mhas,mget]
theorem qvx (used:List Str) (base:Str) (m:List (Str×Bool)) (hm:∀ k,mhas m k = used.contains k) (hl:used.length ≤ 100000000) (hb:base.length ≤ 4000000000000000000) (N:Nat) (hN:base ++ Lib.decDigits N ∉ used) (hN2:N ≤ 100000001) :
  ∀ (k n:Nat),1 ≤ n→n ≤ N→N < n + k→qf6 base m n = some (qkk used base k n)∧qfi used base (base ++ Lib.decDigits n) ((n + 1:Nat):Int) = some (qkk used base k n)∧qkk used base k n ∉ used
 | 0,n,_,h1,h2 => absurd h2 (by omega)
 | k + 1,n,h0,h1,h2 => by
  have hd:=qBd n
  have hd2:=qBd (n + 1)
  have e1:w64 ((n:Int) + 1) = ((n + 1:Nat):Int):=by rw [qeY (by omega) (by omega)]; omega
  have e2:w64 (((n + 1:Nat):Int) + 1) = ((n + 2:Nat):Int):=by rw [qeY (by omega) (by omega)]; omega
  unfold qkk
  by_cases hc:used.contains (base ++ Lib.decDigits n) = true
  ·rw [if_pos hc]
   have hne:n ≠ N:=by
    rintro rfl
    exact hN (by simpa using hc)
   obtain ⟨i1,i2,i3⟩:=qvx used base m hm hl hb N hN hN2 k (n + 1) (by omega) (by omega) (by omega)
   have hm':=hm (base ++ Lib.decDigits n)
   unfold mhas at hm'
   have b1:qdw base m (n:Int) = some (.inl (((n + 1:Nat):Int))):=by
    simp only [qdw]
    rw [qCw n (by omega)]
    simp only [Option.bind_some]
    rw [qzk (by omega)]
    simp only [Option.bind_some,hm',hc,e1]
    rfl
   have b2:qbh used base (base ++ Lib.decDigits n) ((n + 1:Nat):Int) = some (.inl (base ++ Lib.decDigits (n + 1),((n + 2:Nat):Int))):=by
    simp only [qbh]
    rw [qmt _ _ (by omega)]
    simp only [Option.bind_some,qkK]
    have:(used.any fun k => k == base ++ Lib.decDigits n) = true:=by simpa [List.any_eq_true] using hc
    rw [this,if_pos rfl,qvF (n + 1) (by omega) (by omega)]
    simp only [Option.bind_some]
    rw [qzk (by omega)]
    simp only [Option.bind_some,e2]
   refine ⟨?_,?_,i3⟩
   ·unfold qf6 at i1 ⊢
    exact (qhl b1).trans i1
   ·unfold qfi at i2 ⊢
    exact (qhl (body:=fun zz:Str×Int => qbh used base zz.1 zz.2) (s:=(base ++ Lib.decDigits n,((n + 1:Nat):Int))) (s':=(base ++ Lib.decDigits (n + 1),((n + 2:Nat):Int))) b2).trans i2
  ·rw [if_neg hc]
   have hc':used.contains (base ++ Lib.decDigits n) = false:=by simpa using hc
   have hm':=hm (base ++ Lib.decDigits n)
   unfold mhas at hm'
   have b1:qdw base m (n:Int) = some (.inr (base ++ Lib.decDigits n)):=by
    simp only [qdw]
    rw [qCw n (by omega)]
    simp only [Option.bind_some]
    rw [qzk (by omega)]
    simp only [Option.bind_some,hm',hc']
    rfl
   have b2:qbh used base (base ++ Lib.decDigits n) ((n + 1:Nat):Int) = some (.inr (base ++ Lib.decDigits n)):=by
    simp only [qbh]
    rw [qmt _ _ (by omega)]
    simp only [Option.bind_some,qkK]
    have:(used.any fun k => k == base ++ Lib.decDigits n) = false:=by
     rw [Bool.eq_false_iff]
     intro h
     apply hc
     simpa [List.any_eq_true] using h
    rw [this]
    rfl
   refine ⟨?_,?_,by simpa using hc⟩
   ·unfold qf6
    exact qez b1
   ·unfold qfi
    exact qez (body:=fun zz:Str×Int => qbh used base zz.1 zz.2) (s:=(base ++ Lib.decDigits n,((n + 1:Nat):Int))) b2
theorem quI (used:List Str) (base:Str) (hl:used.length ≤ 100000000) (hb:base.length ≤ 4000000000000000000):qkx used base = some (qdG used base)∧qog used base = some (qdG used base)∧qdG used base ∉ used:=by
 obtain ⟨m,hm1,hm⟩:=qsL used (show _ < _ by omega)
 have hm':=hm base
 unfold mhas at hm'
 obtain ⟨N,h1,h2,h3⟩:=qFT used base
 obtain ⟨i1,i2,i3⟩:=qvx used base m hm hl hb N h3 (by omega) 100000001 1 (Nat.le_refl _) h1 (by omega)
 unfold qkx qog qdG
 rw [hm1]
 simp only [Option.bind_some,hm']
 have hd:=qBd 1
 by_cases hc:used.contains base = true
 ·simp only [hc,Bool.not_true,Bool.false_eq_true,if_false,if_true]
  simp only [Int.ofNat_one] at i1
  rw [i1]
  have b2:qbh used base base 1 = some (.inl (base ++ Lib.decDigits 1,((2:Nat):Int))):=by
   simp only [qbh]
   rw [qmt _ _ (by omega)]
   simp only [Option.bind_some,qkK]
   have:(used.any fun k => k == base) = true:=by simpa [List.any_eq_true] using hc
   have ht:=qvF 1 (by omega) (by omega)
   simp only [Int.ofNat_one] at ht
   rw [this,if_pos rfl,ht]
   simp only [Option.bind_some]
   rw [qzk (by omega)]
   rfl
  unfold qfi at i2 ⊢
  have:=(qhl (body:=fun zz:Str×Int => qbh used base zz.1 zz.2) (s:=(base,1)) (s':=(base ++ Lib.decDigits 1,((2:Nat):Int))) b2).trans i2
  rw [this]
  exact ⟨rfl,rfl,i3⟩
 ·have hc':used.contains base = false:=by simpa using hc
  simp only [hc',Bool.not_false,if_true,Bool.false_eq_true,if_false]
  have b2:qbh used base base 1 = some (.inr base):=by
   simp only [qbh]
   rw [qmt _ _ (by omega)]
   simp only [Option.bind_some,qkK]
   have:(used.any fun k => k == base) = false:=by
    rw [Bool.eq_false_iff]
    intro h
    apply hc
    simpa [List.any_eq_true] using h
   rw [this]
   rfl
  unfold qfi
  have:=qez (body:=fun zz:Str×Int => qbh used base zz.1 zz.2) (s:=(base,1)) b2
  rw [this]
  exact ⟨trivial,rfl,by simpa using hc⟩
theorem qt3 {u v:List Str} (h:∀ x,x ∈ u↔x ∈ v) (base:Str):∀ (k n:Nat),qkk u base k n = qkk v base k n
 | 0,n => by rw [qkk,qkk]
 | k + 1,n => by
  have e:u.contains (base ++ Lib.decDigits n) = v.contains (base ++ Lib.decDigits n):=by
   rw [Bool.eq_iff_iff,List.contains_iff_mem,List.contains_iff_mem]
   exact h _
  rw [qkk,qkk,e,qt3 h base k (n + 1)]
theorem qt9 {u v:List Str} (h:∀ x,x ∈ u↔x ∈ v) (base:Str):qdG u base = qdG v base:=by
 have e:u.contains base = v.contains base:=by
  rw [Bool.eq_iff_iff,List.contains_iff_mem,List.contains_iff_mem]
  exact h _
 unfold qdG
 rw [e,qt3 h]
end Go.Proofs.YtgldgpdhblndkaaGreatDoor
