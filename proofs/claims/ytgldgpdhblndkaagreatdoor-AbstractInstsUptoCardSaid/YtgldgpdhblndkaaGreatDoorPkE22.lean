/- WHAT IS PROVED: parts of the proof, put together by a program (BrC BrD BrE SatG). Conditions: none. -/
import Derived.Test.YtgldgpdhblndkaaGreatDoorPkE21
import Derived.Test.YtgldgpdhblndkaaGreatDoorRows
noncomputable section
namespace Go.Proofs.YtgldgpdhblndkaaGreatDoor
open Go Go.RowKit Go.WideShapes Go.ChangeShapes Go.ChangeAt
set_option linter.unusedVariables false
mutual
def pm:PVal→Nat
 | .str s => s.length + 1
 | .slice es => pmLL es + 1
 | .int _ _ => 1
 | .bool _ => 1
 | _ => 0
def pmL:List PVal→Nat
 | [] => 0
 | p :: l => pm p + pmL l
def pmLL:List (List PVal)→Nat
 | [] => 0
 | x :: r => pmL x + pmLL r
end
theorem qxu:∀ (a b:List PVal),pmL (a ++ b) = pmL a + pmL b
 | [],b => by simp [pmL]
 | p :: a,b => by simp only [List.cons_append,pmL,qxu a b]; omega
def ShF (P:Program) (S:TypeId→List PVal→Prop):List Field→List PVal→Prop
 | [],l => l = []
 | f :: fs,l => ∃ a b,l = a ++ b∧a.length = P.cellsOf f.type∧S f.type a∧ShF P S fs b
def Sh (P:Program):Nat→TypeId→List PVal→Prop
 | 0,_,_ => False
 | n + 1,t,l => match P.underlying t with
  | some .bool => ∃ b,l = [.bool b]
  | some (.int k) => ∃ i,l = [.int k i]∧(Lit.int k i).wf = true
  | some .string => ∃ s:Str,l = [.str s]∧s.length ≤ maxLen
  | some (.slice e) => ∃ es,l = [.slice es]∧es.length ≤ maxLen∧∀ x ∈ es,Sh P n e x
  | some (.struct fs) => ShF P (Sh P n) fs.toList l
  | _ => True
def qsG (P:Program):Nat→List Field→Nat→Bool
 | o,[],n => decide (o = n)
 | o,f :: fs,n => decide (f.offset = o) && qsG P (o + P.cellsOf f.type) fs n
theorem qDO {α:Type} {Q:Nat→α→Prop}:∀ {n:Nat},(∀ i,i < n→∃ x,Q i x)→∃ l:List α,l.length = n∧∀ (i:Nat) x,l[i]? = some x→Q i x
 | 0,_ => ⟨[],rfl,fun i x h => by simp at h⟩
 | n + 1,h => by
  obtain ⟨l,hl,hq⟩:=qDO (n:=n) fun i hi => h i (by omega)
  obtain ⟨x,hx⟩:=h n (by omega)
  refine ⟨l ++ [x],by simp [hl],fun i y hy => ?_⟩
  by_cases hi:i < l.length
  ·rw [List.getElem?_append_left hi] at hy; exact hq i y hy
  ·have hlt:=qae hy
   simp at hlt
   have:i = l.length:=by omega
   subst this
   rw [List.getElem?_append_right (Nat.le_refl _)] at hy
   simp at hy; subst hy; rw [hl]; exact hx
theorem qD3 {H:Type}:∀ {es:List (List PVal)} {ds:List (DataW H)},es.length = ds.length→(∀ (i:Nat) x d,es[i]? = some x→ds[i]? = some d→pmL x ≤ Rows.uptoBulk d)→pmLL es ≤ Rows.uptoBulkAll ds
 | [],[],_,_ => by simp [pmLL,Rows.uptoBulkAll]
 | x :: es,d :: ds,hl,h => by
  have h1:=h 0 x d rfl rfl
  have h2:=qD3 (es:=es) (ds:=ds) (by simpa using hl) fun i x d hx hd => h (i + 1) x d (by simpa using hx) (by simpa using hd)
  simp only [pmLL,Rows.uptoBulkAll]; omega
section
variable {H:Type} {enc:TypeId×Value→H} {P:Program} {W:World} {base:Nat} {sp:Nat→Bool} {held:Bool}
def InA (P:Program) (W:World) (n:Nat) (t:TypeId) (cs:List Value) (b:Nat):Prop :=
 ∃ l:List PVal,l.length = cs.length∧(∀ (i:Nat) p v,l[i]? = some p→cs[i]? = some v→VR (allG W) [] W p v)∧Sh P n t l∧pmL l ≤ b
theorem InA.one {n:Nat} {t:TypeId} {p:PVal} {v:Value} {b:Nat} (h:VR (allG W) [] W p v) (hs:Sh P n t [p]) (hb:pm p ≤ b):InA P W n t [v] b :=
 ⟨[p],rfl,fun i q u hq hu => by
  cases i with
  | zero => simp at hq hu; subst hq; subst hu; exact h
  | succ i => simp at hq,hs,by simp only [pmL]; omega⟩
theorem qzG {L:List TypeId} {fuel:Nat} (ih:∀ (t:TypeId),t ∈ L→∀ (cs:List Value) (d:DataW H) (p:List MemPlace),DataW.trod enc P W base sp held fuel t cs = some (d,p)→InA P W fuel t cs (Rows.uptoBulk d)) {cs:List Value} :
  ∀ {fs:List Field} {o n:Nat} {xs:List (DataW H×List MemPlace)},(∀ f ∈ fs,f.type ∈ L)→n ≤ cs.length→qsG P o fs n = true→fs.mapM (fun f => DataW.trod enc P W base sp held fuel f.type ((cs.drop f.offset).take (P.cellsOf f.type))) = some xs →
   o ≤ n∧∃ l:List PVal,l.length = n - o∧(∀ (i:Nat) p v,l[i]? = some p→cs[o + i]? = some v→VR (allG W) [] W p v)∧ShF P (Sh P fuel) fs l∧pmL l ≤ Rows.uptoBulkAll (xs.map (·.1))
 | [],o,n,xs,_,hn,hc,h => by
  unfold qsG at hc
  have:o = n:=by simpa using hc
  subst this
  exact ⟨Nat.le_refl _,[],by simp,fun i p v hp => by simp at hp,rfl,by simp [pmL]⟩
 | f :: fs,o,n,xs,hL,hn,hc,h => by
  unfold qsG at hc
  simp only [Bool.and_eq_true,decide_eq_true_eq] at hc
  obtain ⟨hfo,hc⟩:=hc
  simp only [List.mapM_cons,Option.bind_eq_bind,Option.bind_eq_some_iff,Option.pure_def,Option.some.injEq] at h
  obtain ⟨⟨d,p⟩,hd,xs',hxs,rfl⟩:=h
  obtain ⟨ho,l2,k1,k2,k3,k4⟩:=qzG ih (fun g hg => hL g (List.mem_cons_of_mem _ hg)) hn hc hxs
  obtain ⟨l1,q1,q2,q3,q4⟩:=ih _ (hL f (by simp)) _ _ _ hd
  have hl1:l1.length = P.cellsOf f.type:=by rw [q1,List.length_take,List.length_drop,hfo]; omega
  refine ⟨by omega,l1 ++ l2,by simp [hl1,k1]; omega,fun i q v hq hv => ?_,⟨l1,l2,rfl,hl1,q3,k3⟩,by rw [qxu]; simp only [List.map_cons,Rows.uptoBulkAll]; omega⟩
  by_cases hi:i < l1.length
  ·rw [List.getElem?_append_left hi] at hq
   refine q2 i q v hq ?_
   rw [List.getElem?_take_of_lt (by omega),List.getElem?_drop,hfo]
   exact hv
  ·rw [List.getElem?_append_right (by omega)] at hq
   refine k2 (i - l1.length) q v hq ?_
   rw [← hv,hl1]
   congr 1
   rw [hl1] at hi
   omega
theorem qHx {fuel:Nat} {t:TypeId} {cs:List Value} {x:DataW H×List MemPlace} (ht:P.underlying t = some .bool) (h:DataW.trod enc P W base sp held (fuel + 1) t cs = some x):∃ b,cs = [.bool b]∧x.1 = .lit (.bool b):=by
 unfold DataW.trod at h
 rw [ht] at h
 split at h <;> simp_all
 exact h ▸ rfl
theorem qIa {fuel:Nat} {t:TypeId} {cs:List Value} {k:IntKind} {x:DataW H×List MemPlace} (ht:P.underlying t = some (.int k)) (h:DataW.trod enc P W base sp held (fuel + 1) t cs = some x):∃ n,cs = [.int k n]∧(Lit.int k n).wf = true∧x.1 = .lit (.int k n):=by
 unfold DataW.trod at h
 rw [ht] at h
 cases cs with
 | nil => simp at h
 | cons v r =>
  cases r with
  | cons _ _ => simp at h
  | nil =>
   cases v <;> simp at h
   obtain ⟨⟨rfl,h1⟩,rfl⟩:=h
   exact ⟨_,rfl,h1,rfl⟩
theorem qDK {fuel:Nat} {t:TypeId} {cs:List Value} {x:DataW H×List MemPlace} (ht:P.underlying t = some .string) (h:DataW.trod enc P W base sp held (fuel + 1) t cs = some x):∃ s:ByteArray,cs = [.string s]∧s.size ≤ maxLen∧x.1 = .lit (.string s.data.toList):=by
 unfold DataW.trod at h
 rw [ht] at h
 split at h <;> simp_all
 exact h.2 ▸ rfl
theorem qGu {fuel:Nat} {t e:TypeId} {cs:List Value} {x:DataW H×List MemPlace} (ht:P.underlying t = some (.slice e)) (h:DataW.trod enc P W base sp held (fuel + 1) t cs = some x) :
  (cs = [.slice none 0 0]∧x.1 = .nil)∨∃ a len cap elems rest,cs = [.slice (some a) len cap]∧len ≤ cap∧cap ≤ maxLen∧x.1 = .slice (elems.map (·.1)) rest ∧
   (List.range len).mapM (fun i => (W.cells? base (a.add (i * P.cellsOf e)) (P.cellsOf e)).bind (DataW.trod enc P W base sp held fuel e)) = some elems:=by
 unfold DataW.trod at h
 rw [ht] at h
 cases cs with
 | nil => simp at h
 | cons v r =>
  cases r with
  | cons _ _ => simp at h
  | nil =>
   cases v <;> try (simp at h; done)
   rename_i ad len cap
   cases ad with
   | none =>
    left
    match len,cap,h with
    | 0,0,h => simp at h; exact ⟨rfl,h ▸ rfl⟩
    | 0,c + 1,h => simp at h
    | n + 1,c,h => simp at h
   | some a =>
    right
    simp only at h
    split at h
    ·rename_i hc
     obtain ⟨elems,h1,h2⟩:=Option.bind_eq_some_iff.1 h
     obtain ⟨rest,h3,h4⟩:=Option.map_eq_some_iff.1 h2
     exact ⟨a,len,cap,elems,rest.map (·.1),rfl,hc.2.1,hc.2.2,by rw [← h4],h1⟩
    ·cases h
theorem qEZ {fuel:Nat} {t:TypeId} {cs:List Value} {fs:Array Field} {x:DataW H×List MemPlace} (ht:P.underlying t = some (.struct fs)) (h:DataW.trod enc P W base sp held (fuel + 1) t cs = some x) :
  cs.length = P.cellsOf t∧∃ xs,fs.toList.mapM (fun f => DataW.trod enc P W base sp held fuel f.type ((cs.drop f.offset).take (P.cellsOf f.type))) = some xs∧x.1 = .agg (xs.map (·.1)):=by
 unfold DataW.trod at h
 rw [ht] at h
 simp only at h
 split at h
 ·rename_i hl
  obtain ⟨xs,h1,h2⟩:=Option.map_eq_some_iff.1 h
  exact ⟨hl,xs,h1,by rw [← h2]⟩
 ·cases h
theorem qBY (a:Addr):a.add 0 = a:=by unfold Addr.add; simp
theorem qEJ {w:World} {a:Addr} {v:Value} (h:w.cell? a = some v):a.spot = none:=by
 unfold World.cell? at h
 split at h
 ·split at h
  ·cases h
  ·rename_i hs; simpa using hs
 ·cases h
structure Flat (P:Program) (L:List TypeId):Prop where
 st:∀ t ∈ L,∀ fs,P.underlying t = some (.struct fs)→qsG P 0 fs.toList (P.cellsOf t) = true∧∀ f ∈ fs.toList,f.type ∈ L
 sl:∀ t ∈ L,∀ e,P.underlying t = some (.slice e)→0 < P.cellsOf e∧e ∈ L
def qHg (P:Program) (L:List TypeId) (t:TypeId):Bool:=match P.underlying t with
 | some (.struct fs) => qsG P 0 fs.toList (P.cellsOf t) && fs.toList.all fun f => L.contains f.type
 | some (.slice e) => decide (0 < P.cellsOf e) && L.contains e
 | _ => true
theorem qHm {L:List TypeId} (h:L.all (qHg P L) = true):Flat P L:=by
 refine ⟨fun t ht fs hu => ?_,fun t ht e hu => ?_⟩
 ·have:=List.all_eq_true.1 h t ht
  unfold qHg at this
  rw [hu] at this
  simp only [Bool.and_eq_true,List.all_eq_true,List.contains_iff_mem] at this
  exact this
 ·have:=List.all_eq_true.1 h t ht
  unfold qHg at this
  rw [hu] at this
  simpa using this
theorem qDM {L:List TypeId} (hF:Flat P L) :
  ∀ (fuel:Nat) (t:TypeId),t ∈ L→∀ (cs:List Value) (d:DataW H) (p:List MemPlace),DataW.trod enc P W base sp held fuel t cs = some (d,p)→InA P W fuel t cs (Rows.uptoBulk d)
 | 0,t,_,cs,d,p,h => by simp [DataW.trod] at h
 | fuel + 1,t,htL,cs,d,p,h => by
  have ih:=qDM hF fuel
  have other:(∀ l,Sh P (fuel + 1) t l)→InA P W (fuel + 1) t cs (Rows.uptoBulk d):=fun hs => by
   refine ⟨cs.map .val,by simp,fun i q v hq hv => ?_,hs _,?_⟩
   ·simp only [List.getElem?_map,hv,Option.map_some,Option.some.injEq] at hq
    subst hq; exact .val v
   ·have:∀ cs:List Value,pmL (cs.map .val) = 0:=by
     intro cs
     induction cs with
     | nil => rfl
     | cons c cs ih => simp only [List.map_cons,pmL,ih,pm]
    rw [this]; exact Nat.zero_le _
  cases hu:P.underlying t with
  | none => exact other fun l => by unfold Sh; rw [hu]; trivial
  | some u =>
   cases u with
   | bool =>
    obtain ⟨b,rfl,hx⟩:=qHx hu h
    simp only at hx; subst hx
    exact .one (.bool b) (by unfold Sh; rw [hu]; exact ⟨b,rfl⟩) (by simp [pm,Rows.uptoBulk])
   | int k =>
    obtain ⟨n,rfl,hw,hx⟩:=qIa hu h
    simp only at hx; subst hx
    exact .one (.int k n) (by unfold Sh; rw [hu]; exact ⟨n,rfl,hw⟩) (by simp [pm,Rows.uptoBulk])
   | string =>
    obtain ⟨s,rfl,hl,hx⟩:=qDK hu h
    simp only at hx; subst hx
    exact .one (.str s.data.toList) (by unfold Sh; rw [hu]; exact ⟨s.data.toList,rfl,by rw [Array.length_toList]; exact hl⟩) (by simp [pm,Rows.uptoBulk])
   | struct fs =>
    obtain ⟨hl,xs,hxs,hx⟩:=qEZ hu h
    simp only at hx; subst hx
    obtain ⟨_,l,k1,k2,k3,k4⟩:=qzG ih (hF.st t htL fs hu).2 (by omega) (hF.st t htL fs hu).1 hxs
    refine ⟨l,by omega,fun i q v hq hv => k2 i q v hq (by rw [Nat.zero_add]; exact hv),by unfold Sh; rw [hu]; exact k3,by simp only [Rows.uptoBulk]; omega⟩
   | slice e =>
    obtain ⟨hz,heL⟩:=hF.sl t htL e hu
    rcases qGu hu h with ⟨rfl,hx⟩ | ⟨a,len,cap,elems,rest,rfl,hlc,hcm,hx,hm⟩
    ·simp only at hx; subst hx
     exact .one .sliceNil (by unfold Sh; rw [hu]; exact ⟨[],rfl,by simp,by simp⟩) (by simp [pm,pmLL,Rows.uptoBulk])
    simp only at hx; subst hx
    have hel:elems.length = len:=by simpa using Lib.mapM_length hm
    have hat:∀ i,i < len→∃ x:List PVal,∃ ci y,elems[i]? = some y∧W.cells? base (a.add (i * P.cellsOf e)) (P.cellsOf e) = some ci∧x.length = ci.length∧(∀ (k:Nat) q v,x[k]? = some q→ci[k]? = some v→VR (allG W) [] W q v)∧Sh P fuel e x∧pmL x ≤ Rows.uptoBulk y.1:=fun i hi => by
     obtain ⟨y,hy,hb⟩:=Lib.mapM_at hm i i (by simp [hi])
     obtain ⟨ci,hci,hd⟩:=Option.bind_eq_some_iff.1 hb
     obtain ⟨x,k1,k2,k3,k4⟩:=ih e heL ci y.1 y.2 hd
     exact ⟨x,ci,y,hy,hci,k1,k2,k3,k4⟩
    obtain ⟨es,hes,hq⟩:=qDO hat
    have hbulk:pmLL es ≤ Rows.uptoBulkAll (elems.map (·.1)):=qD3 (by simp [hes,hel]) fun i x d hx hd => by
     obtain ⟨ci,y,hy,_,_,_,_,hle⟩:=hq i x hx
     simp only [List.getElem?_map,hy,Option.map_some,Option.some.injEq] at hd
     subst hd; exact hle
    have hsh:Sh P (fuel + 1) t [.slice es]:=by
     unfold Sh; rw [hu]
     refine ⟨es,rfl,by omega,fun x hx => ?_⟩
     obtain ⟨i,hi⟩:=List.mem_iff_getElem?.1 hx
     obtain ⟨_,_,_,_,_,_,hs,_⟩:=hq i x hi
     exact hs
    refine .one ?_ hsh (by simp only [pm,Rows.uptoBulk]; omega)
    by_cases h0:len = 0
    ·subst h0
     obtain rfl:es = []:=List.eq_nil_of_length_eq_zero hes
     exact .sliceE a cap
    ·have hcell:∀ i,i < len→∀ k,k < P.cellsOf e→∃ (x:List PVal) (ci:List Value),es[i]? = some x∧W.cell? ((a.add (i * P.cellsOf e)).add k) = ci[k]?∧ci.length = P.cellsOf e∧x.length = ci.length∧(∀ (k:Nat) q v,x[k]? = some q→ci[k]? = some v→VR (allG W) [] W q v):=fun i hi k hk => by
      have hx:es[i]? = some es[i]:=List.getElem?_eq_getElem (by omega)
      obtain ⟨ci,y,hy,hc,hl,hv,_,_⟩:=hq i _ hx
      obtain ⟨_,hcl,hcc⟩:=World.cells?_some hc
      exact ⟨_,ci,hx,hcc k hk,hcl,hl,hv⟩
     have hspot:a.spot = none:=by
      obtain ⟨x,ci,_,h2,h3,_,_⟩:=hcell 0 (by omega) 0 hz
      rw [Nat.zero_mul,qBY,qBY,List.getElem?_eq_getElem (by omega)] at h2
      exact qEJ h2
     obtain ⟨ab,ao,asp⟩:=a
     simp only at hspot; subst hspot
     have hadd:∀ i k,((⟨ab,ao,none⟩:Addr).add (i * P.cellsOf e)).add k = ⟨ab,ao + i * P.cellsOf e + k,none⟩:=fun i k => by
      rw [qBM ⟨ab,ao,none⟩ _ rfl,qBM _ _ rfl]
     have hcl:∀ (i:Nat) x (k:Nat) q,es[i]? = some x→x[k]? = some q→∃ v,W.cell? ⟨ab,ao + i * P.cellsOf e + k,none⟩ = some v∧VR (allG W) [] W q v:=fun i x k q hx hqk => by
      have hi:i < len:=by have:=qae hx; omega
      obtain ⟨ci,y,hy,hc,hl,hv,_,_⟩:=hq i x hx
      obtain ⟨_,hcl,hcc⟩:=World.cells?_some hc
      have hk:k < P.cellsOf e:=by have:=qae hqk; omega
      have hck:ci[k]? = some ci[k]:=List.getElem?_eq_getElem (by omega)
      refine ⟨ci[k],?_,hv k q _ hqk hck⟩
      rw [← hadd,hcc k hk,hck]
     have hlen:∀ (i:Nat) x,es[i]? = some x→x.length = P.cellsOf e:=fun i x hx => by
      obtain ⟨ci,y,hy,hc,hl,_,_,_⟩:=hq i x hx
      exact hl.trans (World.cells?_some hc).2.1
     obtain ⟨c,ty,fr,hh⟩:∃ c ty fr,W.heap[ab]? = some (.cells c ty fr):=by
      obtain ⟨x,ci,h1,h2,h3,h4,_⟩:=hcell 0 (by omega) 0 hz
      rw [hadd,List.getElem?_eq_getElem (by omega)] at h2
      unfold World.cell? at h2
      split at h2
      ·rename_i c ty fr hh; exact ⟨c,ty,fr,hh⟩
      ·cases h2
     have hin:ao + es.length * P.cellsOf e ≤ c.size:=by
      obtain ⟨x,ci,h1,h2,h3,h4,_⟩:=hcell (len - 1) (by omega) (P.cellsOf e - 1) (by omega)
      rw [hadd,List.getElem?_eq_getElem (by omega),cell_of_row W _ _ c ty fr hh] at h2
      have:=(Array.getElem?_eq_some_iff.1 h2).1
      have e1:(len - 1) * P.cellsOf e + P.cellsOf e = len * P.cellsOf e:=by
       have:len = (len - 1) + 1:=by omega
       conv => rhs; rw [this,Nat.add_mul,Nat.one_mul]
      rw [hes]; omega
     have:=VR.slice (Γ:=allG W) (bs:=[]) (w:=W) es ab ao cap c.size (P.cellsOf e) (fun i k => (W.cell? ⟨ab,ao + i * P.cellsOf e + k,none⟩).getD undef) hz (by omega) (qz5 hh) hin hlen
      (fun i x k q hx hqk => by obtain ⟨v,h1,_⟩:=hcl i x k q hx hqk; rw [h1]; rfl)
      (fun i x k q hx hqk => by obtain ⟨v,h1,h2⟩:=hcl i x k q hx hqk; rw [h1]; exact h2)
     rw [hes] at this
     exact this
   | _ => exact other fun l => by unfold Sh; rw [hu]; trivial
end
end Go.Proofs.YtgldgpdhblndkaaGreatDoor
namespace Go.Proofs.YtgldgpdhblndkaaGreatDoor
open Go
set_option linter.unusedVariables false
abbrev In (P:Program) (t:TypeId) {α:Type} (c:α→List PVal):Prop := ∀ n l,Sh P n t l→∃ x,l = c x
section
variable {P:Program} {t e:TypeId} {α:Type} {c:α→List PVal}
theorem in_i {k:IntKind} (hu:P.underlying t = some (.int k)):In P t (cI k):=fun n l h => by
 cases n with
 | zero => exact h.elim
 | succ n =>
  unfold Sh at h
  rw [hu] at h
  obtain ⟨i,rfl,_⟩:=h
  exact ⟨i,rfl⟩
theorem in_s (hu:P.underlying t = some .string):In P t cS:=fun n l h => by
 cases n with
 | zero => exact h.elim
 | succ n =>
  unfold Sh at h
  rw [hu] at h
  obtain ⟨i,rfl,_⟩:=h
  exact ⟨i,rfl⟩
theorem qCo:∀ {es:List (List PVal)},(∀ x ∈ es,∃ y,x = c y)→∃ ys:List α,es = ys.map c
 | [],_ => ⟨[],rfl⟩
 | x :: es,h => by
  obtain ⟨y,rfl⟩:=h x (by simp)
  obtain ⟨ys,rfl⟩:=qCo fun z hz => h z (List.mem_cons_of_mem _ hz)
  exact ⟨y :: ys,rfl⟩
theorem qHD (hu:P.underlying t = some (.slice e)) {n:Nat} (hE:∀ m,m < n→∀ l,Sh P m e l→∃ x,l = c x) (l:List PVal) (h:Sh P n t l):∃ xs,l = cL c xs:=by
 cases n with
 | zero => exact h.elim
 | succ n =>
  unfold Sh at h
  rw [hu] at h
  obtain ⟨es,rfl,_,h⟩:=h
  obtain ⟨ys,rfl⟩:=qCo fun x hx => hE n (Nat.lt_succ_self n) x (h x hx)
  exact ⟨ys,rfl⟩
theorem in_l (hu:P.underlying t = some (.slice e)) (hE:In P e c):In P t (cL c):=fun n l h => qHD hu (fun m _ => hE m) l h
theorem qys:∀ (es:List (List PVal)),(∀ x ∈ es,1 ≤ pmL x)→es.length ≤ pmLL es
 | [],_ => by simp [pmLL]
 | x :: es,h => by
  have h1:=h x (by simp)
  have h2:=qys es fun y hy => h y (List.mem_cons_of_mem _ hy)
  simp only [pmLL,List.length_cons]; omega
theorem qCm:∀ {es:List (List PVal)} {x:List PVal},x ∈ es→pmL x ≤ pmLL es
 | y :: es,x,h => by
  simp only [pmLL]
  rcases List.mem_cons.1 h with rfl | h
  ·omega
  ·have:=qCm h; omega
end
section
variable {H:Type} {enc:TypeId×Value→H} {P:Program} {W:World} {base b0:Nat} {sp:Nat→Bool} {held:Bool} {t e:TypeId} {v:Value} {d:DataW H} {p:List MemPlace} {L:List TypeId}
theorem qEV (hF:Flat P L) (hL:t ∈ L) {fs:Array Field} (hu:P.underlying t = some (.struct fs)) (h:DataW.Trod enc P W base sp held t v d p) (hv:Value.okWide P W .any b0 t v) :
  ∃ n l,VR (allG W) [] W (.agg l) v∧Sh P n t l∧pmL l ≤ Rows.uptoBulk d:=by
 obtain ⟨n,h⟩:=h
 unfold Value.okWide at hv
 rw [hu] at hv
 obtain ⟨cs,rfl,_,_⟩:=hv
 obtain ⟨l,h1,h2,h3,h4⟩:=qDM hF n t hL _ d p h
 refine ⟨n,l,.agg l cs ?_ fun i q u hq hu' => h2 i q u hq ?_,h3,h4⟩
 ·have:(Value.agg cs).cells.toList.length = cs.size:=by simp [Value.cells]
  omega
 ·show cs.toList[i]? = some u
  rw [Array.getElem?_toList]; exact hu'
theorem qIt (hF:Flat P L) (hL:t ∈ L) (hc:v.cells.toList = [v]) (h:DataW.Trod enc P W base sp held t v d p):∃ n q,VR (allG W) [] W q v∧Sh P n t [q]∧pm q ≤ Rows.uptoBulk d:=by
 obtain ⟨n,h⟩:=h
 rw [hc] at h
 obtain ⟨l,h1,h2,h3,h4⟩:=qDM hF n t hL _ d p h
 match l,h1 with
 | [q],_ => exact ⟨n,q,h2 0 q v rfl rfl,h3,by simpa [pmL] using h4⟩
theorem qBJ (hF:Flat P L) (hL:t ∈ L) (hu:P.underlying t = some (.slice e)) (h:DataW.Trod enc P W base sp held t v d p) (hv:Value.okWide P W .any b0 t v):∃ n q,VR (allG W) [] W q v∧Sh P n t [q]∧pm q ≤ Rows.uptoBulk d:=by
 unfold Value.okWide at hv
 rw [hu] at hv
 have hv':Cell.okWide P W .any b0 t v:=hv
 unfold Cell.okWide at hv'
 refine qIt hF hL ?_ h
 cases v <;> simp [hu,Cell.ok] at hv' <;> rfl
theorem qG9 {α:Type} {c:α→List PVal} {f:α→PVal} {q:PVal} {x:α} (hc:c x = [f x]) (h:[q] = c x):q = f x:=by
 rw [hc] at h
 exact List.head_eq_of_cons_eq h
end
def clBx (n:Nat):PBox→Prop
 | .dead => True
 | .cells cs _ => clL n cs
 | .map es => ∀ x ∈ es,x.1.cl n∧x.2.cl n
def clBs (n:Nat):List PBox→Prop
 | [] => True
 | B :: l => clBx n B∧clBs n l
theorem qCp {k:Nat}:∀ {ps qs:List PVal},fgT ps qs = qs→clL k qs→qnc k ps qs
 | [],[],_,_ => trivial
 | [],_ :: _,h,_ => by simp [fgT] at h
 | p :: ps,[],h,_ => by simp [fgT] at h
 | p :: ps,q :: qs,h,hc => by
  obtain ⟨hc1,hc2⟩:=hc
  cases q <;> simp only [fgT,List.cons.injEq] at h <;> refine ⟨?_,qCp h.2 hc2⟩ <;> first | exact .inl rfl | exact .inr ⟨h.1,hc1⟩
theorem qD9 {k:Nat} {p q:PBox} (h:fgB1 p q = q) (hc:clBx k q):qld k p q:=by
 cases q with
 | dead => cases p <;> simp [qld]
 | cells cs own =>
  cases p with
  | cells cs0 own0 =>
   simp only [fgB1,PBox.cells.injEq] at h
   obtain ⟨rfl,h⟩:=h
   refine ⟨rfl,hc,fun x hx => ?_⟩
   split at h
   ·rename_i ha
    simpa using List.all_eq_true.1 ha x hx
   ·rw [h]; exact hx
  | map es => simp [fgB1] at h
  | dead => simp [fgB1] at h
 | map es =>
  have h':p = .map es:=by cases p <;> simp [fgB1] at h ⊢ <;> exact h
  subst h'
  exact ⟨rfl,hc⟩
theorem quL {k:Nat}:∀ {ps qs:List PBox},fgB (ps.take qs.length) qs = qs→clBs k qs→qbQ k ps qs
 | _,[],_,_ => by unfold qbQ; trivial
 | [],_ :: _,h,_ => by simp [fgB] at h
 | p :: ps,q :: qs,h,hc => by
  obtain ⟨hc1,hc2⟩:=hc
  rw [List.length_cons,List.take_succ_cons] at h
  simp only [fgB,List.cons.injEq] at h
  exact ⟨qD9 h.1 hc1,quL h.2 hc2⟩
def FGx (m:Nat) (st st0:PSt):Prop:=fgT st.tmps st0.tmps = st0.tmps∧fgB (st.boxes.take st0.boxes.length) st0.boxes = st0.boxes∧(st0.own.all fun x => decide (x ∈ st.own)) = true∧decide (m % 1000 ≤ st0.boxes.length) = true ∧
 clL st0.boxes.length st0.tmps∧clBs st0.boxes.length st0.boxes
theorem FGx.weak {P:Program} {m:Nat} {st st0:PSt} (h:FGx m st st0):Weak P m st st0:=by
 obtain ⟨h1,h2,h3,h4,h5,h6⟩:=h
 exact .of_less ⟨qCp h1 h5,quL h2 h6,fun x hx => by simpa using List.all_eq_true.1 h3 x hx⟩ (by simpa using h4)
def FNx (m:Nat) (e0:Exit) (st0:PSt):Exit→List It→PSt→Prop:=fun e _ st => e0 = e∧FGx m st st0
section
variable {P:Program} {GE:List (Nat×List PVal)} {A:List Nat} {m:Nat}
theorem qG3 (hf:P.follows .mixedOrders = true) {c:Code} {e0:Exit} {st0 st:PSt} (sc:List It) (h:evC P GE A m c sc st (FNx m e0 st0)):Sat P GE m c (EX e0 st0) st :=
 (qev hf c sc st _ h).mono fun _ _ hx => by
  obtain ⟨_,hx⟩:=hx
  exact ⟨st0,hx.2.weak,hx.1.symm,rfl⟩
theorem qII (hf:P.follows .mixedOrders = true) {σ X:Type} {S:σ→PSt} {ex:X→Exit} {so:X→PSt} {c:Code} {s:σ} {st:PSt} (sc:List It) (h:evC P GE A m c sc st (FNx m .normal (S s))):Sat P GE m c (LQ S ex so (.inl s)) st :=
 (qG3 hf sc h).imp fun _ _ hx => ⟨hx.1,hx.2⟩
theorem qIJ (hf:P.follows .mixedOrders = true) {σ X:Type} {S:σ→PSt} {ex:X→Exit} {so:X→PSt} {c:Code} {x:X} {st:PSt} (sc:List It) (hn:ex x ≠ .normal) (h:evC P GE A m c sc st (FNx m (ex x) (so x))):Sat P GE m c (LQ S ex so (.inr x)) st :=
 (qG3 hf sc h).imp fun _ _ hx => ⟨by rw [hx.1]; exact hn,hx.1,hx.2⟩
end
mutual
theorem qFb {n m:Nat} (hnm:n ≤ m):∀ (p:PVal),p.cl n→p.cl m
 | .undef,_ => by simp [PVal.cl]
 | .int _ _,_ => by simp [PVal.cl]
 | .bool _,_ => by simp [PVal.cl]
 | .str _,_ => by simp [PVal.cl]
 | .val _,_ => by simp [PVal.cl]
 | .agg cs,h => by simp only [PVal.cl] at h ⊢; exact qkU hnm cs h
 | .tuple cs,h => by simp only [PVal.cl] at h ⊢; exact qkU hnm cs h
 | .slice es,h => by simp only [PVal.cl] at h ⊢; exact qzm hnm es h
 | .eptr cs,h => by simp only [PVal.cl] at h ⊢; exact qkU hnm cs h
 | .bptr i _,h => by simp only [PVal.cl] at h ⊢; omega
 | .bsl i _ _,h => by simp only [PVal.cl] at h ⊢; omega
 | .mapr i,h => by simp only [PVal.cl] at h ⊢; omega
 | .func _ f c,h => by simp only [PVal.cl] at h ⊢; exact ⟨qkU hnm f h.1,qkU hnm c h.2⟩
theorem qkU {n m:Nat} (hnm:n ≤ m):∀ (l:List PVal),clL n l→clL m l
 | [],_ => by simp [clL]
 | p :: l,h => by simp only [clL] at h ⊢; exact ⟨qFb hnm p h.1,qkU hnm l h.2⟩
theorem qzm {n m:Nat} (hnm:n ≤ m):∀ (l:List (List PVal)),clLL n l→clLL m l
 | [],_ => by simp [clLL]
 | p :: l,h => by simp only [clLL] at h ⊢; exact ⟨qkU hnm p h.1,qzm hnm l h.2⟩
end
theorem qbO {n:Nat} {l:List PVal} (h:clL 0 l):clL n l:=qkU (Nat.zero_le n) l h
theorem up {n:Nat} {p:PVal} (h:p.cl 0):p.cl n:=qFb (Nat.zero_le n) p h
theorem qch {i n:Nat} (h:decide (i < n) = true):i < n:=of_decide_eq_true h
theorem frx (m:Nat) (st:PSt) (h4:decide (m % 1000 ≤ st.boxes.length) = true) (h5:clL st.boxes.length st.tmps) (h6:clBs st.boxes.length st.boxes) :
  st.tmps = st.tmps∧st.boxes = st.boxes∧true = true∧decide (m % 1000 ≤ st.boxes.length) = true∧clL st.boxes.length st.tmps∧clBs st.boxes.length st.boxes:=⟨rfl,rfl,rfl,h4,h5,h6⟩
def aggD:TypeDesc→Bool
 | .struct _ => true
 | .array _ _ => true
 | _ => false
theorem qhr {P:Program} {t:TypeId} {l r:List PVal} (h:(P.underlying t).any aggD = true) (hc:P.cellsOf t = l.length):qbg P t (l ++ r) = some (.agg l):=by
 unfold qbg
 split
 ·rw [if_pos (by rw [hc]; simp),hc,List.take_left]
 ·rw [if_pos (by rw [hc]; simp),hc,List.take_left]
 ·rename_i d h1 h2 hd
  rw [hd] at h
  cases d <;> simp_all [aggD]
 ·rename_i hd; rw [hd] at h; cases h
end Go.Proofs.YtgldgpdhblndkaaGreatDoor
