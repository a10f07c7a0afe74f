/- WHAT IS PROVED: parts of the proof, put together by a program (BrA BrB SatF). Conditions: none. -/
import Derived.Test.YtgldgpdhblndkaaGreatDoorPkE20
import Derived.Deep.Draws
import Derived.Sort.Grow
import Derived.Lib.LaidTab
import Derived.WalkKit
import Derived.ProofKit
import Derived.OpenShut
import Derived.Below
import Derived.ChangeSame
import Derived.SliceStrings
import Derived.ChangeMaps5
import Derived.WideKeyArgs
import Derived.LaidLaws
noncomputable section
namespace Go.Proofs.YtgldgpdhblndkaaGreatDoor
open Go
structure Grew (w w':World):Prop where
 os:w'.os = w.os
 tape:w'.tape = w.tape
 output:w'.output = w.output
 size:w.heap.size ≤ w'.heap.size
 keep:∀ b,b < w.heap.size→w'.heap[b]? = w.heap[b]?
theorem Grew.of_grow (w:World) (k:Nat) (os:Array Obj):Grew w (Sort.grow (w.drewN k) os):={
 os:=rfl
 tape:=rfl
 output:=rfl
 size:=by show w.heap.size ≤ (w.heap ++ os).size; simp
 keep:=fun b hb => by show (w.heap ++ os)[b]? = _; rw [Array.getElem?_append_left hb] }
section
variable {P:Program} {GE:List (Nat×List PVal)}
theorem qIf {E:Ent} {Γ:qaP} {bs:qbj} {ow:Nat→Option Loc} {w:World} {a:Array Value} {st:PSt} (h:SR P E Γ bs ow w a st) {g:Nat} {k:IntKind} {zs:List Int} {name:String}
  (hg:(g,zs.map (PVal.int k)) ∈ E.GE) (hn:P.globalNamed name = some g):Lib.TabIs P w name k zs:=by
 obtain ⟨_,_,_,c,t,fr,h1,h2⟩:=h.gnow hg
 have hv:=h.gl g _ hg
 unfold Lib.TabIs World.var?
 rw [hn]
 simp only [Option.bind_some,h1]
 congr 1
 refine Array.ext_getElem? fun i => ?_
 generalize hcs:zs.map (PVal.int k) = cs at hv
 cases hv with
 | eptrE _ _ =>
  have hz:zs = []:=by simpa using hcs
  subst hz
  have h3:c.size = 0:=h2
  rw [Array.getElem?_eq_none (by omega),Array.getElem?_eq_none (by simp)]
 | eptr _ _ _ n vals hg' hn' hc hvv =>
  subst hcs
  by_cases hi:i < zs.length
  ·have h3:=hc i _ (by simp [hi]:(zs.map (PVal.int k))[i]? = some (.int k zs[i]))
   have h4:=hvv i _ (by simp [hi]:(zs.map (PVal.int k))[i]? = some (.int k zs[i]))
   rw [Nat.zero_add] at h3
   have h5:w.cell? ⟨g,i,none⟩ = c[i]?:=cell_of_row w g i c t fr h1
   rw [h5] at h3
   rw [h3]
   generalize vals i = vi at h4
   cases h4
   simp [hi]
  ·rw [List.length_map] at h2
   rw [Array.getElem?_eq_none (by omega),Array.getElem?_eq_none (by simp; omega)]
theorem CC.grownIS {f:FuncId} {n:Int} {s:Str} {k:IntKind} (hcall:∀ vs w,(callFunc f vs).run P w = .ok (.enter f vs) w)
  (h:∀ E Γ bs ow w a st,E.GE = GE→SR P E Γ bs ow w a st→Calls P f #[.int k n] w fun e w' => e = .returned (.string ⟨s.toArray⟩)∧Grew w w'):CC P GE f [.int k n] (.str s) []:=by
 refine ⟨⟨trivial,trivial⟩,hcall,fun Γ bs ow w vs hS => ?_⟩
 have hvs:vs = #[.int k n]:=by
  have h1:=hS.sz
  simp at h1
  have h2:vs[0]? = some vs[0]:=by simp [h1]
  have h3:=hS.tm 0 _ _ rfl h2
  refine Array.ext (by simp [h1]) fun i hi hi2 => ?_
  have:i = 0:=by simp at hi2; omega
  subst this
  generalize vs[0] = v at h3
  cases h3
  rfl
 subst hvs
 refine (h _ Γ bs ow w _ _ rfl hS).mono fun e w' he => ?_
 obtain ⟨rfl,hg⟩:=he
 have hbl:bs.length = 0:=hS.bl
 obtain rfl:bs = []:=List.eq_nil_of_length_eq_zero hbl
 have hW:=hS.world (Γ':=Γ) (w':=w') (fun _ => False) (fun b m hb _ => ⟨m,hb,Nat.le_refl _,fun o _ => qaX (hg.keep b (hS.lt_of_ghost hb)) o⟩)
  (fun b m hb => by
   obtain ⟨c,t,fr,h1,h2⟩:=hS.wi b m hb
   exact ⟨c,t,fr,(hg.keep b (hS.lt_of_ghost hb)).trans h1,h2⟩) hg.os hg.tape hg.output hg.size (fun b hb _ => ⟨hg.keep b hb,rfl⟩) (fun _ hx => hx.elim) (fun _ _ _ hx => hx) (fun _ _ _ hx => hx)
 refine ⟨_,Γ,ow,rfl,{ hW with
  sz:=rfl
  tm:=fun t p v hp hv => by
   cases t with
   | zero => simp at hp hv; subst hp; subst hv; exact .str s
   | succ t => simp at hp
  ot:=fun t k e he => by simp at he }⟩
structure InPl (P:Program) (g:FuncId) (e:TypeId) (enc:Str→Value) (f:List Str→List Str) (R:Option Addr→Nat→Nat→Value):Prop where
 call:∀ vs w,(callFunc g vs).run P w = .ok (.enter g vs) w
 row:∀ (w:World) (b cap:Nat) (cur:Array Value) (l:List Str),w.heap[b]? = some (.cells cur e (0,0))→cur.size = cap→l.length ≤ cap→cap ≤ maxLen→l.length ≤ qdH→cur.toList.take l.length = l.map enc →
  Calls P g #[.slice (some ⟨b,0,none⟩) l.length cap] w fun r w' => r = .returned (R (some ⟨b,0,none⟩) (f l).length cap)∧(f l).length ≤ cap∧w'.os = w.os∧w'.tape = w.tape∧w'.output = w.output∧w.heap.size ≤ w'.heap.size ∧
   (∀ b',b' < w.heap.size→b' ≠ b→w'.heap[b']? = w.heap[b']?)∧∃ cur',w'.heap[b]? = some (.cells cur' e (0,0))∧cur'.size = cap∧cur'.toList.take (f l).length = (f l).map enc
 none:∀ w:World,f [] = []∧Calls P g #[.slice none 0 0] w fun r w' => r = .returned (R none 0 0)∧w' = w
theorem qGZ:∀ {l l':List PVal},l.length = l'.length→(∀ (i:Nat) q,l'[i]? = some q→q = .undef∨l[i]? = some q)→fgT l l' = l'
 | [],[],_,_ => rfl
 | [],_ :: _,h,_ => by simp at h
 | _ :: _,[],h,_ => by simp at h
 | p :: l,q :: l',h,hq => by
  have ih:=qGZ (l:=l) (l':=l') (by simpa using h) fun i x hx => by simpa using hq (i + 1) x (by simpa using hx)
  have h0:=hq 0 q rfl
  simp only [List.getElem?_cons_zero,Option.some.injEq] at h0
  rcases h0 with rfl | rfl
  ·simp only [fgT,ih]
  ·cases p <;> simp only [fgT,ih]
def own1 (n t:Nat) (l:List Str) (e:TypeId):PSt:=⟨(List.replicate n .undef).set t (sl cS l),[],[((t,0),e)]⟩
theorem qyy {n t:Nat} {p:PVal} {i:Nat} {l:List Str} (h:((List.replicate n .undef).set t (sl cS l))[i]? = some p):p = .undef∨(i = t∧p = sl cS l):=by
 rw [List.getElem?_set] at h
 split at h
 ·rename_i hti
  split at h
  ·cases h; exact .inr ⟨hti.symm,rfl⟩
  ·cases h
 ·rw [List.getElem?_replicate] at h
  split at h
  ·cases h; exact .inl rfl
  ·cases h
theorem qvE {E:Ent} {Γ:qaP} {bs:qbj} {ow:Nat→Option Loc} {w w':World} {a:Array Value} {st:PSt} (h:SR P E Γ bs ow w a st) (hE:EGood GE 0 E) (hbs:bs = []) {e:TypeId} (he:P.cellsOf e = 1) {n t ts:Nat} {a':Array Value} (hn:a'.size = n) (hts:ts < n)
  {f:List Str} {v:Value} (hv:a'[ts]? = some v) (hos:w'.os = w.os) (htp:w'.tape = w.tape) (hout:w'.output = w.output) (hsz:w.heap.size ≤ w'.heap.size)
  (hval:(v = .slice none 0 0∧f = []∧w' = w)∨∃ b cap cur',v = .slice (some ⟨b,0,none⟩) f.length cap∧ow b = some (.tmp t 0)∧f.length ≤ cap∧cap ≤ maxLen∧(∀ b',b' < w.heap.size→b' ≠ b→w'.heap[b']? = w.heap[b']?)∧w'.heap[b]? = some (.cells cur' e (0,0))∧cur'.size = cap∧cur'.toList.take f.length = f.map fun s => Value.string ⟨s.toArray⟩) :
  ∃ Γ' ow',SR P E Γ' [] ow' w' a' (own1 n ts f e):=by
 subst hbs
 rcases hval with ⟨rfl,rfl,rfl⟩ | ⟨b,cap,cur',rfl,hob,hfc,hcm,hkeep,hcur,hcs,htake⟩
 ·refine ⟨Γ,fun _ => .none,{ h with
   sz:=by simp [own1,hn]
   tm:=fun i p u hp hu => by
    rcases qyy hp with rfl | ⟨rfl,rfl⟩
    ·exact .undef u
    ·rw [hv] at hu; cases hu; exact .sliceNil
   bl:=rfl
   bx:=fun i b B hi => by simp at hi
   inj:=fun i j b hi => by simp at hi
   bn:=fun i b hi => by simp at hi
   on:=fun b L hL => by cases hL
   ot:=fun t' k e' he' => by
    simp [own1] at he'
    obtain ⟨⟨rfl,rfl⟩,rfl⟩:=he'
    exact ⟨_,_,hv,rfl,⟨0,[],World.ownsRow_nil _ _ _ _,fun b hb => by simp [Value.ownBlock] at hb⟩,fun b hb => by simp [Value.ownBlock] at hb⟩
   ob:=fun i j e' cs own b hB => by simp [own1] at hB }⟩
 ·have hlo:=(h.on b _ hob)
  have hblt:=hlo.1
  have hbe:E.w.heap.size ≤ b:=hlo.2.resolve_left (hE.nt rfl b)
  have hlen:cur'.toList.length = cap:=by simpa using hcs
  have hget:∀ i,i < f.length→cur'[i]? = some (.string ⟨(f[i]!).toArray⟩):=by
   intro i hi
   have h1:(cur'.toList.take f.length)[i]? = (f.map fun s => Value.string ⟨s.toArray⟩)[i]?:=by rw [htake]
   rw [List.getElem?_take_of_lt hi] at h1
   simp only [Array.getElem?_toList,List.getElem?_map] at h1
   rw [h1]
   simp [hi]
  have hle:E.Γ.Le E.w (Γ.put b f.length) w':=fun x m hx hm0 => by
   obtain ⟨m',h1,h2,h3⟩:=h.step.le x m hx hm0
   have hne:x ≠ b:=fun hxb => by have:=hE.low x m hx; omega
   refine ⟨m',(Γ.put_other hne).trans h1,h2,fun o ho => ?_⟩
   rw [← h3 o ho]
   exact qaX (hkeep x (h.lt_of_ghost h1) hne) o
  refine ⟨Γ.put b f.length,fun x => if x = b then some (.tmp ts 0) else Option.none,{
   wi:=fun x m hx => by
    by_cases hxb:x = b
    ·subst hxb; rw [Γ.put_same] at hx; cases hx; exact ⟨cur',e,(0,0),hcur,by omega⟩
    ·rw [Γ.put_other hxb] at hx
     obtain ⟨c,t',fr,h1,h2⟩:=h.wi x m hx
     exact ⟨c,t',fr,(hkeep x (h.lt_of_ghost hx) hxb).trans h1,h2⟩
   sz:=by simp [own1,hn]
   tm:=fun i p u hp hu => by
    rcases qyy hp with rfl | ⟨rfl,rfl⟩
    ·exact .undef u
    ·rw [hv] at hu; cases hu
     have:=VR.slice (Γ:=Γ.put b f.length) (bs:=[]) (w:=w') (f.map cS) b 0 cap f.length 1 (fun i _ => .string ⟨(f[i]!).toArray⟩) (by decide) (by simpa using hfc) (Γ.put_same _ _) (by simp)
      (fun i x hx => by rw [List.getElem?_map] at hx; cases hf:f[i]? with
       | none => rw [hf] at hx; cases hx
       | some s => rw [hf] at hx; cases hx; rfl)
      (fun i x k q hx hq => by
       rw [List.getElem?_map] at hx
       cases hf:f[i]? with
       | none => rw [hf] at hx; cases hx
       | some s =>
        rw [hf] at hx; cases hx
        have hil:=qae hf
        have hk:k = 0:=by have:=qae hq; simp [cS] at this; exact this
        subst hk
        rw [show 0 + i * 1 + 0 = i by omega,cell_of_row w' b i cur' e _ hcur]
        exact hget i hil)
      (fun i x k q hx hq => by
       rw [List.getElem?_map] at hx
       cases hf:f[i]? with
       | none => rw [hf] at hx; cases hx
       | some s =>
        rw [hf] at hx; cases hx
        have hk:k = 0:=by have:=qae hq; simp [cS] at this; exact this
        subst hk
        simp [cS] at hq; subst hq
        have:f[i]! = s:=by rw [List.getElem!_eq_getElem?_getD,hf]; rfl
        rw [this]
        exact .str s)
     rw [List.length_map] at this
     exact this
   bl:=rfl
   bx:=fun i b B hi => by simp at hi
   inj:=fun i j b hi => by simp at hi
   bn:=fun i b hi => by simp at hi
   on:=fun x L hL => by
    split at hL
    ·rename_i hxb; subst hxb; exact ⟨Nat.lt_of_lt_of_le hblt hsz,.inr hbe⟩
    ·cases hL
   ot:=fun t' k e' he' => by
    simp [own1] at he'
    obtain ⟨⟨rfl,rfl⟩,rfl⟩:=he'
    refine ⟨_,_,hv,rfl,⟨f.length,f.map fun s => Value.string ⟨s.toArray⟩,⟨by simp [he],.inr ⟨b,cap,cur',rfl,Nat.zero_le _,hcur,hfc,hcm,by rw [he]; omega,by rw [he,Nat.mul_one]; exact htake⟩⟩,fun x hx => ?_⟩,fun x hx => ?_⟩
    ·simp [Value.ownBlock] at hx; subst hx; rw [he,Nat.mul_one]; exact Γ.put_same _ _
    ·simp [Value.ownBlock] at hx; subst hx; simp
   ob:=fun i j e' cs own b hB => by simp [own1] at hB
   gl:=fun g cs hg => (hE.gl g cs (by rw [← hE.ge]; exact hg)).mono hle (.refl _)
   gc:=h.gc
   gx:=h.gx
   step:={
    os:=hos.trans h.step.os
    tape:=htp.trans h.step.tape
    output:=hout.trans h.step.output
    size:=Nat.le_trans h.step.size hsz
    keep:=fun x hx hT => by
     have hne:x ≠ b:=fun hxb => by omega
     obtain ⟨k1,k2⟩:=h.step.keep x hx hT
     exact ⟨(hkeep x (Nat.lt_of_lt_of_le hx h.step.size) hne).trans k1,(Γ.put_other hne).trans k2⟩
    le:=hle } }⟩
theorem qvO (x:Option Addr) (n c:Nat):qji (.slice x n c) 0 = some (.slice x n c):=rfl
theorem qtL {g:FuncId} {e:TypeId} {f:List Str→List Str} {R:Option Addr→Nat→Nat→Value} (hI:InPl P g e (fun s => Value.string ⟨s.toArray⟩) f R) (he:P.cellsOf e = 1) {ops:Array Oper} {rest:List Nat} {o1 o2:Oper} {n t d1 d2 ts:Nat} {l:List Str} {tys:Array TypeId}
  (hla:l.length ≤ qdH) (ho1:ops[0]? = some o1) (ho2:ops[1]? = some o2)
  (h1:o1.op = .move (.tmp t)) (h1d:o1.dst = some d1) (h1g:o1.guard = none) (h2:o2.op = .call { callee := .value (.func g),args := #[.tmp d1],argTypes:=tys }) (h2d:o2.dst = some d2) (h2g:o2.guard = none)
  (hn:t < n∧d1 < n∧d2 < n∧t ≠ d1∧t ≠ d2∧d1 ≠ d2) (hts:(ts = t∧(f l).length = l.length)∨(ts = d2∧∀ x k c,R x k c = .slice x k c))
  {E:Ent} {a:Act} {w:World} {Q:Exit→Act→World→Prop} (hE:EGood GE 0 E) (hR:Rel P E [] (own1 n t l e) a w)
  (hfin:∀ a' w',a'.defers = a.defers→(∃ Γ' ow',SR P E Γ' [] ow' w' a'.tmps (own1 n ts (f l) e))→wpOps P ops Q rest a' w'):wpOps P ops Q (0 :: 1 :: rest) a w:=by
 obtain ⟨n1,n2,n3,n4,n5,n6⟩:=hn
 obtain ⟨Γ,bs,ow,h,hk⟩:=hR
 have hbs:bs = []:=List.eq_nil_of_length_eq_zero h.bl
 have hsz:a.tmps.size = n:=by rw [h.sz]; simp [own1]
 obtain ⟨u,v,hu,hpv,hown,hob⟩:=h.ot t 0 e (by simp [own1])
 have hvr:=h.tm t (sl cS l) u (by simp [own1,n1]) hu
 have hu0:a.eval (.tmp t) = u:=qiQ hu
 rw [wpOps_cons]
 unfold wpOp
 rw [ho1]
 simp only
 rw [if_pos (by simp [Region.wanted,h1g])]
 refine .inl ?_
 unfold Oper.wp
 rw [show (execOp a.eval o1).run P w = .ok (.value u) w by simp [execOp,h1,hu0],Oper.upon_value]
 rw [wpOps_cons]
 unfold wpOp
 rw [ho2]
 simp only
 rw [if_pos (by simp [Region.wanted,h2g])]
 refine .inl ?_
 unfold Oper.wp
 have hu1:(a.put o1.dst u).eval (.tmp d1) = u:=by
  refine qiQ ?_
  rw [h1d]
  show (a.tmps.setIfInBounds d1 u)[d1]? = some u
  simp [hsz,n2]
 rw [show (execOp (a.put o1.dst u).eval o2).run P w = .ok (.enter g #[u]) w by
  simp only [execOp,h2]
  simp [resolve,Act.eval,Deferred.ofValue,invoke,hI.call]
  have hu2:(a.put o1.dst u).tmps.getD d1 undef = u:=hu1
  rw [Array.getD_eq_getD_getElem?] at hu2
  exact hu2,Oper.upon_enter]
 have hget:∀ r:Value,(((a.put o1.dst u).put o2.dst r).tmps)[t]? = some u∧(((a.put o1.dst u).put o2.dst r).tmps)[d2]? = some r∧(((a.put o1.dst u).put o2.dst r).tmps).size = n:=by
  intro r
  rw [h1d,h2d]
  show ((a.tmps.setIfInBounds d1 u).setIfInBounds d2 r)[t]? = some u∧((a.tmps.setIfInBounds d1 u).setIfInBounds d2 r)[d2]? = some r∧((a.tmps.setIfInBounds d1 u).setIfInBounds d2 r).size = n
  refine ⟨?_,?_,by simp [hsz]⟩
  ·rw [Array.getElem?_setIfInBounds_ne n5.symm,Array.getElem?_setIfInBounds_ne n4.symm]; exact hu
  ·rw [Array.getElem?_setIfInBounds_self_of_lt (by simp [hsz,n3])]
 have hdef:∀ r:Value,((a.put o1.dst u).put o2.dst r).defers = a.defers:=fun r => (qby _ _ _).trans (qby _ _ _)
 have fin:∀ (r:Value) (w':World),(∃ Γ' ow',SR P E Γ' [] ow' w' ((a.put o1.dst u).put o2.dst r).tmps (own1 n ts (f l) e))→wpOps P ops Q rest ((a.put o1.dst u).put o2.dst r) w' :=
  fun r w' hS => hfin _ _ (hdef r) hS
 have hlt:ts < n:=by rcases hts with ⟨rfl,_⟩ | ⟨rfl,_⟩ <;> assumption
 unfold sl at hvr
 generalize hes:l.map cS = es at hvr
 cases hvr with
 | sliceNil =>
  have hl:l = []:=by cases l with
   | nil => rfl
   | cons x l => simp at hes
  subst hl
  refine (hI.none w).2.mono fun r w' hr => ?_
  obtain ⟨rfl,rfl⟩:=hr
  refine fin _ _ (qvE h hE hbs he (t:=t) (hget _).2.2 hlt (v := .slice none 0 0) ?_ rfl rfl rfl (Nat.le_refl _) (.inl ⟨rfl,(hI.none w').1,rfl⟩))
  rcases hts with ⟨rfl,_⟩ | ⟨rfl,hR⟩
  ·exact (hget _).1
  ·rw [(hget _).2.1,hR]
 | sliceE x cap =>
  have hl:l = []:=by cases l with
   | nil => rfl
   | cons x l => simp at hes
  subst hl
  rw [qvO] at hpv
  cases hpv
  obtain ⟨k,xs,⟨hx1,hx2⟩,hx3⟩:=hown
  rcases hx2 with ⟨hx2,_⟩ | ⟨g',cap',cur,hx2,_,hheap,hkc,hcm,hcs,htake⟩
  ·cases hx2
  ·cases hx2
   rw [he,Nat.mul_one] at hcs
   have hcall:=hI.row w g' cap cur [] hheap hcs (Nat.zero_le _) hcm hla (by simp)
   refine hcall.mono fun r w' hr => ?_
   obtain ⟨rfl,q1,q2,q3,q4,q5,q6,cur',q7,q8,q9⟩:=hr
   refine fin _ _ (qvE h hE hbs he (t:=t) (hget _).2.2 hlt (v := .slice (some ⟨g',0,none⟩) (f []).length cap) ?_ q2 q3 q4 q5 (.inr ⟨g',cap,cur',rfl,hob g' rfl,q1,hcm,q6,q7,q8,q9⟩))
   rcases hts with ⟨rfl,hfl⟩ | ⟨rfl,hR⟩
   ·rw [(hget _).1,hfl]; rfl
   ·rw [(hget _).2.1,hR]
 | slice _ b off cap m sz vals hz0 hcap hg hm hszs hc hv =>
  rw [qvO] at hpv
  cases hpv
  obtain ⟨k,xs,⟨hx1,hx2⟩,hx3⟩:=hown
  rcases hx2 with ⟨hx2,_⟩ | ⟨g',cap',cur,hx2,_,hheap,hkc,hcm,hcs,htake⟩
  ·cases hx2
  ·cases hx2
   rw [he,Nat.mul_one] at hcs htake
   have hlen:es.length = l.length:=by rw [← hes]; simp
   have hrow:cur.toList.take l.length = l.map fun s => Value.string ⟨s.toArray⟩:=by
    refine List.ext_getElem? fun i => ?_
    by_cases hi:i < l.length
    ·rw [List.getElem?_take_of_lt hi]
     simp only [Array.getElem?_toList,List.getElem?_map,List.getElem?_eq_getElem hi,Option.map_some]
     have hx:es[i]? = some (cS l[i]):=by rw [← hes]; simp [hi]
     have hs1:sz = 1:=by have:=hszs i _ hx; simp [cS] at this; exact this.symm
     subst hs1
     have e1:=hc i _ 0 (.str l[i]) hx rfl
     have e2:=hv i _ 0 (.str l[i]) hx rfl
     rw [show 0 + i * 1 + 0 = i by omega,cell_of_row w b i cur e _ hheap] at e1
     rw [e1]
     generalize vals i 0 = q at e2
     cases e2
     rfl
    ·rw [List.getElem?_eq_none (by simp; omega),List.getElem?_eq_none (by simp; omega)]
   have hcall:=hI.row w b cap cur l hheap hcs (by omega) hcm hla hrow
   rw [← hlen] at hcall
   refine hcall.mono fun r w' hr => ?_
   obtain ⟨rfl,q1,q2,q3,q4,q5,q6,cur',q7,q8,q9⟩:=hr
   refine fin _ _ (qvE h hE hbs he (t:=t) (hget _).2.2 hlt (v := .slice (some ⟨b,0,none⟩) (f l).length cap) ?_ q2 q3 q4 q5 (.inr ⟨b,cap,cur',rfl,hob b rfl,q1,hcm,q6,q7,q8,q9⟩))
   rcases hts with ⟨rfl,hfl⟩ | ⟨rfl,hR⟩
   ·rw [(hget _).1,hfl,hlen]
   ·rw [(hget _).2.1,hR]
section
variable {g:FuncId} {e:TypeId} {f:List Str→List Str} {R:Option Addr→Nat→Nat→Value} {id:Nat} {o1 o2 o3:Oper} {n t d1 d2 d3 ts:Nat} {l:List Str} {tys:Array TypeId}
theorem Sat.inplace (hI:InPl P g e (fun s => Value.string ⟨s.toArray⟩) f R) (he:P.cellsOf e = 1) (hla:l.length ≤ qdH)
  (h1:o1.op = .move (.tmp t)) (h1d:o1.dst = some d1) (h1g:o1.guard = none) (h2:o2.op = .call { callee := .value (.func g),args := #[.tmp d1],argTypes:=tys }) (h2d:o2.dst = some d2) (h2g:o2.guard = none)
  (hn:t < n∧d1 < n∧d2 < n∧t ≠ d1∧t ≠ d2∧d1 ≠ d2) (hts:(ts = t∧(f l).length = l.length)∨(ts = d2∧∀ x k c,R x k c = .slice x k c)) :
  Sat P GE 0 (.region id #[o1,o2] false) (EX .normal (own1 n ts (f l) e)) (own1 n t l e):=by
 intro ro E bs0 a w hE hb hR
 have hb0:bs0 = []:=List.eq_nil_of_length_eq_zero hb
 subst hb0
 refine qsO (by simp [qd7,h1,h2]) (by rintro ⟨_,_,_,_,_,h,_⟩; cases h) ?_
 show wpOps P #[o1,o2] _ [0,1] a w
 refine qtL (ts:=ts) hI he hla rfl rfl h1 h1d h1g h2 h2d h2g hn hts hE hR fun a' w' hd hS => ?_
 obtain ⟨Γ',ow',hS⟩:=hS
 exact ⟨hd,_,⟨Γ',[],ow',hS,fun i hi => absurd hi (Nat.not_lt_zero _)⟩,rfl,rfl⟩
theorem Sat.inplace3 (hI:InPl P g e (fun s => Value.string ⟨s.toArray⟩) f R) (he:P.cellsOf e = 1) (hla:l.length ≤ qdH)
  (h1:o1.op = .move (.tmp t)) (h1d:o1.dst = some d1) (h1g:o1.guard = none) (h2:o2.op = .call { callee := .value (.func g),args := #[.tmp d1],argTypes:=tys }) (h2d:o2.dst = some d2) (h2g:o2.guard = none)
  (hn:t < n∧d1 < n∧d2 < n∧t ≠ d1∧t ≠ d2∧d1 ≠ d2) (hR':∀ x k c,R x k c = .slice x k c) (h3:o3.op = .assign (.tmp d2)) (h3d:o3.dst = some d3) (h3g:o3.guard = none) (hn3:d3 < n) (hdd:d3 ≠ d2) :
  Sat P GE 0 (.region id #[o1,o2,o3] false) (EX .normal (own1 n d3 (f l) e)) (own1 n t l e):=by
 intro ro E bs0 a w hE hb hR
 have hb0:bs0 = []:=List.eq_nil_of_length_eq_zero hb
 subst hb0
 refine qsO (by simp [qd7,h1,h2,h3]) (by rintro ⟨_,_,_,_,_,h,_⟩; cases h) ?_
 show wpOps P #[o1,o2,o3] _ [0,1,2] a w
 refine qtL (ts:=d2) hI he hla rfl rfl h1 h1d h1g h2 h2d h2g hn (.inr ⟨rfl,hR'⟩) hE hR fun a' w' hd hS => ?_
 obtain ⟨Γ',ow',hS⟩:=hS
 rw [wpOps_cons]
 unfold wpOp
 rw [show (#[o1,o2,o3]:Array Oper)[2]? = some o3 from rfl]
 simp only
 rw [if_pos (by simp [Region.wanted,h3g])]
 refine .inl ?_
 refine Oper.wp_mono (fun a2 w2 hA => ?_) (qoR (id:=0) (bs:=[]) (K:=fun st => Weak P 0 st (own1 n d3 (f l) e)) hS (.inl h3) h3d (by simpa [own1] using hn3) ?_ _)
 ·obtain ⟨hd2,Γ2,bs2,ow2,st2,hS2,hW,hbs2⟩:=hA
  have:bs2 = []:=by
   rcases hbs2 with rfl | ⟨hm,_⟩
   ·rfl
   ·simp [h3,qak] at hm
  subst this
  have hrel:=hW E [] a2 w2 rfl ⟨Γ2,[],ow2,hS2,fun i hi => absurd hi (Nat.not_lt_zero _)⟩
  exact ⟨hd2.trans hd,_,hrel,rfl,rfl⟩
 ·have hg:(own1 n d2 (f l) e).tmps.getD d2 .undef = sl cS (f l):=by
   simp [own1,List.getD_eq_getElem?_getD,hn.2.2.1]
  rw [hg]
  refine Weak.trans (Weak.forget (own1 n d3 (f l) e).tmps [] [((d3,0),e)] ?_) ?_
  ·intro x hx
   simp at hx
   subst hx
   simp [own1,qgr,qbB,Ne.symm hdd]
  ·have hfg:fgT ((own1 n d2 (f l) e).tmps.set d3 (sl cS (f l))) (own1 n d3 (f l) e).tmps = (own1 n d3 (f l) e).tmps:=by
    refine qGZ (by simp [own1]) fun i q hq => ?_
    rcases qyy hq with rfl | ⟨rfl,rfl⟩
    ·exact .inl rfl
    ·exact .inr (by simp [own1,hn3])
   show Weak P 0 ⟨fgT ((own1 n d2 (f l) e).tmps.set d3 (sl cS (f l))) (own1 n d3 (f l) e).tmps,fgB [] [],_⟩ _
   rw [hfg]
   exact .refl _
end
end
open Go Go.RowKit Go.WideShapes Go.ChangeShapes Go.ChangeAt
def allG (W:World):qaP:=fun b => match W.heap[b]? with
  | some (.cells c _ _) => some c.size
  | _ => none
theorem qz5 {W:World} {b:Nat} {c:Array Value} {t:TypeId} {fr:Nat×Nat} (h:W.heap[b]? = some (.cells c t fr)):allG W b = some c.size:=by unfold allG; rw [h]
def GOk (W:World) (x:Nat×List PVal):Prop:=clL 0 x.2∧∃ c t fr,W.heap[x.1]? = some (.cells c t fr)∧c.size = x.2.length∧∀ (i:Nat) p v,x.2[i]? = some p→c[i]? = some v→VR (allG W) [] W p v
section
variable {P:Program} {GE:List (Nat×List PVal)}
theorem qBl {k:FuncId} {pargs:List PVal} {args:Array Value} {W:World} {b:Bool} (hC:C P GE k pargs [] [] (.bool b) [] []) (hl:args.size = pargs.length)
    (hv:∀ (i:Nat) p v,pargs[i]? = some p→args[i]? = some v→VR (allG W) [] W p v) (hG:∀ x ∈ GE,GOk W x):Calls P k args W fun e W' => e = .returned (.bool b)∧Below W.heap.size W W':=by
  have hS:SR P ⟨GE,allG W,W,qbb [] fun _ => none⟩ (allG W) [] (fun _ => none) W args ⟨pargs,[],[]⟩:={
    wi:=fun b n hb => by
      unfold allG at hb
      split at hb
      · rename_i c t fr hh; cases hb; exact ⟨c,t,fr,hh,Nat.le_refl _⟩
      · cases hb
    sz:=hl
    tm:=hv
    bl:=rfl
    bx:=fun i b B hi => by simp at hi
    inj:=fun i j b hi => by simp at hi
    bn:=fun i b hi => by simp at hi
    on:=fun b L hL => by cases hL
    ot:=fun t k e he => by simp at he
    ob:=fun i j e cs own b hB => by simp at hB
    gl:=fun g cs hg => by
      obtain ⟨_,c,t,fr,h1,h2,h3⟩:=hG _ hg
      refine .eptr cs g 0 c.size (fun k => c.getD k undef) (qz5 h1) (by simp only at h2; omega) (fun k p hp => ?_) (fun k p hp => ?_)
      · have hk:k < c.size:=by have:=qae hp; simp only at h2; omega
        rw [Nat.zero_add,cell_of_row W g k c t fr h1]
        simp [Array.getD_eq_getD_getElem?,hk]
      · have hk:k < c.size:=by have:=qae hp; simp only at h2; omega
        exact h3 k p _ hp (by simp [Array.getD_eq_getD_getElem?,hk])
    gc:=fun g cs hg => (hG _ hg).1
    gx:=fun g cs hg => by
      obtain ⟨_,c,t,fr,h1,h2,_⟩:=hG _ hg
      refine ⟨(Array.getElem?_eq_some_iff.1 h1).1,fun hT => ?_,c,t,fr,h1,h2⟩
      rcases hT with ⟨i,hi⟩ | hT
      · simp at hi
      · exact hT rfl
    step := .refl _ _ _ _ }
  refine (hC.2 (allG W) [] (fun _ => none) W args hS).mono fun e W' he => ?_
  obtain ⟨v,Γ',ow',rfl,hS'⟩:=he
  have hv':=hS'.tm 0 (.bool b) v rfl rfl
  cases hv'
  refine ⟨rfl,hS'.step.os,hS'.step.tape,hS'.step.output,hS'.step.size,fun k hk => (hS'.step.keep k hk fun hT => ?_).1⟩
  rcases hT with ⟨i,hi⟩ | hT
  · simp at hi
  · exact hT rfl
end
section
variable {H:Type} {enc:TypeId×Value→H} {P:Program} {w:World} {base:Nat} {spare:Nat→Bool} {held:Bool} {t:TypeId} {fuel:Nat}
theorem qyT {f:Func} {s:ChangeSpec} {apart fresh handsOn again:Bool} {W W':World} {args:Array Value} {v:Value} {ds gs:List (DataW H)} {before pa pv:List MemPlace}
    (hW:DataW.Whole enc P f.params.toList s.vars apart W args.toList ds gs before)
    (hres:∀ (b:Nat) (sp:Nat→Bool) (hd:Bool),DataW.TrodAll enc P W' b sp hd f.resultTypes.toList (v.resultList f.resultTypes.size) (s.fn H (ds ++ gs)).results [])
    (hargs:∀ sp:Nat→Bool,(∀ p ∈ before,sp p.block = true)→DataW.TrodAll enc P W' 0 sp true f.params.toList args.toList (s.fn H (ds ++ gs)).args pa)
    (hvars:∀ sp:Nat→Bool,(∀ p ∈ before,sp p.block = true)→DataW.TrodVars enc P W' sp s.vars (s.fn H (ds ++ gs)).vars pv)
    (hps:before = pa ++ pv) (hb:Below W.heap.size W W')
    (hok:∀ (j:Nat) (t:TypeId) (r:Value),f.resultTypes[j]? = some t→(v.resultList f.resultTypes.size)[j]? = some r→Value.okWide P W' .any 0 t r) :
    s.post enc P f apart fresh handsOn again W args v W':=by
  have hlt:∀ p ∈ before,p.block < W.heap.size:=fun p hp => hW.lt p hp
  have hold:∀ p ∈ before,(fun b => decide (b < W.heap.size)) p.block = true:=fun p hp => by simpa using hlt p hp
  refine ⟨ds,gs,before,[],pa,pv,hW,hres _ _ _,hargs _ hold,hvars _ hold,World.keptBut_mono (fun p hp => ⟨hp,?_⟩) (hb.frame (· ∈ before)),fun _ => ?_⟩
  · rw [hps,List.mem_append] at hp
    exact Or.inr hp
  · obtain ⟨_,_,_,_,_,hz,hn⟩:=hW
    refine ⟨hok,_,_,([] ++ pa) ++ pv,⟨[] ++ pa,pv,trodAll_append (hargs _ (fun _ _ => rfl)) (hres _ _ _),hvars _ (fun _ _ => rfl),rfl,?_,?_⟩,?_⟩
    · intro b off hp
      have hin:MemPlace.cell b off ∈ before:=by rw [hps]; simpa using hp
      rw [hb.frozen (hlt _ hin)]
      exact hz b off hin
    · intro ha
      have:=hn ha
      rw [hps] at this
      simpa using this
    · intro p hp _
      rw [hps]
      simpa using hp
theorem qAI (hl:laidOutB P = true) {W W':World} (hb:Below W.heap.size W W') {sp:Nat→Bool}:∀ {ts:List TypeId} {vs:List Value} {ds:List (DataW H)} {ps:List MemPlace},(∀ t ∈ ts,P.readableRec t = true∧t < P.types.size) →
    DataW.TrodAll enc P W 0 (fun _ => true) true ts vs ds ps→(∀ p ∈ ps,p.block < W.heap.size)→(∀ p ∈ ps,sp p.block = true)→DataW.TrodAll enc P W' 0 sp true ts vs ds ps
  | [],[],[],_,_,h,_,_ => h
  | t :: _,_ :: _,_ :: _,_,ht,⟨p,q,h1,h2,e⟩,hlt,hs =>
    ⟨p,q,WideElems.Trod_stays hl (ht t (by simp)).1 (ht t (by simp)).2 h1 (fun x hx => hb.same (hlt x (by rw [e]; exact List.mem_append_left _ hx))) (fun x hx => hs x (by rw [e]; exact List.mem_append_left _ hx)),
      qAI hl hb (fun t ht' => ht t (by simp [ht'])) h2 (fun x hx => hlt x (by rw [e]; exact List.mem_append_right _ hx)) (fun x hx => hs x (by rw [e]; exact List.mem_append_right _ hx)),e⟩
theorem qFP {f:Func} {s:ChangeSpec} {W W':World} {args:Array Value} {ds gs:List (DataW H)} {before:List MemPlace} (hl:laidOutB P = true) (hr:f.resultTypes = #[t]) (hbt:P.underlying t = some .bool) (hsv:s.vars = [])
    (hfn:(s.fn H (ds ++ gs)).results = [.lit (.bool true)]∧(s.fn H (ds ++ gs)).args = ds∧(s.fn H (ds ++ gs)).vars = []) (hts:∀ t ∈ f.params.toList,P.readableRec t = true∧t < P.types.size)
    (hW:DataW.Whole enc P f.params.toList s.vars false W args.toList ds gs before) (hb:Below W.heap.size W W'):s.post enc P f false true false false W args (.bool true) W':=by
  have hW':=hW
  obtain ⟨p,q,hA,hV,rfl,_,_⟩:=hW
  rw [hsv] at hV
  obtain ⟨rfl,rfl⟩:=trodVars_none hV
  have hlt:∀ x ∈ p,x.block < W.heap.size:=fun x hx => hW'.lt x (by simpa using hx)
  refine qyT (pa:=p) (pv:=[]) hW' (fun b sp hd => ?_) (fun sp hs => ?_) (fun sp _ => ?_) rfl hb (fun j t' r hj hv => ?_)
  · rw [hr,hfn.1]
    exact trodAll_cons_mk (shut_bool hbt _) trodAll_mk0
  · rw [hfn.2.1]
    exact qAI hl hb hts hA hlt (fun x hx => hs x (by simpa using hx))
  · rw [hsv,hfn.2.2]; rfl
  · exact ok_one hr rfl (okWide_bool_mk hbt _) j t' r hj hv
theorem qBM (a:Addr) (i:Nat) (h:a.spot = none):a.add i = ⟨a.block,a.off + i,none⟩:=by
  obtain ⟨b,o,sp⟩:=a
  simp only at h
  subst h
  unfold Addr.add
  split
  · rename_i hi; subst hi; rfl
  · rfl
end
section
variable {P:Program} {W:World}
theorem qB3:∀ {laid:List (String×DataW Unit)} {ps:List MemPlace} {name:String} {d:DataW Unit},DataW.LaidVars P W laid ps→(name,d) ∈ laid →
  ∃ g t cs fuel p,P.globalNamed name = some g∧(P.globals[g]?).map (·.type) = some t∧W.var? P name = some cs∧DataW.trod (fun _ => ()) P W 0 (fun _ => true) false fuel t cs.toList = some (d,p)
 | [],_,_,_,_,hm => by cases hm
 | (n,d') :: r,ps,name,d,⟨g,t,cs,fuel,p,q,h1,h2,h3,h4,h5,_⟩,hm => by
  cases hm with
  | head => exact ⟨g,t,cs,fuel,p,h1,h2,h3,h4⟩
  | tail _ hm => exact qB3 h5 hm
theorem qFW {name:String} {g:Nat} {cs:Array Value} (hg:P.globalNamed name = some g) (h:W.var? P name = some cs):∃ t fr,W.heap[g]? = some (.cells cs t fr):=by
 unfold World.var? at h
 rw [hg] at h
 simp only [Option.bind_some] at h
 split at h
 ·rename_i c t fr hh
  cases h
  exact ⟨t,fr,hh⟩
 ·cases h
theorem qIq {x:Nat} {pv:List PVal} {cs:Array Value} {t:TypeId} {fr:Nat×Nat} (hh:W.heap[x]? = some (.cells cs t fr)) (hcl:clL 0 pv) (hs:cs.size = pv.length) (hv:∀ (i:Nat) p v,pv[i]? = some p→cs[i]? = some v→VR (allG W) [] W p v):GOk W (x,pv) :=
 ⟨hcl,cs,t,fr,hh,hs,hv⟩
theorem qyv {laid:List (String×DataW Unit)} {name:String} {d:DataW Unit} {g:Nat} {t e:TypeId} {n:Nat} {k:IntKind} {zs:List Int} (hL:laidMet P laid W) (hm:(name,d) ∈ laid) (hd:d = Lib.tabData k zs)
  (hg:P.globalNamed name = some g) (hty:(P.globals[g]?).map (·.type) = some t) (ht:P.underlying t = some (.array n e)) (he:P.underlying e = some (.int k)) (hce:P.cellsOf e = 1) (hct:P.cellsOf t = n):GOk W (g,zs.map (PVal.int k)):=by
 obtain ⟨ps,hV,_⟩:=hL
 obtain ⟨g',t',cs,fuel,p,h1,h2,h3,h4⟩:=qB3 hV hm
 obtain rfl:=Option.some.inj (hg.symm.trans h1)
 obtain rfl:=Option.some.inj (hty.symm.trans h2)
 subst hd
 have hc:=Lib.cells_of_tab ht he hce hct h4
 obtain ⟨ty,fr,hh⟩:=qFW hg h3
 refine qIq hh (qGM fun q hq => ?_) (by simpa using congrArg List.length hc) (fun i q v hq hv => ?_)
 ·obtain ⟨z,_,rfl⟩:=List.mem_map.1 hq
  simp [PVal.cl]
 ·rw [← Array.getElem?_toList,hc] at hv
  simp only [List.getElem?_map,Option.map_eq_some_iff] at hq hv
  obtain ⟨z,hz,rfl⟩:=hq
  obtain ⟨z',hz',rfl⟩:=hv
  cases hz.symm.trans hz'
  exact .int _ _
end
def qIR (w:World) (l:List (Nat×Array Value)):World:={ w with heap:=l.foldl (fun h x => h.modify x.1 fun | .cells _ t fr => .cells x.2 t fr | o => o) w.heap }
def vof:PVal→Value
 | .int k n => .int k n
 | .str s => .string ⟨s.toArray⟩
 | .bool b => .bool b
 | _ => undef
def qIy (l:List (Nat×List PVal)):List (Nat×Array Value):=l.map fun x => (x.1,(x.2.map vof).toArray)
end Go.Proofs.YtgldgpdhblndkaaGreatDoor
