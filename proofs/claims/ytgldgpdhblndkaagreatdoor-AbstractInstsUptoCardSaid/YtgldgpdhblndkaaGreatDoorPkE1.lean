/- WHAT IS PROVED: parts of the proof, put together by a program (AbsA AbsB AbsC). Conditions: none. -/
import Derived.WalkKit
import Derived.ProofKit
noncomputable section
namespace Go.Proofs.YtgldgpdhblndkaaGreatDoor
open Go
inductive PVal where
 | undef
 | int (k:IntKind) (n:Int)
 | bool (b:Bool)
 | str (s:List UInt8)
 | val (v:Value)
 | agg (cs:List PVal)
 | tuple (vs:List PVal)
 | slice (es:List (List PVal))
 | eptr (cs:List PVal)
 | bptr (i off:Nat)
 | bsl (i off n:Nat)
 | mapr (i:Nat)
 | func (fn:Fn) (first cap:List PVal)
 deriving Inhabited
abbrev qaP:=Nat→Option Nat
abbrev qbj:=List (Option Nat)
inductive VR (Γ:qaP) (bs:qbj) (w:World):PVal→Value→Prop where
 | undef (v:Value):VR Γ bs w .undef v
 | int (k:IntKind) (n:Int):VR Γ bs w (.int k n) (.int k n)
 | bool (b:Bool):VR Γ bs w (.bool b) (.bool b)
 | str (l:List UInt8):VR Γ bs w (.str l) (.string ⟨l.toArray⟩)
 | val (v:Value):VR Γ bs w (.val v) v
 | agg (cs:List PVal) (vs:Array Value) (hl:vs.size = cs.length)
   (h:∀ (i:Nat) p v,cs[i]? = some p→vs[i]? = some v→VR Γ bs w p v):VR Γ bs w (.agg cs) (.agg vs)
 | tuple (cs:List PVal) (vs:Array Value) (hl:vs.size = cs.length)
   (h:∀ (i:Nat) p v,cs[i]? = some p→vs[i]? = some v→VR Γ bs w p v):VR Γ bs w (.tuple cs) (.tuple vs)
 | sliceNil:VR Γ bs w (.slice []) (.slice none 0 0)
 | sliceE (a:Addr) (cap:Nat):VR Γ bs w (.slice []) (.slice (some a) 0 cap)
 | slice (es:List (List PVal)) (b off cap n sz:Nat) (vals:Nat→Nat→Value) (h0:0 < sz) (hcap:es.length ≤ cap) (hg:Γ b = some n)
   (hn:off + es.length * sz ≤ n) (hsz:∀ (i:Nat) e,es[i]? = some e→e.length = sz)
   (hc:∀ (i:Nat) e (k:Nat) p,es[i]? = some e→e[k]? = some p→w.cell? ⟨b,off + i * sz + k,none⟩ = some (vals i k))
   (hv:∀ (i:Nat) e (k:Nat) p,es[i]? = some e→e[k]? = some p→VR Γ bs w p (vals i k)) :
   VR Γ bs w (.slice es) (.slice (some ⟨b,off,none⟩) es.length cap)
 | eptrE (b off:Nat):VR Γ bs w (.eptr []) (.pointer (some ⟨b,off,none⟩))
 | eptr (cs:List PVal) (b off n:Nat) (vals:Nat→Value) (hg:Γ b = some n) (hn:off + cs.length ≤ n)
   (hc:∀ (k:Nat) p,cs[k]? = some p→w.cell? ⟨b,off + k,none⟩ = some (vals k))
   (hv:∀ (k:Nat) p,cs[k]? = some p→VR Γ bs w p (vals k)) :
   VR Γ bs w (.eptr cs) (.pointer (some ⟨b,off,none⟩))
 | bptr (i off b:Nat) (h:bs[i]? = some (some b)):VR Γ bs w (.bptr i off) (.pointer (some ⟨b,off,none⟩))
 | bsl (i off n:Nat) (x:Option Addr) (cap:Nat) (hcap:n ≤ cap) (hnil:x = none→cap = 0) (h:n = 0∨∃ b,x = some ⟨b,off,none⟩∧bs[i]? = some (some b)):VR Γ bs w (.bsl i off n) (.slice x n cap)
 | mapr (i b:Nat) (h:bs[i]? = some (some b)):VR Γ bs w (.mapr i) (.map (some b))
 | func (fn:Fn) (first cap:List PVal) (fs cs:Array Value) (hl:fs.size = first.length) (hl':cs.size = cap.length)
   (h:∀ (i:Nat) p v,first[i]? = some p→fs[i]? = some v→VR Γ bs w p v)
   (h':∀ (i:Nat) p v,cap[i]? = some p→cs[i]? = some v→VR Γ bs w p v):VR Γ bs w (.func fn first cap) (.func fn fs cs)
def qaP.Le (Γ:qaP) (w:World) (Γ':qaP) (w':World):Prop :=
 ∀ b n,Γ b = some n→0 < n→∃ n',Γ' b = some n'∧n ≤ n'∧∀ o,o < n→w'.cell? ⟨b,o,none⟩ = w.cell? ⟨b,o,none⟩
theorem qaP.Le.refl (Γ:qaP) (w:World):Γ.Le w Γ w:=fun _ n h _ => ⟨n,h,Nat.le_refl _,fun _ _ => rfl⟩
theorem qaP.Le.trans {Γ Γ' Γ'':qaP} {w w' w'':World} (h:Γ.Le w Γ' w') (h':Γ'.Le w' Γ'' w''):Γ.Le w Γ'' w'':=by
 intro b n hb hp
 obtain ⟨n',h1,h2,h3⟩:=h b n hb hp
 obtain ⟨n'',h4,h5,h6⟩:=h' b n' h1 (by omega)
 exact ⟨n'',h4,by omega,fun o ho => (h6 o (by omega)).trans (h3 o ho)⟩
def qbj.Sub (bs bs':qbj):Prop := ∀ (i b:Nat),bs[i]? = some (some b)→bs'[i]? = some (some b)
theorem qbj.Sub.refl (bs:qbj):bs.Sub bs:=fun _ _ h => h
theorem qCa {i k L sz:Nat} (hi:i < L) (hk:k < sz):i * sz + k < L * sz:=by
 have h:(i + 1) * sz ≤ L * sz:=Nat.mul_le_mul_right sz hi
 rw [Nat.add_mul,Nat.one_mul] at h
 omega
theorem qae {α:Type} {l:List α} {i:Nat} {x:α} (h:l[i]? = some x):i < l.length:=(List.getElem?_eq_some_iff.1 h).1
theorem VR.mono {Γ Γ':qaP} {bs bs':qbj} {w w':World} {p:PVal} {v:Value} (h:VR Γ bs w p v) (hle:Γ.Le w Γ' w') (hb:bs.Sub bs'):VR Γ' bs' w' p v:=by
 induction h with
 | undef v => exact .undef v
 | int k n => exact .int k n
 | bool b => exact .bool b
 | str l => exact .str l
 | val v => exact .val v
 | agg cs vs hl _ ih => exact .agg cs vs hl ih
 | tuple cs vs hl _ ih => exact .tuple cs vs hl ih
 | sliceNil => exact .sliceNil
 | sliceE a cap => exact .sliceE a cap
 | slice es b off cap n sz vals h0 hcap hg hn hsz hc _ ih =>
  cases es with
  | nil => exact .sliceE _ _
  | cons e0 es =>
  have hpos:0 < (e0 :: es).length * sz:=Nat.mul_pos (by simp) h0
  obtain ⟨n',h1,h2,h3⟩:=hle b n hg (by omega)
  refine .slice _ b off cap n' sz vals h0 hcap h1 (by omega) hsz (fun i e k p he hp => ?_) ih
  rw [h3 _ _]
  ·exact hc i e k p he hp
  ·have:=qCa (qae he) (show k < sz by have:=qae hp; rw [hsz i e he] at this; exact this)
   omega
 | eptrE b off => exact .eptrE b off
 | bsl i off n x cap hcap hnil h => exact .bsl i off n x cap hcap hnil (h.imp_right fun ⟨b,h1,h2⟩ => ⟨b,h1,hb i b h2⟩)
 | eptr cs b off n vals hg hn hc _ ih =>
  cases cs with
  | nil => exact .eptrE _ _
  | cons c0 cs =>
  obtain ⟨n',h1,h2,h3⟩:=hle b n hg (by simp at hn; omega)
  refine .eptr _ b off n' vals h1 (by omega) (fun k p hp => ?_) ih
  rw [h3 _ (by have:=qae hp; omega)]
  exact hc k p hp
 | bptr i off b h => exact .bptr i off b (hb i b h)
 | mapr i b h => exact .mapr i b (hb i b h)
 | func fn first cap fs cs hl hl' _ _ ih ih' => exact .func fn first cap fs cs hl hl' ih ih'
mutual
def PVal.cl (n:Nat):PVal→Prop
 | .undef | .int _ _ | .bool _ | .str _ | .val _ => True
 | .agg cs => clL n cs
 | .tuple cs => clL n cs
 | .slice es => clLL n es
 | .eptr cs => clL n cs
 | .bptr i _ => i < n
 | .bsl i _ _ => i < n
 | .mapr i => i < n
 | .func _ f c => clL n f∧clL n c
def clL (n:Nat):List PVal→Prop
 | [] => True
 | p :: ps => p.cl n∧clL n ps
def clLL (n:Nat):List (List PVal)→Prop
 | [] => True
 | p :: ps => clL n p∧clLL n ps
end
theorem qkj {n:Nat}:∀ {l:List PVal} {i:Nat} {p:PVal},clL n l→l[i]? = some p→p.cl n
 | [],i,p,_,h => by simp at h
 | q :: l,0,p,h,hp => by simp at hp; subst hp; simp only [clL] at h; exact h.1
 | q :: l,i + 1,p,h,hp => by simp only [clL] at h; exact qkj h.2 (by simpa using hp)
theorem qCd {n:Nat}:∀ {l:List (List PVal)} {i:Nat} {p:List PVal},clLL n l→l[i]? = some p→clL n p
 | [],i,p,_,h => by simp at h
 | q :: l,0,p,h,hp => by simp at hp; subst hp; simp only [clLL] at h; exact h.1
 | q :: l,i + 1,p,h,hp => by simp only [clLL] at h; exact qCd h.2 (by simpa using hp)
theorem qGM {n:Nat}:∀ {l:List PVal},(∀ p ∈ l,p.cl n)→clL n l
 | [],_ => by simp [clL]
 | p :: l,h => by simp only [clL]; exact ⟨h p (by simp),qGM fun q hq => h q (by simp [hq])⟩
theorem qBo {n:Nat}:∀ {l:List (List PVal)},(∀ p ∈ l,clL n p)→clLL n l
 | [],_ => by simp [clLL]
 | p :: l,h => by simp only [clLL]; exact ⟨h p (by simp),qBo fun q hq => h q (by simp [hq])⟩
theorem VR.restrict {Γ:qaP} {bs bs':qbj} {w:World} {p:PVal} {v:Value} {n:Nat} (h:VR Γ bs w p v) (hc:p.cl n)
  (hb:∀ (i b:Nat),i < n→bs[i]? = some (some b)→bs'[i]? = some (some b)):VR Γ bs' w p v:=by
 induction h with
 | undef v => exact .undef v
 | int k n => exact .int k n
 | bool b => exact .bool b
 | str l => exact .str l
 | val v => exact .val v
 | agg cs vs hl _ ih => simp only [PVal.cl] at hc; exact .agg cs vs hl fun i p v hp hv => ih i p v hp hv (qkj hc hp)
 | tuple cs vs hl _ ih => simp only [PVal.cl] at hc; exact .tuple cs vs hl fun i p v hp hv => ih i p v hp hv (qkj hc hp)
 | sliceNil => exact .sliceNil
 | sliceE a cap => exact .sliceE a cap
 | slice es b off cap n sz vals h0 hcap hg hn hsz hcc _ ih =>
  simp only [PVal.cl] at hc
  exact .slice es b off cap n sz vals h0 hcap hg hn hsz hcc fun i e k p he hp => ih i e k p he hp (qkj (qCd hc he) hp)
 | eptrE b off => exact .eptrE b off
 | bsl i off k x cap hcap hnil h => simp only [PVal.cl] at hc; exact .bsl i off k x cap hcap hnil (h.imp_right fun ⟨b,h1,h2⟩ => ⟨b,h1,hb i b hc h2⟩)
 | eptr cs b off n vals hg hn hcc _ ih =>
  simp only [PVal.cl] at hc
  exact .eptr cs b off n vals hg hn hcc fun k p hp => ih k p hp (qkj hc hp)
 | bptr i off b h => simp only [PVal.cl] at hc; exact .bptr i off b (hb i b hc h)
 | mapr i b h => simp only [PVal.cl] at hc; exact .mapr i b (hb i b hc h)
 | func fn first cap fs cs hl hl' _ _ ih ih' =>
  simp only [PVal.cl] at hc
  exact .func fn first cap fs cs hl hl' (fun i p v hp hv => ih i p v hp hv (qkj hc.1 hp)) (fun i p v hp hv => ih' i p v hp hv (qkj hc.2 hp))
theorem VR.demote {Γ Γ':qaP} {bs:qbj} {w:World} {p:PVal} {v:Value} (h:VR Γ bs w p v) (hg:∀ b n,Γ b = some n→0 < n→Γ' b = some n):VR Γ' bs w p v:=by
 induction h with
 | undef v => exact .undef v
 | int k n => exact .int k n
 | bool b => exact .bool b
 | str l => exact .str l
 | val v => exact .val v
 | agg cs vs hl _ ih => exact .agg cs vs hl ih
 | tuple cs vs hl _ ih => exact .tuple cs vs hl ih
 | sliceNil => exact .sliceNil
 | sliceE a cap => exact .sliceE a cap
 | slice es b off cap n sz vals h0 hcap hgb hn hsz hc _ ih =>
  cases es with
  | nil => exact .sliceE _ _
  | cons e es =>
   have:0 < (e :: es).length * sz:=Nat.mul_pos (by simp) h0
   exact .slice _ b off cap n sz vals h0 hcap (hg b n hgb (by omega)) hn hsz hc ih
 | eptrE b off => exact .eptrE b off
 | bsl i off n x cap hcap hnil h => exact .bsl i off n x cap hcap hnil h
 | eptr cs b off n vals hgb hn hc _ ih =>
  cases cs with
  | nil => exact .eptrE _ _
  | cons c cs => exact .eptr _ b off n vals (hg b n hgb (by simp at hn; omega)) hn hc ih
 | bptr i off b h => exact .bptr i off b h
 | mapr i b h => exact .mapr i b h
 | func fn first cap fs cs hl hl' _ _ ih ih' => exact .func fn first cap fs cs hl hl' ih ih'
inductive PBox where
 | cells (cs:List PVal) (own:List (Nat×TypeId))
 | map (es:List (PVal×PVal))
 | dead
 deriving Inhabited
structure PSt where
 tmps:List PVal
 boxes:List PBox
 own:List ((Nat×Nat)×TypeId)
inductive Loc where
 | tmp (t k:Nat)
 | box (i j:Nat)
 deriving DecidableEq
structure Ent where
 GE:List (Nat×List PVal)
 Γ:qaP
 w:World
 T:Nat→Prop
def qji:Value→Nat→Option Value
 | .tuple vs,k => vs[k]?
 | .agg vs,k => vs[k]?
 | v,k => if k = 0 then some v else none
def qhY (P:Program) (Γ:qaP) (w:World) (v:Value) (e:TypeId):Prop :=
 ∃ n xs,w.ownsRow 0 e (P.cellsOf e) v n xs∧∀ b,v.ownBlock = some b→Γ b = some (n * P.cellsOf e)
def BR (Γ:qaP) (bs:qbj) (w:World):PBox→Nat→Prop
 | .cells cs _,b => ∃ c t,w.heap[b]? = some (.cells c t (0,0))∧cs.length ≤ c.size∧∀ (j:Nat) p v,cs[j]? = some p→c[j]? = some v→VR Γ bs w p v
 | .map es,b => ∃ ents clock,w.heap[b]? = some (.map ents clock)∧ents.size = es.length ∧
   ∀ (j:Nat) k u x,es[j]? = some (k,u)→ents[j]? = some x→VR Γ bs w k x.key∧VR Γ bs w u x.val
 | .dead,_ => True
structure Step (E:Ent) (Γ:qaP) (w:World):Prop where
 os:w.os = E.w.os
 tape:w.tape = E.w.tape
 output:w.output = E.w.output
 size:E.w.heap.size ≤ w.heap.size
 keep:∀ b,b < E.w.heap.size→¬ E.T b→w.heap[b]? = E.w.heap[b]?∧Γ b = E.Γ b
 le:E.Γ.Le E.w Γ w
structure SR (P:Program) (E:Ent) (Γ:qaP) (bs:qbj) (ow:Nat→Option Loc) (w:World) (a:Array Value) (st:PSt):Prop where
 wi:∀ b n,Γ b = some n→∃ c t fr,w.heap[b]? = some (.cells c t fr)∧n ≤ c.size
 sz:a.size = st.tmps.length
 tm:∀ (t:Nat) p v,st.tmps[t]? = some p→a[t]? = some v→VR Γ bs w p v
 bl:bs.length = st.boxes.length
 bx:∀ (i b:Nat) B,bs[i]? = some (some b)→st.boxes[i]? = some B→Γ b = none∧b < w.heap.size∧BR Γ bs w B b
 inj:∀ (i j b:Nat),bs[i]? = some (some b)→bs[j]? = some (some b)→i = j
 bn:∀ (i b:Nat),bs[i]? = some (some b)→E.T b∨E.w.heap.size ≤ b
 on:∀ b L,ow b = some L→b < w.heap.size∧(E.T b∨E.w.heap.size ≤ b)
 ot:∀ t k e,((t,k),e) ∈ st.own→∃ u v,a[t]? = some u∧qji u k = some v∧qhY P Γ w v e∧∀ b,v.ownBlock = some b→ow b = some (.tmp t k)
 ob:∀ (i j:Nat) e cs own (b:Nat),st.boxes[i]? = some (.cells cs own)→(j,e) ∈ own→bs[i]? = some (some b) →
  ∃ v,w.cell? ⟨b,j,none⟩ = some v∧qhY P Γ w v e∧∀ b',v.ownBlock = some b'→ow b' = some (.box i j)
 gl:∀ g cs,(g,cs) ∈ E.GE→VR Γ bs w (.eptr cs) (.pointer (some ⟨g,0,none⟩))
 gc:∀ g cs,(g,cs) ∈ E.GE→clL 0 cs
 gx:∀ g cs,(g,cs) ∈ E.GE→g < E.w.heap.size∧¬ E.T g∧∃ c t fr,E.w.heap[g]? = some (.cells c t fr)∧c.size = cs.length
 step:Step E Γ w
theorem BR.mono {Γ Γ':qaP} {bs bs':qbj} {w w':World} {B:PBox} {b:Nat} (h:BR Γ bs w B b) (hle:Γ.Le w Γ' w') (hb:bs.Sub bs')
  (hh:w'.heap[b]? = w.heap[b]?):BR Γ' bs' w' B b:=by
 cases B with
 | cells cs own =>
  obtain ⟨c,t,h1,h2,h3⟩:=h
  exact ⟨c,t,hh.trans h1,h2,fun j p v hp hv => (h3 j p v hp hv).mono hle hb⟩
 | map es =>
  obtain ⟨c,t,h1,h2,h3⟩:=h
  exact ⟨c,t,hh.trans h1,h2,fun j k u x hp hv => ⟨(h3 j k u x hp hv).1.mono hle hb,(h3 j k u x hp hv).2.mono hle hb⟩⟩
 | dead => trivial
theorem qAy {w w':World} {base:Nat} {e:TypeId} {size:Nat} {v:Value} {n:Nat} {xs:List Value} (h:w.ownsRow base e size v n xs)
  (hb:∀ b,v.ownBlock = some b→w'.heap[b]? = w.heap[b]?):w'.ownsRow base e size v n xs:=by
 obtain ⟨h1,h2⟩:=h
 refine ⟨h1,?_⟩
 rcases h2 with h2 | ⟨g,cap,cur,rfl,hg,hh,r⟩
 ·exact .inl h2
 ·exact .inr ⟨g,cap,cur,rfl,hg,(hb g rfl).trans hh,r⟩
theorem qhY.same {P:Program} {Γ Γ':qaP} {w w':World} {v:Value} {e:TypeId} (h:qhY P Γ w v e)
  (hb:∀ b,v.ownBlock = some b→w'.heap[b]? = w.heap[b]?∧Γ' b = Γ b):qhY P Γ' w' v e:=by
 obtain ⟨n,xs,h1,h2⟩:=h
 exact ⟨n,xs,qAy h1 fun b h => (hb b h).1,fun b h => (hb b h).2.trans (h2 b h)⟩
theorem qhY.lt {P:Program} {Γ:qaP} {w:World} {v:Value} {e:TypeId} (h:qhY P Γ w v e) {b:Nat} (hb:v.ownBlock = some b):b < w.heap.size:=by
 obtain ⟨n,xs,h1,_⟩:=h
 exact (h1.lt b hb).2
theorem qaX {w w':World} {b:Nat} (h:w'.heap[b]? = w.heap[b]?) (o:Nat):w'.cell? ⟨b,o,none⟩ = w.cell? ⟨b,o,none⟩:=World.cell?_of_block (a:=⟨b,o,none⟩) h
section
variable {P:Program} {E:Ent} {Γ:qaP} {bs:qbj} {ow:Nat→Option Loc} {w:World} {a:Array Value} {st:PSt}
theorem SR.world (h:SR P E Γ bs ow w a st) {Γ':qaP} {w':World} (M:Nat→Prop) (hle:Γ.Le w Γ' w')
  (hwi:∀ b n,Γ' b = some n→∃ c t fr,w'.heap[b]? = some (.cells c t fr)∧n ≤ c.size)
  (hos:w'.os = w.os) (htp:w'.tape = w.tape) (hout:w'.output = w.output) (hsz:w.heap.size ≤ w'.heap.size)
  (hk:∀ b,b < w.heap.size→¬ M b→w'.heap[b]? = w.heap[b]?∧Γ' b = Γ b)
  (hM:∀ b,M b→E.T b∨E.w.heap.size ≤ b) (hMb:∀ (i b:Nat),bs[i]? = some (some b)→¬ M b) (hMo:∀ b L,ow b = some L→¬ M b) :
  SR P E Γ' bs ow w' a st:={
 wi:=hwi
 sz:=h.sz
 tm:=fun t p v hp hv => (h.tm t p v hp hv).mono hle (.refl _)
 bl:=h.bl
 bx:=fun i b B hb hB => by
  obtain ⟨h1,h2,h3⟩:=h.bx i b B hb hB
  have hm:=hk b h2 (hMb i b hb)
  exact ⟨hm.2.trans h1,by omega,h3.mono hle (.refl _) hm.1⟩
 inj:=h.inj
 bn:=h.bn
 on:=fun b L hL => ⟨Nat.lt_of_lt_of_le (h.on b L hL).1 hsz,(h.on b L hL).2⟩
 ot:=fun t k e he => by
  obtain ⟨u,v,h1,h2,h3,h4⟩:=h.ot t k e he
  exact ⟨u,v,h1,h2,h3.same fun b hb => hk b (h3.lt hb) (hMo b _ (h4 b hb)),h4⟩
 ob:=fun i j e cs own b hB hj hb => by
  obtain ⟨v,h1,h3,h4⟩:=h.ob i j e cs own b hB hj hb
  have hbl:=(h.bx i b _ hb hB).2.1
  exact ⟨v,(qaX (hk b hbl (hMb i b hb)).1 j).trans h1,h3.same fun b hb => hk b (h3.lt hb) (hMo b _ (h4 b hb)),h4⟩
 gl:=fun g cs hg => (h.gl g cs hg).mono hle (.refl _)
 gc:=h.gc
 gx:=h.gx
 step:={
  os:=hos.trans h.step.os
  tape:=htp.trans h.step.tape
  output:=hout.trans h.step.output
  size:=Nat.le_trans h.step.size hsz
  keep:=fun b hb hT => by
   have hnM:¬ M b:=fun hm => (hM b hm).elim hT (fun hx => by omega)
   have hlt:b < w.heap.size:=Nat.lt_of_lt_of_le hb h.step.size
   obtain ⟨k1,k2⟩:=h.step.keep b hb hT
   exact ⟨(hk b hlt hnM).1.trans k1,(hk b hlt hnM).2.trans k2⟩
  le:=h.step.le.trans hle } }
theorem SR.gnow (h:SR P E Γ bs ow w a st) {g:Nat} {cs:List PVal} (hg:(g,cs) ∈ E.GE):g < w.heap.size∧(∀ i b:Nat,bs[i]? = some (some b)→g ≠ b)∧ow g = none∧∃ c t fr,w.heap[g]? = some (.cells c t fr)∧c.size = cs.length:=by
 obtain ⟨h1,h2,c,t,fr,h3,h4⟩:=h.gx g cs hg
 refine ⟨Nat.lt_of_lt_of_le h1 h.step.size,fun i b hb e => ?_,?_,c,t,fr,((h.step.keep g h1 h2).1).trans h3,h4⟩
 ·subst e
  rcases h.bn i g hb with h5 | h5
  ·exact h2 h5
  ·omega
 ·cases hL:ow g with
  | none => rfl
  | some L =>
   rcases (h.on g L hL).2 with h5 | h5
   ·exact absurd h5 h2
   ·omega
theorem qa7 {α:Type} {p:α→Bool} {l:List α} {x:α} (h:x ∈ l.filter p):x ∈ l∧p x = true:=by simpa using h
theorem SR.less (h:SR P E Γ bs ow w a st) {own:List ((Nat×Nat)×TypeId)} (hs:∀ x ∈ own,x ∈ st.own):SR P E Γ bs ow w a { st with own:=own } :=
 { h with ot:=fun t k e he => h.ot t k e (hs _ he),tm:=h.tm,bx:=h.bx,ob:=h.ob,sz:=h.sz,bl:=h.bl }
theorem SR.ow_drop (h:SR P E Γ bs ow w a st) {ow':Nat→Option Loc} (hs:∀ b L,ow' b = some L→ow b = some L)
  (ht:∀ t k e,((t,k),e) ∈ st.own→∀ b,ow b = some (.tmp t k)→ow' b = some (.tmp t k))
  (hb:∀ (i j:Nat) e cs own,st.boxes[i]? = some (.cells cs own)→(j,e) ∈ own→∀ b,ow b = some (.box i j)→ow' b = some (.box i j)) :
  SR P E Γ bs ow' w a st :=
 { h with
  on:=fun b L hL => h.on b L (hs b L hL)
  ot:=fun t k e he => by
   obtain ⟨u,v,h1,h2,h3,h4⟩:=h.ot t k e he
   exact ⟨u,v,h1,h2,h3,fun b hb' => ht t k e he b (h4 b hb')⟩
  ob:=fun i j e cs own b hB hj hbb => by
   obtain ⟨v,h1,h3,h4⟩:=h.ob i j e cs own b hB hj hbb
   exact ⟨v,h1,h3,fun b' hb' => hb i j e cs own hB hj b' (h4 b' hb')⟩ }
def qbB (d:Nat) (own:List ((Nat×Nat)×TypeId)):List ((Nat×Nat)×TypeId):=own.filter fun x => x.1.1 != d
theorem qcG {d:Nat} {own:List ((Nat×Nat)×TypeId)} {x:(Nat×Nat)×TypeId} (h:x ∈ qbB d own):x ∈ own∧x.1.1 ≠ d:=by
 simpa [qbB] using h
theorem SR.set (h:SR P E Γ bs ow w a st) {d:Nat} {p:PVal} {v:Value} (hv:VR Γ bs w p v) :
  SR P E Γ bs ow w (a.setIfInBounds d v) { st with tmps:=st.tmps.set d p,own:=qbB d st.own } :=
 { h with
  sz:=by simp [h.sz]
  tm:=fun t q u hq hu => by
   simp only [List.getElem?_set] at hq
   rw [Array.getElem?_setIfInBounds] at hu
   by_cases hdt:d = t
   ·subst hdt
    simp only [if_true] at hq hu
    split at hu
    ·split at hq
     ·cases hu; cases hq; exact hv
     ·cases hq
    ·cases hu
   ·simp only [hdt,if_false] at hq hu
    exact h.tm t q u hq hu
  ot:=fun t k e he => by
   obtain ⟨he,hd⟩:=qcG he
   obtain ⟨u,v',h1,h2,h3,h4⟩:=h.ot t k e he
   refine ⟨u,v',?_,h2,h3,h4⟩
   rw [Array.getElem?_setIfInBounds_ne (fun e => hd e.symm)]
   exact h1 }
end
section
variable {P:Program} {E:Ent} {Γ:qaP} {bs:qbj} {ow:Nat→Option Loc} {w:World} {a:Array Value} {st:PSt}
theorem SR.addOwn (h:SR P E Γ bs ow w a st) {d k:Nat} {e:TypeId} {u v:Value} (hu:a[d]? = some u) (hv:qji u k = some v) (ho:qhY P Γ w v e)
  (hf:∀ b,v.ownBlock = some b→ow b = none∧(E.T b∨E.w.heap.size ≤ b)) :
  SR P E Γ bs (fun b => if v.ownBlock = some b then some (.tmp d k) else ow b) w a { st with own:=((d,k),e) :: st.own } :=
 { h with
  on:=fun b L hL => by
   by_cases hb:v.ownBlock = some b
   ·exact ⟨ho.lt hb,(hf b hb).2⟩
   ·simp only [hb,if_false] at hL; exact h.on b L hL
  ot:=fun t k' e' he => by
   simp only [List.mem_cons] at he
   rcases he with he | he
   ·cases he
    exact ⟨u,v,hu,hv,ho,fun b hb => by simp [hb]⟩
   ·obtain ⟨u',v',h1,h2,h3,h4⟩:=h.ot t k' e' he
    refine ⟨u',v',h1,h2,h3,fun b hb => ?_⟩
    have hne:v.ownBlock ≠ some b:=fun hx => by have:=(hf b hx).1; rw [h4 b hb] at this; cases this
    simp only [hne,if_false]; exact h4 b hb
  ob:=fun i j e' cs own b hB hj hb => by
   obtain ⟨v',h1,h3,h4⟩:=h.ob i j e' cs own b hB hj hb
   refine ⟨v',h1,h3,fun b' hb' => ?_⟩
   have hne:v.ownBlock ≠ some b':=fun hx => by have:=(hf b' hx).1; rw [h4 b' hb'] at this; cases this
   simp only [hne,if_false]; exact h4 b' hb' }
theorem SR.freeT (h:SR P E Γ bs ow w a st) (t k:Nat) :
  SR P E Γ bs (fun b => if ow b = some (.tmp t k) then none else ow b) w a { st with own:=st.own.filter fun x => x.1 != (t,k) }:=by
 have h':=h.less (own:=st.own.filter fun x => x.1 != (t,k)) (fun x hx => (qa7 hx).1)
 refine h'.ow_drop (fun b L hL => ?_) (fun t' k' e he b hb => ?_) (fun i j e cs own hB hj b hb => ?_)
 ·split at hL
  ·cases hL
  ·exact hL
 ·have:=(qa7 he).2
  have hne:¬ (t' = t∧k' = k):=fun ⟨x,y⟩ => by subst x; subst y; simp at this
  rw [if_neg]
  ·exact hb
  ·rw [hb]; intro hx; cases hx; exact hne ⟨rfl,rfl⟩
 ·rw [if_neg]
  ·exact hb
  ·rw [hb]; intro hx; cases hx
theorem qrL {bs:qbj} {id i b:Nat} {x:Option Nat} (hid:bs[id]? = some none) (h:bs[i]? = some (some b)):(bs.set id x)[i]? = some (some b):=by
 rw [List.getElem?_set_ne]
 ·exact h
 ·intro e; subst e; rw [hid] at h; cases h
def qaP.put (Γ:qaP) (b n:Nat):qaP:=fun x => if x = b then some n else Γ x
theorem qaP.put_same (Γ:qaP) (b n:Nat):Γ.put b n b = some n:=by simp [qaP.put]
theorem qaP.put_other (Γ:qaP) {b n x:Nat} (h:x ≠ b):Γ.put b n x = Γ x:=by simp [qaP.put,h]
theorem SR.lt_of_ghost (h:SR P E Γ bs ow w a st) {b n:Nat} (hb:Γ b = some n):b < w.heap.size:=by
 obtain ⟨c,t,fr,h1,_⟩:=h.wi b n hb
 exact (Array.getElem?_eq_some_iff.1 h1).1
theorem qeH (w:World) (o:Obj):(w.alloc o).heap[w.heap.size]? = some o:=heap_alloc_new w o
theorem qcJ (w:World) (o:Obj) {b:Nat} (h:b < w.heap.size):(w.alloc o).heap[b]? = w.heap[b]?:=by
 show (w.heap.push o)[b]? = _
 rw [Array.getElem?_push,if_neg (by omega)]
theorem SR.alloc_imm (h:SR P E Γ bs ow w a st) (c:Array Value) (t:TypeId) (n:Nat) (hn:n ≤ c.size) :
  SR P E (Γ.put w.heap.size n) bs ow (w.alloc (.cells c t)) a st∧Γ.Le w (Γ.put w.heap.size n) (w.alloc (.cells c t)):=by
 have hle:Γ.Le w (Γ.put w.heap.size n) (w.alloc (.cells c t)):=fun b m hb _ => by
  have hlt:=h.lt_of_ghost hb
  exact ⟨m,(Γ.put_other (by omega)).trans hb,Nat.le_refl _,fun o _ => qaX (qcJ w _ hlt) o⟩
 refine ⟨h.world (fun _ => False) hle (fun b m hb => ?_) rfl rfl rfl (by simp) (fun b hb _ => ⟨qcJ w _ hb,Γ.put_other (by omega)⟩) (fun _ hx => hx.elim) (fun _ _ _ hx => hx) (fun _ _ _ hx => hx),hle⟩
 by_cases hbb:b = w.heap.size
 ·subst hbb
  rw [Γ.put_same] at hb
  cases hb
  exact ⟨c,t,(0,0),qeH w _,hn⟩
 ·rw [Γ.put_other hbb] at hb
  obtain ⟨c',t',fr,h1,h2⟩:=h.wi b m hb
  exact ⟨c',t',fr,(qcJ w _ (h.lt_of_ghost hb)).trans h1,h2⟩
theorem SR.drew (h:SR P E Γ bs ow w a st):SR P E Γ bs ow w.drew a st :=
 h.world (fun _ => False) (fun _ m hb _ => ⟨m,hb,Nat.le_refl _,fun _ _ => rfl⟩) h.wi rfl rfl rfl (Nat.le_refl _) (fun _ _ _ => ⟨rfl,rfl⟩) (fun _ hx => hx.elim) (fun _ _ _ hx => hx) (fun _ _ _ hx => hx)
theorem SR.alloc_box (h:SR P E Γ bs ow w a st) {id:Nat} (hid:bs[id]? = some none) (o:Obj) (B:PBox)
  (hB:∀ bs':qbj,bs.Sub bs'→BR Γ bs' (w.alloc o) B w.heap.size) (hcell:∀ cs own,B = .cells cs own→∀ j e,(j,e) ∈ own→∃ v,(w.alloc o).cell? ⟨w.heap.size,j,none⟩ = some v∧v.ownBlock = none∧qhY P Γ (w.alloc o) v e) :
  SR P E Γ (bs.set id (some w.heap.size)) ow (w.alloc o) a { st with boxes:=st.boxes.set id B }:=by
 have hle:Γ.Le w Γ (w.alloc o):=fun _ m hb _ => ⟨m,hb,Nat.le_refl _,fun o' _ => qaX (qcJ w _ (h.lt_of_ghost hb)) o'⟩
 have hsub:bs.Sub (bs.set id (some w.heap.size)):=fun i b hb => qrL hid hb
 have hw:=h.world (fun _ => False) (Γ':=Γ) (w':=w.alloc o) hle (fun b m hb => by
  obtain ⟨c',t',fr,h1,h2⟩:=h.wi b m hb
  exact ⟨c',t',fr,(qcJ w _ (h.lt_of_ghost hb)).trans h1,h2⟩) rfl rfl rfl (by simp) (fun b hb _ => ⟨qcJ w _ hb,rfl⟩) (fun _ hx => hx.elim) (fun _ _ _ hx => hx) (fun _ _ _ hx => hx)
 have hidlt:id < bs.length:=qae hid
 have hcase:∀ {i b:Nat},(bs.set id (some w.heap.size))[i]? = some (some b)→(i = id∧b = w.heap.size)∨(i ≠ id∧bs[i]? = some (some b)):=by
  intro i b hb
  by_cases hi:i = id
  ·subst hi
   rw [List.getElem?_set_self hidlt] at hb
   cases hb; exact .inl ⟨rfl,rfl⟩
  ·rw [List.getElem?_set_ne (fun e => hi e.symm)] at hb
   exact .inr ⟨hi,hb⟩
 have hbox:∀ {i:Nat} {B':PBox},i ≠ id→(st.boxes.set id B)[i]? = some B'→st.boxes[i]? = some B':=by
  intro i B' hi hB'
  rwa [List.getElem?_set_ne (fun e => hi e.symm)] at hB'
 have hself:∀ {B':PBox},(st.boxes.set id B)[id]? = some B'→B' = B:=by
  intro B' hB'
  rw [List.getElem?_set_self (by rw [← h.bl]; exact hidlt)] at hB'
  cases hB'; rfl
 exact {
  wi:=hw.wi
  sz:=hw.sz
  tm:=fun t p v hp hv => (hw.tm t p v hp hv).mono (.refl _ _) hsub
  bl:=by simp [h.bl]
  bx:=fun i b B' hb hB' => by
   rcases hcase hb with ⟨rfl,rfl⟩ | ⟨hi,hb⟩
   ·have:=hself hB'; subst this
    refine ⟨?_,by simp,hB _ hsub⟩
    cases hg:Γ w.heap.size with
    | none => rfl
    | some m => exact absurd (h.lt_of_ghost hg) (Nat.lt_irrefl _)
   ·obtain ⟨h1,h2,h3⟩:=hw.bx i b B' hb (hbox hi hB')
    exact ⟨h1,h2,h3.mono (.refl _ _) hsub rfl⟩
  inj:=fun i j b hi hj => by
   rcases hcase hi with ⟨rfl,rfl⟩ | ⟨hi',hb⟩ <;> rcases hcase hj with ⟨rfl,hb'⟩ | ⟨hj',hb''⟩
   ·rfl
   ·have:=(hw.bx j _ (st.boxes[j]'(by rw [← h.bl]; exact qae hb'')) hb'' (by simp)).2.1
    have:=(h.bx j _ (st.boxes[j]'(by rw [← h.bl]; exact qae hb'')) hb'' (by simp)).2.1
    omega
   ·have:=(h.bx i _ (st.boxes[i]'(by rw [← h.bl]; exact qae hb)) hb (by simp)).2.1
    omega
   ·exact h.inj i j b hb hb''
  bn:=fun i b hb => by
   rcases hcase hb with ⟨rfl,rfl⟩ | ⟨hi,hb⟩
   ·exact .inr h.step.size
   ·exact h.bn i b hb
  on:=hw.on
  ot:=hw.ot
  ob:=fun i j e cs own b hB' hj hb => by
   rcases hcase hb with ⟨rfl,rfl⟩ | ⟨hi,hb⟩
   ·have:=hself hB'; subst this
    obtain ⟨v,h1,h2,h3⟩:=hcell cs own rfl j e hj
    exact ⟨v,h1,h3,fun b' hb' => by rw [h2] at hb'; cases hb'⟩
   ·exact hw.ob i j e cs own b (hbox hi hB') hj hb
  gl:=fun g cs hg => (hw.gl g cs hg).mono (.refl _ _) hsub
  gc:=h.gc
  gx:=h.gx
  step:=hw.step }
theorem SR.box_write (h:SR P E Γ bs ow w a st) {i b:Nat} (hi:bs[i]? = some (some b)) {w':World} {B:PBox} {ow':Nat→Option Loc}
  (hos:w'.os = w.os) (htp:w'.tape = w.tape) (hout:w'.output = w.output) (hsz:w'.heap.size = w.heap.size)
  (hk:∀ b',b' ≠ b→w'.heap[b']? = w.heap[b']?) (hB:BR Γ bs w' B b)
  (hsame:∀ b' L,ow b' = some L→(∀ j,L ≠ .box i j)→ow' b' = some L) (hon:∀ b' L,ow' b' = some L→b' < w.heap.size∧(E.T b'∨E.w.heap.size ≤ b'))
  (hown:∀ cs own,B = .cells cs own→∀ j e,(j,e) ∈ own→∃ v,w'.cell? ⟨b,j,none⟩ = some v∧qhY P Γ w' v e∧∀ b',v.ownBlock = some b'→ow' b' = some (.box i j)) :
  SR P E Γ bs ow' w' a { st with boxes:=st.boxes.set i B }:=by
 have hilt:i < st.boxes.length:=by rw [← h.bl]; exact qae hi
 have hg:Γ b = none:=(h.bx i b (st.boxes[i]'hilt) hi (by simp)).1
 have hne:∀ {b' n},Γ b' = some n→b' ≠ b:=fun hb e => by subst e; rw [hg] at hb; cases hb
 have hle:Γ.Le w Γ w':=fun b' m hb _ => ⟨m,hb,Nat.le_refl _,fun o' _ => qaX (hk b' (hne hb)) o'⟩
 have hos':∀ {v e},qhY P Γ w v e→qhY P Γ w' v e:=fun {v e} ho => ho.same fun b' hb' => by
  obtain ⟨n,xs,h1,h2⟩:=ho
  exact ⟨hk b' (hne (h2 b' hb')),rfl⟩
 have hbox:∀ {j:Nat} {B':PBox},j ≠ i→(st.boxes.set i B)[j]? = some B'→st.boxes[j]? = some B':=by
  intro j B' hj hB'
  rwa [List.getElem?_set_ne (fun e => hj e.symm)] at hB'
 have hself:∀ {B':PBox},(st.boxes.set i B)[i]? = some B'→B' = B:=by
  intro B' hB'
  rw [List.getElem?_set_self hilt] at hB'
  cases hB'; rfl
 have hbne:∀ {j b':Nat},bs[j]? = some (some b')→j ≠ i→b' ≠ b:=fun hj hji e => by subst e; exact hji (h.inj _ _ _ hj hi)
 exact {
  wi:=fun b' n hb' => by
   obtain ⟨c,t,fr,h1,h2⟩:=h.wi b' n hb'
   exact ⟨c,t,fr,(hk b' (hne hb')).trans h1,h2⟩
  sz:=h.sz
  tm:=fun t p v hp hv => (h.tm t p v hp hv).mono hle (.refl _)
  bl:=by simp [h.bl]
  bx:=fun j b' B' hb' hB' => by
   by_cases hj:j = i
   ·subst hj
    have:=hself hB'; subst this
    have:b' = b:=by rw [hi] at hb'; cases hb'; rfl
    subst this
    exact ⟨hg,by rw [hsz]; exact (h.bx j b' (st.boxes[j]'hilt) hi (by simp)).2.1,hB⟩
   ·obtain ⟨h1,h2,h3⟩:=h.bx j b' B' hb' (hbox hj hB')
    exact ⟨h1,by rw [hsz]; exact h2,h3.mono hle (.refl _) (hk b' (hbne hb' hj))⟩
  inj:=h.inj
  bn:=h.bn
  on:=fun b' L hL => ⟨by rw [hsz]; exact (hon b' L hL).1,(hon b' L hL).2⟩
  ot:=fun t k e he => by
   obtain ⟨u,v,h1,h2,h3,h4⟩:=h.ot t k e he
   exact ⟨u,v,h1,h2,hos' h3,fun b' hb' => hsame b' _ (h4 b' hb') (fun j hx => by cases hx)⟩
  ob:=fun j k e cs own b' hB' hj hb' => by
   by_cases hji:j = i
   ·subst hji
    have:=hself hB'; subst this
    have:b' = b:=by rw [hi] at hb'; cases hb'; rfl
    subst this
    exact hown cs own rfl k e hj
   ·obtain ⟨v,h1,h3,h4⟩:=h.ob j k e cs own b' (hbox hji hB') hj hb'
    exact ⟨v,(qaX (hk b' (hbne hb' hji)) k).trans h1,hos' h3,fun x hx => hsame x _ (h4 x hx) (fun y hy => by cases hy; exact hji rfl)⟩
  gl:=fun g cs hg => (h.gl g cs hg).mono hle (.refl _)
  gc:=h.gc
  gx:=h.gx
  step:={
   os:=hos.trans h.step.os
   tape:=htp.trans h.step.tape
   output:=hout.trans h.step.output
   size:=by rw [hsz]; exact h.step.size
   keep:=fun b' hb' hT => by
    have hbb:b' ≠ b:=fun e => by subst e; exact (h.bn i b' hi).elim hT (fun hx => by omega)
    obtain ⟨k1,k2⟩:=h.step.keep b' hb' hT
    exact ⟨(hk b' hbb).trans k1,k2⟩
   le:=h.step.le.trans hle } }
end
end Go.Proofs.YtgldgpdhblndkaaGreatDoor
