/- WHAT IS PROVED: parts of the proof, put together by a program (SatC3). Conditions: none. -/
import Derived.Test.YtgldgpdhblndkaaGreatDoorPkE18
noncomputable section
namespace Go.Proofs.YtgldgpdhblndkaaGreatDoor
open Go
mutual

def PVal.no (i:Nat):PVal→Prop
 | .undef | .int _ _ | .bool _ | .str _ | .val _ => True
 | .agg cs => noL i cs
 | .tuple cs => noL i cs
 | .slice es => noLL i es
 | .eptr cs => noL i cs
 | .bptr j _ => j ≠ i
 | .bsl j _ _ => j ≠ i
 | .mapr j => j ≠ i
 | .func _ f c => noL i f∧noL i c
def noL (i:Nat):List PVal→Prop
 | [] => True
 | p :: ps => p.no i∧noL i ps
def noLL (i:Nat):List (List PVal)→Prop
 | [] => True
 | p :: ps => noL i p∧noLL i ps
end
mutual
theorem qyr (i:Nat):∀ (p:PVal),p.cl 0→p.no i
 | .undef,_ => by simp [PVal.no]
 | .int _ _,_ => by simp [PVal.no]
 | .bool _,_ => by simp [PVal.no]
 | .str _,_ => by simp [PVal.no]
 | .val _,_ => by simp [PVal.no]
 | .agg cs,h => by simp only [PVal.cl] at h; simp only [PVal.no]; exact qi1 i cs h
 | .tuple cs,h => by simp only [PVal.cl] at h; simp only [PVal.no]; exact qi1 i cs h
 | .slice es,h => by simp only [PVal.cl] at h; simp only [PVal.no]; exact qpb i es h
 | .eptr cs,h => by simp only [PVal.cl] at h; simp only [PVal.no]; exact qi1 i cs h
 | .bptr j _,h => by simp only [PVal.cl] at h; omega
 | .bsl j _ _,h => by simp only [PVal.cl] at h; omega
 | .mapr j,h => by simp only [PVal.cl] at h; omega
 | .func _ f c,h => by simp only [PVal.cl] at h; simp only [PVal.no]; exact ⟨qi1 i f h.1,qi1 i c h.2⟩
theorem qi1 (i:Nat):∀ (l:List PVal),clL 0 l→noL i l
 | [],_ => by simp [noL]
 | p :: l,h => by simp only [clL] at h; simp only [noL]; exact ⟨qyr i p h.1,qi1 i l h.2⟩
theorem qpb (i:Nat):∀ (l:List (List PVal)),clLL 0 l→noLL i l
 | [],_ => by simp [noLL]
 | p :: l,h => by simp only [clLL] at h; simp only [noLL]; exact ⟨qi1 i p h.1,qpb i l h.2⟩
end
theorem qlp {n:Nat}:∀ {l:List PVal} {i:Nat} {p:PVal},noL n l→l[i]? = some p→p.no n
 | [],i,p,_,h => by simp at h
 | q :: l,0,p,h,hp => by simp at hp; subst hp; simp only [noL] at h; exact h.1
 | q :: l,i + 1,p,h,hp => by simp only [noL] at h; exact qlp h.2 (by simpa using hp)
theorem quV {n:Nat}:∀ {l:List (List PVal)} {i:Nat} {p:List PVal},noLL n l→l[i]? = some p→noL n p
 | [],i,p,_,h => by simp at h
 | q :: l,0,p,h,hp => by simp at hp; subst hp; simp only [noLL] at h; exact h.1
 | q :: l,i + 1,p,h,hp => by simp only [noLL] at h; exact quV h.2 (by simpa using hp)
theorem VR.noi {Γ:qaP} {bs bs':qbj} {w:World} {p:PVal} {v:Value} {n:Nat} (h:VR Γ bs w p v) (hc:p.no n)
  (hb:∀ (i b:Nat),i ≠ n→bs[i]? = some (some b)→bs'[i]? = some (some b)):VR Γ bs' w p v:=by
 induction h with
 | undef v => exact .undef v
 | int k n => exact .int k n
 | bool b => exact .bool b
 | str l => exact .str l
 | val v => exact .val v
 | agg cs vs hl _ ih => simp only [PVal.no] at hc; exact .agg cs vs hl fun i p v hp hv => ih i p v hp hv (qlp hc hp)
 | tuple cs vs hl _ ih => simp only [PVal.no] at hc; exact .tuple cs vs hl fun i p v hp hv => ih i p v hp hv (qlp hc hp)
 | sliceNil => exact .sliceNil
 | sliceE a cap => exact .sliceE a cap
 | slice es b off cap n sz vals h0 hcap hg hn hsz hcc _ ih =>
  simp only [PVal.no] at hc
  exact .slice es b off cap n sz vals h0 hcap hg hn hsz hcc fun i e k p he hp => ih i e k p he hp (qlp (quV hc he) hp)
 | eptrE b off => exact .eptrE b off
 | bsl i off k x cap hcap hnil h => simp only [PVal.no] at hc; exact .bsl i off k x cap hcap hnil (h.imp_right fun ⟨b,h1,h2⟩ => ⟨b,h1,hb i b hc h2⟩)
 | eptr cs b off n vals hg hn hcc _ ih =>
  simp only [PVal.no] at hc
  exact .eptr cs b off n vals hg hn hcc fun k p hp => ih k p hp (qlp hc hp)
 | bptr i off b h => simp only [PVal.no] at hc; exact .bptr i off b (hb i b hc h)
 | mapr i b h => simp only [PVal.no] at hc; exact .mapr i b (hb i b hc h)
 | func fn first cap fs cs hl hl' _ _ ih ih' =>
  simp only [PVal.no] at hc
  exact .func fn first cap fs cs hl hl' (fun i p v hp hv => ih i p v hp hv (qlp hc.1 hp)) (fun i p v hp hv => ih' i p v hp hv (qlp hc.2 hp))
inductive Fz (i:Nat) (es:List (List PVal)):PVal→PVal→Prop where
 | u (p:PVal):Fz i es p .undef
 | k (p:PVal) (h:p.no i):Fz i es p p
 | s (n:Nat) (h:n = es.length):Fz i es (.bsl i 0 n) (.slice es)
 | b (off:Nat):Fz i es (.bptr i off) (.eptr (es.flatten.drop off))
 | f (fn:Fn) (f c f' c':List PVal) (hl:f.length = f'.length) (hl':c.length = c'.length) (h:∀ (j:Nat) p q,f[j]? = some p→f'[j]? = some q→Fz i es p q) (h':∀ (j:Nat) p q,c[j]? = some p→c'[j]? = some q→Fz i es p q):Fz i es (.func fn f c) (.func fn f' c')
def FzL (i:Nat) (es:List (List PVal)):List PVal→List PVal→Prop
 | [],[] => True
 | p :: ps,q :: qs => Fz i es p q∧FzL i es ps qs
 | _,_ => False
inductive FzB (i:Nat) (es:List (List PVal)):PBox→PBox→Prop where
 | d (B:PBox):FzB i es B .dead
 | c (cs cs':List PVal) (own:List (Nat×TypeId)) (h:FzL i es cs cs'):FzB i es (.cells cs own) (.cells cs' own)
 | k (cs:List PVal) (own:List (Nat×TypeId)) (h:noL i cs):FzB i es (.cells cs own) (.cells cs own)
 | m (l:List (PVal×PVal)) (h:∀ x ∈ l,x.1.no i∧x.2.no i):FzB i es (.map l) (.map l)
def FzBs (i:Nat) (es:List (List PVal)):List PBox→List PBox→Prop
 | [],[] => True
 | p :: ps,q :: qs => FzB i es p q∧FzBs i es ps qs
 | _,_ => False
theorem FzL.len {i:Nat} {es:List (List PVal)}:∀ {l r:List PVal},FzL i es l r→l.length = r.length
 | [],[],_ => rfl
 | [],_ :: _,h => h.elim
 | _ :: _,[],h => h.elim
 | _ :: _,_ :: _,h => by simp [FzL.len h.2]
theorem FzL.get {i:Nat} {es:List (List PVal)}:∀ {l r:List PVal},FzL i es l r→∀ {j:Nat} {p q},l[j]? = some p→r[j]? = some q→Fz i es p q
 | [],[],_,j,p,q,hp,_ => by simp at hp
 | [],_ :: _,h,_,_,_,_,_ => h.elim
 | _ :: _,[],h,_,_,_,_,_ => h.elim
 | _ :: _,_ :: _,h,0,p,q,hp,hq => by simp at hp hq; subst hp; subst hq; exact h.1
 | _ :: _,_ :: _,h,j + 1,p,q,hp,hq => FzL.get h.2 (j:=j) (by simpa using hp) (by simpa using hq)
theorem FzBs.len {i:Nat} {es:List (List PVal)}:∀ {l r:List PBox},FzBs i es l r→l.length = r.length
 | [],[],_ => rfl
 | [],_ :: _,h => h.elim
 | _ :: _,[],h => h.elim
 | _ :: _,_ :: _,h => by simp [FzBs.len h.2]
theorem FzBs.get {i:Nat} {es:List (List PVal)}:∀ {l r:List PBox},FzBs i es l r→∀ {j:Nat} {p q},l[j]? = some p→r[j]? = some q→FzB i es p q
 | [],[],_,j,p,q,hp,_ => by simp at hp
 | [],_ :: _,h,_,_,_,_,_ => h.elim
 | _ :: _,[],h,_,_,_,_,_ => h.elim
 | _ :: _,_ :: _,h,0,p,q,hp,hq => by simp at hp hq; subst hp; subst hq; exact h.1
 | _ :: _,_ :: _,h,j + 1,p,q,hp,hq => FzBs.get h.2 (j:=j) (by simpa using hp) (by simpa using hq)
def FZ (m i:Nat) (es:List (List PVal)) (st st':PSt):Prop :=
 ((m % 1000 ≤ i)∧∃ sz,0 < sz∧∀ x ∈ es,x.length = sz)∧noLL i es∧(∃ own,st.boxes[i]? = some (.cells es.flatten own))∧st'.boxes[i]? = some .dead∧FzL i es st.tmps st'.tmps∧FzBs i es st.boxes st'.boxes∧∀ x ∈ st'.own,x ∈ st.own
theorem qFl {sz:Nat}:∀ {es:List (List PVal)},(∀ x ∈ es,x.length = sz)→∀ {i k:Nat} {e:List PVal} {p:PVal},es[i]? = some e→e[k]? = some p→es.flatten[i * sz + k]? = some p
 | [],_,i,k,e,p,h,_ => by simp at h
 | x :: es,hl,0,k,e,p,h,hp => by
  simp at h; subst h
  rw [List.flatten_cons,Nat.zero_mul,Nat.zero_add,List.getElem?_append_left (qae hp)]
  exact hp
 | x :: es,hl,i + 1,k,e,p,h,hp => by
  have hx:=hl x (by simp)
  rw [List.flatten_cons,List.getElem?_append_right (by rw [hx,Nat.add_mul]; omega),hx,show (i + 1) * sz + k - sz = i * sz + k by rw [Nat.add_mul]; omega]
  exact qFl (fun y hy => hl y (by simp [hy])) (by simpa using h) hp
theorem FZ.weak {P:Program} {m i:Nat} {es:List (List PVal)} {st st':PSt} (h:FZ m i es st st'):Weak P m st st':=by
 obtain ⟨⟨hm,sz,hsz0,hsz⟩,hno,hBi,hBi',htm,hbx,how⟩:=h
 obtain ⟨bown,hB⟩:=hBi
 have hB':=hBi'
 intro E bs0 a w hb0 hR
 obtain ⟨Γ,bs,ow,hS,hk⟩:=hR
 have hil:i < bs.length:=by rw [hS.bl]; exact qae hB
 obtain ⟨x,hx⟩:∃ x,bs[i]? = some x:=⟨_,List.getElem?_eq_getElem hil⟩
 have hsub:∀ (j b:Nat),j ≠ i→bs[j]? = some (some b)→(bs.set i none)[j]? = some (some b):=fun j b hj hb => by rw [List.getElem?_set_ne (fun e => hj e.symm)]; exact hb
 have hback:∀ {j b:Nat},(bs.set i none)[j]? = some (some b)→j ≠ i∧bs[j]? = some (some b):=fun {j b} hb => by
  by_cases hj:j = i
  ·subst hj; rw [List.getElem?_set_self hil] at hb; cases hb
  ·rw [List.getElem?_set_ne (fun e => hj e.symm)] at hb; exact ⟨hj,hb⟩
 obtain ⟨Γ',hle,hwi,hΓ,hslice,hkeep,hptr⟩:∃ Γ':qaP,Γ.Le w Γ' w∧(∀ b n,Γ' b = some n→∃ c t fr,w.heap[b]? = some (.cells c t fr)∧n ≤ c.size)∧(∀ b,bs[i]? ≠ some (some b)→Γ' b = Γ b) ∧
   (∀ n v,n = es.length→VR Γ bs w (.bsl i 0 n) v→VR Γ' (bs.set i none) w (.slice es) v)∧(∀ b n,Γ b = some n→Γ' b = some n)∧(∀ off v,VR Γ bs w (.bptr i off) v→VR Γ' (bs.set i none) w (.eptr (es.flatten.drop off)) v):=by
  cases x with
  | none =>
   refine ⟨Γ,.refl _ _,hS.wi,fun _ _ => rfl,fun n v hn hv => ?_,fun _ _ h => h,fun off v hv => by cases hv with | bptr _ _ b hb => rw [hx] at hb; cases hb⟩
   cases hv with
   | bsl _ _ _ x cap hcap hnil hxb =>
    have hes:es = []:=by
     rcases hxb with h0 | ⟨b,_,hb⟩
     ·exact List.eq_nil_of_length_eq_zero (by omega)
     ·rw [hx] at hb; cases hb
    subst hes
    have hn0:n = 0:=hn
    subst hn0
    cases x with
    | none => rw [hnil rfl]; exact .sliceNil
    | some ad => exact .sliceE ad cap
  | some b =>
   obtain ⟨hg,hlt,c,t,hheap,hcs,hcv⟩:=hS.bx i b _ hx hB
   have hflen:=flat_len hsz
   have hle:Γ.Le w (Γ.put b es.flatten.length) w:=fun b' n hb' _ => ⟨n,(Γ.put_other (fun e => by subst e; rw [hg] at hb'; cases hb')).trans hb',Nat.le_refl _,fun _ _ => rfl⟩
   refine ⟨Γ.put b es.flatten.length,hle,fun b' n hb' => ?_,fun b' hb' => Γ.put_other (fun e => hb' (by rw [e]; exact hx)),fun n v hn hv => ?_,fun b' n hb' => (Γ.put_other (fun e => by subst e; rw [hg] at hb'; cases hb')).trans hb',fun off v hv => ?_⟩
   ·by_cases hbb:b' = b
    ·subst hbb; rw [Γ.put_same] at hb'; cases hb'; exact ⟨c,t,_,hheap,hcs⟩
    ·rw [Γ.put_other hbb] at hb'; exact hS.wi b' n hb'
   ·cases hv with
    | bsl _ _ _ x cap hcap hnil hxb =>
     rcases hxb with h0 | ⟨b',hxb,hb'⟩
     ·subst h0
      have hes:es = []:=List.eq_nil_of_length_eq_zero hn.symm
      subst hes
      cases x with
      | none => rw [hnil rfl]; exact .sliceNil
      | some ad => exact .sliceE ad cap
     ·rw [hx] at hb'; cases hb'
      subst hxb; subst hn
      refine qoz hheap (Γ.put_same _ _) (by rw [hflen]; exact Nat.le_refl _) hsz0 hcap (fun i x hx => hsz x (List.mem_of_getElem? hx)) fun j x k q hxj hq => ?_
      have hfa:=qFl hsz hxj hq
      have hlt2:j * sz + k < c.size:=Nat.lt_of_lt_of_le (qae hfa) hcs
      exact ⟨c[j * sz + k],by simp [hlt2],((hcv _ _ _ hfa (by simp [hlt2])).noi (qlp (quV hno hxj) hq) hsub).mono hle (.refl _)⟩
   ·cases hv with
    | bptr _ _ b' hb' =>
     rw [hx] at hb'; cases hb'
     by_cases hoff:off ≤ es.flatten.length
     ·have hget:∀ (k:Nat) q,(es.flatten.drop off)[k]? = some q→es.flatten[off + k]? = some q∧off + k < c.size:=fun k q hq => by
       rw [List.getElem?_drop] at hq
       exact ⟨hq,Nat.lt_of_lt_of_le (qae hq) hcs⟩
      refine .eptr _ b off es.flatten.length (fun k => c.getD (off + k) undef) (Γ.put_same _ _) (by rw [List.length_drop]; omega) (fun k q hq => ?_) (fun k q hq => ?_)
      ·obtain ⟨h1,h2⟩:=hget k q hq
       rw [cell_of_row w b _ c t _ hheap]
       simp [Array.getD_eq_getD_getElem?,h2]
      ·obtain ⟨h1,h2⟩:=hget k q hq
       have hc1:c[off + k]? = some (c.getD (off + k) undef):=by simp [Array.getD_eq_getD_getElem?,h2]
       have hnq:q.no i:=by
        obtain ⟨y,hy1,hy2⟩:=qxP hsz0 hsz h1
        exact qlp (quV hno hy1) hy2
       exact ((hcv _ _ _ h1 hc1).noi hnq hsub).mono hle (.refl _)
     ·rw [List.drop_of_length_le (by omega)]; exact .eptrE _ _
 have fz:∀ {p q:PVal} {v:Value},Fz i es p q→VR Γ bs w p v→VR Γ' (bs.set i none) w q v:=by
  intro p q v hf
  induction hf generalizing v with
  | u p => exact fun _ => .undef _
  | k p h => exact fun hv => (hv.noi h hsub).mono hle (.refl _)
  | s n h => exact fun hv => hslice n _ h hv
  | b off => exact fun hv => hptr off _ hv
  | f fn f c f' c' hl hl' h h' ih ih' =>
   intro hv
   cases hv with
   | func _ _ _ fs cs k1 k2 k3 k4 =>
    refine .func fn f' c' fs cs (by omega) (by omega) (fun j q u hq hu => ?_) (fun j q u hq hu => ?_)
    ·have hj:=qae hq
     have hp:=List.getElem?_eq_getElem (l:=f) (i:=j) (by omega)
     exact ih j _ q hp hq (k3 j _ u hp hu)
    ·have hj:=qae hq
     have hp:=List.getElem?_eq_getElem (l:=c) (i:=j) (by omega)
     exact ih' j _ q hp hq (k4 j _ u hp hu)
 have hown:∀ {v:Value} {e:TypeId},qhY P Γ w v e→qhY P Γ' w v e:=by
  intro v e ho
  obtain ⟨n,xs,o1,o2⟩:=ho
  exact ⟨n,xs,o1,fun b hb => hkeep b _ (o2 b hb)⟩
 have hmem:∀ y ∈ st'.own,y ∈ st.own:=how
 have hbnot:∀ {j b:Nat},j ≠ i→bs[j]? = some (some b)→bs[i]? ≠ some (some b):=fun hj hb hbi => hj (hS.inj _ _ _ hb hbi)
 refine ⟨Γ',bs.set i none,ow,?_,fun j hj => ?_⟩
 ·exact {
   wi:=hwi
   sz:=by rw [hS.sz]; exact htm.len
   tm:=fun t q v hq hv => by
    have hl:=htm.len
    have ht:=qae hq
    have hp:=List.getElem?_eq_getElem (l:=st.tmps) (i:=t) (by omega)
    exact fz (htm.get hp hq) (hS.tm t _ v hp hv)
   bl:=by rw [List.length_set,hS.bl]; exact hbx.len
   bx:=fun j b C hb hC => by
    obtain ⟨hj,hb⟩:=hback hb
    have hl:=hbx.len
    have hjl:=qae hC
    have hp:=List.getElem?_eq_getElem (l:=st.boxes) (i:=j) (by omega)
    obtain ⟨h1,h2,h3⟩:=hS.bx j b _ hb hp
    refine ⟨(hΓ b (hbnot hj hb)).trans h1,h2,?_⟩
    have hf:=hbx.get hp hC
    generalize st.boxes[j] = B0 at hf h3
    cases hf with
    | d B => trivial
    | c cs cs' own h =>
     obtain ⟨c,t,e1,e2,e3⟩:=h3
     refine ⟨c,t,e1,by rw [← h.len]; exact e2,fun k q v hq hv => ?_⟩
     have hk:=qae hq
     have hlen:=h.len
     have hpk:=List.getElem?_eq_getElem (l:=cs) (i:=k) (by omega)
     exact fz (h.get hpk hq) (e3 k _ v hpk hv)
    | k cs own h =>
     obtain ⟨c,t,e1,e2,e3⟩:=h3
     exact ⟨c,t,e1,e2,fun k q v hq hv => ((e3 k q v hq hv).noi (qlp h hq) hsub).mono hle (.refl _)⟩
    | m l h =>
     obtain ⟨c,t,e1,e2,e3⟩:=h3
     refine ⟨c,t,e1,e2,fun k q u y hq hy => ?_⟩
     obtain ⟨n1,n2⟩:=h _ (List.mem_of_getElem? hq)
     obtain ⟨v1,v2⟩:=e3 k q u y hq hy
     exact ⟨(v1.noi n1 hsub).mono hle (.refl _),(v2.noi n2 hsub).mono hle (.refl _)⟩
   inj:=fun j k b hj hk' => hS.inj j k b (hback hj).2 (hback hk').2
   bn:=fun j b hb => hS.bn j b (hback hb).2
   on:=hS.on
   ot:=fun t k e he => by
    obtain ⟨u,v,h1,h2,h3,h4⟩:=hS.ot t k e (hmem _ he)
    exact ⟨u,v,h1,h2,hown h3,h4⟩
   ob:=fun j k e cs own b hC hk' hb => by
    obtain ⟨hj,hb⟩:=hback hb
    have hl:=hbx.len
    have hjl:=qae hC
    have hp:=List.getElem?_eq_getElem (l:=st.boxes) (i:=j) (by omega)
    have hf:=hbx.get hp hC
    generalize hB0:st.boxes[j] = B0 at hf hp
    cases hf with
    | c cs0 _ _ h =>
     obtain ⟨v,h1,h2,h3⟩:=hS.ob j k e cs0 own b hp hk' hb
     exact ⟨v,h1,hown h2,h3⟩
    | k _ _ h =>
     obtain ⟨v,h1,h2,h3⟩:=hS.ob j k e cs own b hp hk' hb
     exact ⟨v,h1,hown h2,h3⟩
   gl:=fun g cs hg => ((hS.gl g cs hg).mono hle (.refl _)).restrict (n:=0) (by simp only [PVal.cl]; exact hS.gc g cs hg) (fun i b hi _ => absurd hi (Nat.not_lt_zero _))
   gc:=hS.gc
   gx:=hS.gx
   step:={ hS.step with
    keep:=fun b hb hT => by
     obtain ⟨k1,k2⟩:=hS.step.keep b hb hT
     refine ⟨k1,(hΓ b fun hbi => ?_).trans k2⟩
     rcases hS.bn i b hbi with h1 | h1
     ·exact hT h1
     ·omega
    le:=hS.step.le.trans hle } }
 ·rw [List.getElem?_set_ne (by omega)]
  exact hk j hj
def fzV (i:Nat) (es:List (List PVal)):PVal→(PVal→Prop)→Prop
 | .undef,k => k .undef
 | .int a n,k => k (.int a n)
 | .bool b,k => k (.bool b)
 | .str s,k => k (.str s)
 | .val v,k => k (.val v)
 | .bptr j off,k => match j == i with
  | true => qa2 (es.flatten.drop off) fun l => k (.eptr l)
  | false => k (.bptr j off)
 | .bsl j off n,k => match j == i with
  | true => match off with
   | 0 => n = es.length∧k (.slice es)
   | _ + 1 => False
  | false => k (.bsl j off n)
 | .mapr j,k => match j == i with
  | true => False
  | false => k (.mapr j)
 | p,k => p.no i∧k p
def fzVL (i:Nat) (es:List (List PVal)):List PVal→(List PVal→Prop)→Prop
 | [],k => k []
 | p :: ps,k => match p with
  | .func fn f c => fzF i es f fun f' => fzF i es c fun c' => fzVL i es ps fun l => k (.func fn f' c' :: l)
  | p => fzV i es p fun q => fzVL i es ps fun l => k (q :: l)
where
 fzF (i:Nat) (es:List (List PVal)):List PVal→(List PVal→Prop)→Prop
  | [],k => k []
  | p :: ps,k => fzV i es p fun q => fzF i es ps fun l => k (q :: l)
def fzT (i:Nat) (es:List (List PVal)) (lv:List Nat):Nat→List PVal→(List PVal→Prop)→Prop
 | _,[],k => k []
 | n,p :: ps,k => match lv.contains n with
  | true => match p with
   | .func fn f c => fzVL.fzF i es f fun f' => fzVL.fzF i es c fun c' => fzT i es lv (n + 1) ps fun l => k (.func fn f' c' :: l)
   | p => fzV i es p fun q => fzT i es lv (n + 1) ps fun l => k (q :: l)
  | false => fzT i es lv (n + 1) ps fun l => k (.undef :: l)
def fzB (i:Nat) (es:List (List PVal)) (rk:List Nat):Nat→List PBox→(List PBox→Prop)→Prop
 | _,[],k => k []
 | n,B :: Bs,k => match n == i with
  | true => fzB i es rk (n + 1) Bs fun l => k (.dead :: l)
  | false => match B with
   | .dead => fzB i es rk (n + 1) Bs fun l => k (.dead :: l)
   | .cells cs own => match rk.contains n with
    | true => noL i cs∧fzB i es rk (n + 1) Bs fun l => k (.cells cs own :: l)
    | false => fzVL i es cs fun cs' => fzB i es rk (n + 1) Bs fun l => k (.cells cs' own :: l)
   | .map m => (∀ x ∈ m,x.1.no i∧x.2.no i)∧fzB i es rk (n + 1) Bs fun l => k (.map m :: l)
def qHq (es:List (List PVal)):PBox→Prop
 | .cells cs _ => cs = es.flatten
 | _ => False
theorem qF9 {es:List (List PVal)} {H:List PBox} {i:Nat} (h:qj6 H i (qHq es)):∃ own,H[i]? = some (.cells es.flatten own):=by
 obtain ⟨B,hB,h⟩:=qcA h
 unfold qHq at h
 split at h
 ·subst h; exact ⟨_,hB⟩
 ·exact h.elim
def fzK (m:Nat):List It→PSt→(List It→PSt→Prop)→Prop
 | .fz i es lv rk :: sc',st,k => ((m % 1000 ≤ i)∧∃ sz,0 < sz∧∀ x ∈ es,x.length = sz)∧noLL i es∧qj6 st.boxes i (qHq es)∧fzT i es lv 0 st.tmps fun tm => fzB i es rk 0 st.boxes fun H => qa2 (st.own.filter fun x => lv.contains x.1.1) fun ow => fzK m sc' ⟨tm,H,ow⟩ k
 | sc,st,k => k sc st
theorem qD1 {i:Nat} {es:List (List PVal)} {p:PVal} {k:PVal→Prop} (h:fzV i es p k):∃ q,Fz i es p q∧k q:=by
 unfold fzV at h
 split at h
 ·exact ⟨_,.u _,h⟩
 ·exact ⟨_,.k _ (by simp [PVal.no]),h⟩
 ·exact ⟨_,.k _ (by simp [PVal.no]),h⟩
 ·exact ⟨_,.k _ (by simp [PVal.no]),h⟩
 ·exact ⟨_,.k _ (by simp [PVal.no]),h⟩
 ·rename_i j off
  split at h
  ·rename_i hj
   simp only [beq_iff_eq] at hj
   subst hj
   rw [qaq] at h
   exact ⟨_,.b _,h⟩
  ·rename_i hj
   exact ⟨_,.k _ (by simpa [PVal.no] using hj),h⟩
 ·rename_i j off n
  split at h
  ·rename_i hj
   simp only [beq_iff_eq] at hj
   subst hj
   split at h
   ·exact ⟨_,.s _ h.1,h.2⟩
   ·exact h.elim
  ·rename_i hj
   exact ⟨_,.k _ (by simpa [PVal.no] using hj),h⟩
 ·rename_i j
  split at h
  ·exact h.elim
  ·rename_i hj
   exact ⟨_,.k _ (by simpa [PVal.no] using hj),h⟩
 ·exact ⟨_,.k _ h.1,h.2⟩
theorem qzd {i:Nat} {es:List (List PVal)}:∀ {l:List PVal} {k:List PVal→Prop},fzVL.fzF i es l k→∃ r,FzL i es l r∧k r
 | [],k,h => ⟨[],trivial,h⟩
 | p :: ps,k,h => by
  unfold fzVL.fzF at h
  obtain ⟨q,h1,h2⟩:=qD1 h
  obtain ⟨r,h3,h4⟩:=qzd h2
  exact ⟨q :: r,⟨h1,h3⟩,h4⟩
theorem Fz.fn {i:Nat} {es:List (List PVal)} (fn:Fn) {f c f' c':List PVal} (h:FzL i es f f') (h':FzL i es c c'):Fz i es (.func fn f c) (.func fn f' c') :=
 .f fn f c f' c' h.len h'.len (fun _ _ _ hp hq => h.get hp hq) (fun _ _ _ hp hq => h'.get hp hq)
theorem qBt {i:Nat} {es:List (List PVal)}:∀ {l:List PVal} {k:List PVal→Prop},fzVL i es l k→∃ r,FzL i es l r∧k r
 | [],k,h => ⟨[],trivial,h⟩
 | p :: ps,k,h => by
  unfold fzVL at h
  split at h
  ·obtain ⟨f',h1,h2⟩:=qzd h
   obtain ⟨c',h3,h4⟩:=qzd h2
   obtain ⟨r,h5,h6⟩:=qBt h4
   exact ⟨_ :: r,⟨.fn _ h1 h3,h5⟩,h6⟩
  ·obtain ⟨q,h1,h2⟩:=qD1 h
   obtain ⟨r,h3,h4⟩:=qBt h2
   exact ⟨q :: r,⟨h1,h3⟩,h4⟩
theorem qCx {i:Nat} {es:List (List PVal)} {lv:List Nat}:∀ {n:Nat} {l:List PVal} {k:List PVal→Prop},fzT i es lv n l k→∃ r,FzL i es l r∧k r
 | _,[],k,h => ⟨[],trivial,h⟩
 | n,p :: ps,k,h => by
  unfold fzT at h
  split at h
  ·split at h
   ·obtain ⟨f',h1,h2⟩:=qzd h
    obtain ⟨c',h3,h4⟩:=qzd h2
    obtain ⟨r,h5,h6⟩:=qCx h4
    exact ⟨_ :: r,⟨.fn _ h1 h3,h5⟩,h6⟩
   ·obtain ⟨q,h1,h2⟩:=qD1 h
    obtain ⟨r,h3,h4⟩:=qCx h2
    exact ⟨q :: r,⟨h1,h3⟩,h4⟩
  ·obtain ⟨r,h3,h4⟩:=qCx h
   exact ⟨.undef :: r,⟨.u _,h3⟩,h4⟩
theorem qGQ {i:Nat} {es:List (List PVal)} {rk:List Nat}:∀ {n:Nat} {l:List PBox} {k:List PBox→Prop},fzB i es rk n l k→∃ r,FzBs i es l r∧(∀ j B,l[j]? = some B→n + j = i→r[j]? = some .dead)∧k r
 | _,[],k,h => ⟨[],trivial,by simp,h⟩
 | n,B :: Bs,k,h => by
  have go:∀ {B':PBox} {k':List PBox→Prop},FzB i es B B'→(n = i→B' = .dead)→fzB i es rk (n + 1) Bs k'→(∀ r,k' r→k (B' :: r))→∃ r,FzBs i es (B :: Bs) r∧(∀ j C,(B :: Bs)[j]? = some C→n + j = i→r[j]? = some .dead)∧k r:=by
   intro B' k' h1 h2 h3 h4
   obtain ⟨r,r1,r2,r3⟩:=qGQ h3
   refine ⟨B' :: r,⟨h1,r1⟩,fun j C hC hj => ?_,h4 r r3⟩
   cases j with
   | zero => simp [h2 (by omega)]
   | succ j => simpa using r2 j C (by simpa using hC) (by omega)
  unfold fzB at h
  split at h
  ·exact go (.d _) (fun _ => rfl) h (fun _ x => x)
  ·rename_i hn
   have hn':n ≠ i:=by simpa using hn
   split at h
   ·exact go (.d _) (fun _ => rfl) h (fun _ x => x)
   ·split at h
    ·exact go (.k _ _ h.1) (fun e => absurd e hn') h.2 (fun _ x => x)
    ·obtain ⟨cs',h1,h2⟩:=qBt h
     exact go (.c _ _ _ h1) (fun e => absurd e hn') h2 (fun _ x => x)
   ·exact go (.m _ h.1) (fun e => absurd e hn') h.2 (fun _ x => x)
theorem qCy {P:Program} {m:Nat}:∀ {sc:List It} {st:PSt} {k:List It→PSt→Prop},fzK m sc st k→∃ sc' st',Weak P m st st'∧k sc' st'
 | [],st,k,h => ⟨[],st,.refl _,by simpa [fzK] using h⟩
 | x :: sc,st,k,h => by
  unfold fzK at h
  split at h
  ·rename_i i es lv rk sc' heq
   cases heq
   obtain ⟨h1,h2,h3,h4⟩:=h
   obtain ⟨own,hB⟩:=qF9 h3
   obtain ⟨tm,t1,h5⟩:=qCx h4
   obtain ⟨H,b1,b2,h6⟩:=qGQ h5
   rw [qaq] at h6
   obtain ⟨sc2,st2,w1,h7⟩:=qCy h6
   exact ⟨sc2,st2,Weak.trans (FZ.weak (st':=⟨tm,H,_⟩) ⟨h1,h2,⟨own,hB⟩,b2 i _ hB (by omega),t1,b1,fun x hx => (List.mem_filter.1 hx).1⟩) w1,h7⟩
  ·exact ⟨_,_,.refl _,h⟩
end Go.Proofs.YtgldgpdhblndkaaGreatDoor
