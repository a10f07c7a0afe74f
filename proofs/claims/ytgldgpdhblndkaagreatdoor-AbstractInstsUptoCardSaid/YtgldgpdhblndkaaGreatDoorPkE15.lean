/- WHAT IS PROVED: parts of the proof, put together by a program (SatC). Conditions: none. -/
import Derived.Test.YtgldgpdhblndkaaGreatDoorPkE14
noncomputable section
namespace Go.Proofs.YtgldgpdhblndkaaGreatDoor
open Go
def putK (st:PSt) (dst:Option Tmp) (p:PVal) (ro:List (Nat×TypeId)) (H:List PBox) (K:PSt→Prop):Prop :=
 match dst with
 | some d => setK st.tmps d p fun tm => qa2 ((ro.map fun x => ((d,x.1),x.2)) ++ qbB d st.own) fun ow => K ⟨tm,H,ow⟩
 | none => K ⟨st.tmps,H,st.own⟩
theorem ql8 (st:PSt) (dst:Option Tmp) (p:PVal) (ro:List (Nat×TypeId)) (H:List PBox) (K:PSt→Prop):putK st dst p ro H K = K (putv st dst p ro H):=by
 cases dst with
 | none => rfl
 | some d => simp only [putK,qaV,qaq,putv]
def qFk (P:Program) (GE:List (Nat×List PVal)) (f:Operand) (args:List Operand) (tmps:List PVal) (sc:List It) (K:PVal→List (Nat×TypeId)→List It→Prop):Prop :=
 opK GE tmps f fun vf => match vf with
  | .func (.func g) first cap => opsK GE tmps args fun as => match sc with
   | .c r ro :: sc' => CC P GE g (first ++ as ++ cap) r ro∧K r ro sc'
   | _ => False
  | _ => False
def qnX (P:Program) (GE:List (Nat×List PVal)) (o:Oper) (id:Nat) (sc:List It) (st:PSt) (K:List It→PSt→Prop):Prop :=
 match qkt o st.tmps.length with
 | false => False
 | true => match o.op with
  | .call { callee := .value f,args,.. } => qFk P GE f args.toList st.tmps sc fun r ro sc' => putK st o.dst r ro st.boxes fun st' => K sc' st'
  | .alloc t => match sc with
   | .x zs :: sc' => qh0 P t = some zs∧qa2 (qEI P t) fun ow => setK st.boxes id (.cells zs ow) fun H => putK st o.dst (.bptr id 0) [] H fun st' => K sc' st'
   | _ => False
  | .box _ x => opK GE st.tmps x fun vx => match sc with
   | .x cs :: sc' => qaJ vx = some cs∧setK st.boxes id (.cells cs []) fun H => putK st o.dst (.bptr id 0) [] H fun st' => K sc' st'
   | _ => False
  | .makeMap _ none => setK st.boxes id (.map []) fun H => putK st o.dst (.mapr id) [] H fun st' => K sc st'
  | op => qFV P GE op st.tmps st.boxes sc fun p H sc' => putK st o.dst p [] H fun st' => K sc' st'
def inB (n d:Nat) (K:Prop):Prop:=match decide (d < n) with
 | true => K
 | false => False
theorem qkI {n d:Nat} {K:Prop} (h:inB n d K):d < n∧K:=by
 unfold inB at h
 split at h
 ·rename_i hd; exact ⟨by simpa using hd,h⟩
 ·exact h.elim
def qxe (P:Program) (st:PSt) (T e:TypeId) (t:Nat) (dst:Option Tmp) (vx vt:PVal) (sc:List It) (K:List It→PSt→Prop):Prop :=
 match vx with
 | .bptr i off => match qc4 P T (.bptr i off) vt st.boxes with
  | some H => qj6 H i fun B => match B with
   | .cells cs own => match vt.one with
    | true => qa2 cs fun cs' => setK H i (.cells cs' ((off,e) :: own)) fun H' => putK { st with own:=st.own.filter fun x => x.1 != (t,0) } dst (.val undef) [] H' fun st' => K sc st'
    | false => False
   | _ => False
  | none => False
 | _ => False
def qAB (P:Program) (GE:List (Nat×List PVal)) (A:List Nat) (o:Oper) (id:Nat) (sc:List It) (st:PSt) (K:List It→PSt→Prop):Prop :=
 match o.op,o.dst with
 | .assign (.tmp t),some d => inB st.tmps.length d (getK st.tmps t fun p => setK st.tmps d p fun tm => qa2 (qgr d (fun x => if x.1 = t then (d,x.2) else x) st.own) fun ow => K sc ⟨tm,st.boxes,ow⟩)
 | .move (.tmp t),some d => match decide (d ∈ A) with
  | true => inB st.tmps.length d (getK st.tmps t fun p => setK st.tmps d p fun tm => qa2 (qgr d (fun x => if x.1 = t then (d,x.2) else x) st.own) fun ow => K sc ⟨tm,st.boxes,ow⟩)
  | false => qnX P GE o id sc st K
 | .assign (.const v),some d => match qne P o.type v with
  | some e => inB st.tmps.length d (setK st.tmps d (.slice []) fun tm => qa2 (((d,0),e) :: qbB d st.own) fun ow => K sc ⟨tm,st.boxes,ow⟩)
  | none => qnX P GE o id sc st K
 | .move (.const v),some d => match qne P o.type v with
  | some e => inB st.tmps.length d (setK st.tmps d (.slice []) fun tm => qa2 (((d,0),e) :: qbB d st.own) fun ow => K sc ⟨tm,st.boxes,ow⟩)
  | none => qnX P GE o id sc st K
 | .extract (.tmp t) i,some d => inB st.tmps.length d (getK st.tmps t fun vt => know (qmo vt i) fun p => setK st.tmps d p fun tm => qa2 (qgr d (fun x => if x = (t,i) then (d,0) else x) st.own) fun ow => K sc ⟨tm,st.boxes,ow⟩)
 | .buildSlice T len parts,some d => inB st.tmps.length d (qpK GE st.tmps parts.toList fun ps => match sc,P.underlying T with
  | .v p :: sc',some (.slice e) => qdp P T len ps = some p∧setK st.tmps d p fun tm => qa2 (((d,0),e) :: qbB d st.own) fun ow => K sc' ⟨tm,st.boxes,ow⟩
  | _,_ => False)
 | .call { callee := .builtin .append,args:=⟨[.tmp t,y]⟩,argTypes:=⟨[T,T']⟩ },some d => inB st.tmps.length d (getK st.tmps t fun ve => opK GE st.tmps y fun vn => match ve,vn,sc,P.underlying T with
  | .slice es,.slice ns,.v p :: sc',some (.slice e) => match decide (T = T') && decide (((t,0),e) ∈ st.own) with
   | true => qhU P T es ns = some p∧setK st.tmps d p fun tm => qa2 (((d,0),e) :: qbB d (st.own.filter fun x => x.1 != (t,0))) fun ow => K sc' ⟨tm,st.boxes,ow⟩
   | false => False
  | _,_,_,_ => False)
 | .load T x,some d => match decide (d ∈ A) with
  | true => inB st.tmps.length d (opK GE st.tmps x fun vx => match vx,P.underlying T with
   | .bptr i off,some (.slice e) => qj6 st.boxes i fun B => match B with
    | .cells cs own => match decide ((off,e) ∈ own) && decide (off < cs.length) with
     | true => getK cs off fun p => setK st.tmps d p fun tm => qa2 (own.filter fun x => x.1 != off) fun own' => setK st.boxes i (.cells cs own') fun H => qa2 (((d,0),e) :: qbB d st.own) fun ow => K sc ⟨tm,H,ow⟩
     | false => False
    | _ => False
   | _,_ => False)
  | false => qnX P GE o id sc st K
 | .store T x (.tmp t),_ => match st.own.find? (fun y => y.1 == (t,0)) with
  | some (_,e) => opK GE st.tmps x fun vx => getK st.tmps t fun vt => qxe P st T e t o.dst vx vt sc K
  | none => qnX P GE o id sc st K
 | _,_ => qnX P GE o id sc st K
def isB:Value→Bool
 | .bool _ => true
 | _ => false
def qyW (ops:Array Oper) (j:Nat) (want:Bool) (pos:Nat) (sc:List It) (st:PSt) (go:Bool→List It→PSt→Prop):Prop :=
 match (ops[j]?).bind (·.dst) with
 | none => False
 | some t => getK st.tmps t fun p => match p with
  | .bool x => match sc with
   | .g pos' b :: sc' => match pos' == pos with
    | true => x = b∧setK st.tmps t (.bool b) fun tm => go (b == want) sc' ⟨tm,st.boxes,st.own⟩
    | false => go (x == want) sc st
   | _ => go (x == want) sc st
  | .val v => match isB v with
   | true => False
   | false => go false sc st
  | _ => False
def qn8:List Nat→Bool
 | [] => true
 | x :: r => !(r.contains x) && qn8 r
theorem qi0:∀ {l:List Nat},qn8 l = true→l.Nodup
 | [],_ => .nil
 | x :: r,h => by
  simp only [qn8,Bool.and_eq_true,Bool.not_eq_true',List.contains_eq_mem,decide_eq_false_iff_not] at h
  exact List.nodup_cons.2 ⟨h.1,qi0 h.2⟩
def qDr (t:Nat) (own:List ((Nat×Nat)×TypeId)):List (Nat×TypeId):=own.filterMap fun x => if x.1.1 == t then some (x.1.2,x.2) else none
theorem qvW {t:Nat} {own:List ((Nat×Nat)×TypeId)} {y:Nat×TypeId} (h:y ∈ qDr t own):((t,y.1),y.2) ∈ own:=by
 unfold qDr at h
 obtain ⟨⟨⟨t',k⟩,e⟩,hx,he⟩:=List.mem_filterMap.1 h
 split at he
 ·rename_i ht
  simp only [beq_iff_eq] at ht
  cases he; subst ht; exact hx
 ·cases he
def qGh (off n:Nat) (own:List (Nat×TypeId)):List (Nat×TypeId):=own.filterMap fun x => if decide (off ≤ x.1) && decide (x.1 < off + n) then some (x.1 - off,x.2) else none
theorem qra {off n:Nat} {own:List (Nat×TypeId)} {y:Nat×TypeId} (h:y ∈ qGh off n own):(off + y.1,y.2) ∈ own∧y.1 < n:=by
 unfold qGh at h
 obtain ⟨⟨k,e⟩,hx,he⟩:=List.mem_filterMap.1 h
 split at he
 ·rename_i ht
  simp only [Bool.and_eq_true,decide_eq_true_eq] at ht
  cases he
  have:off + (k - off) = k:=by omega
  exact ⟨by rw [this]; exact hx,by simp only; omega⟩
 ·cases he
def RixL (ρ:List Nat):List PVal→List PVal→Prop
 | [],[] => True
 | p :: ps,q :: qs => Rix ρ p q∧RixL ρ ps qs
 | _,_ => False
theorem RixL.len {ρ:List Nat}:∀ {l r:List PVal},RixL ρ l r→l.length = r.length
 | [],[],_ => rfl
 | [],_ :: _,h => h.elim
 | _ :: _,[],h => h.elim
 | _ :: _,_ :: _,h => by simp [RixL.len h.2]
theorem RixL.get {ρ:List Nat}:∀ {l r:List PVal},RixL ρ l r→∀ (i:Nat) p q,l[i]? = some p→r[i]? = some q→Rix ρ p q
 | [],[],_,i,p,q,hp,_ => by simp at hp
 | [],_ :: _,h,_,_,_,_,_ => h.elim
 | _ :: _,[],h,_,_,_,_,_ => h.elim
 | _ :: _,_ :: _,h,0,p,q,hp,hq => by simp at hp hq; subst hp; subst hq; exact h.1
 | _ :: _,_ :: _,h,i + 1,p,q,hp,hq => RixL.get h.2 i p q (by simpa using hp) (by simpa using hq)
def RixB (ρ:List Nat):PBox→PBox→Prop
 | .cells cs own,.cells cs' own' => own = own'∧RixL ρ cs cs'
 | .map es,.map es' => es = es'∧∀ x ∈ es,x.1.cl 0∧x.2.cl 0
 | _,_ => False
theorem RixB.to {ρ:List Nat} {B B':PBox} (h:RixB ρ B B'):qh4 ρ B B':=by
 cases B <;> cases B' <;> simp only [RixB] at h
 ·exact ⟨h.1,h.2.len,h.2.get⟩
 ·obtain ⟨rfl,h⟩:=h
  refine ⟨rfl,fun i k u k' u' h1 h2 => ?_⟩
  rw [h1] at h2; cases h2
  obtain ⟨q1,q2⟩:=h _ (List.mem_of_getElem? h1)
  exact ⟨.refl _ q1,.refl _ q2⟩
def qqG (ρ:List Nat) (H:List PBox):List Nat→List PBox→List PBox→Prop
 | [],[],[] => True
 | j :: js,B :: Bs,Bc :: Hc => (qj6 H j fun B0 => fgB1 B0 B = B∧RixB ρ B Bc)∧qqG ρ H js Bs Hc
 | _,_,_ => False
def qyU (ρ:List Nat):List PBox→List PBox→Prop
 | [],[] => True
 | B :: Bs,Bc :: Hc => RixB ρ B Bc∧qyU ρ Bs Hc
 | _,_ => False
def qu8 (H:List PBox):List Nat→List PBox→List PBox
 | j :: js,B :: Bs => qu8 (H.set j B) js Bs
 | _,_ => H
def qCG (H:List PBox):List Nat→List PBox→(List PBox→Prop)→Prop
 | j :: js,B :: Bs,K => setK H j B fun H' => qCG H' js Bs K
 | _,_,K => K H
theorem qrm:∀ (H:List PBox) (js:List Nat) (Bs:List PBox) (K:List PBox→Prop),qCG H js Bs K = K (qu8 H js Bs)
 | H,[],_,K => by cases ‹List PBox› <;> rfl
 | H,_ :: _,[],K => rfl
 | H,j :: js,B :: Bs,K => by simp only [qCG,qaV,qrm,qu8]
theorem qvg:∀ (H:List PBox) (js:List Nat) (Bs:List PBox),(qu8 H js Bs).length = H.length
 | H,[],_ => by cases ‹List PBox› <;> rfl
 | H,_ :: _,[] => rfl
 | H,j :: js,B :: Bs => by simp only [qu8,qvg,List.length_set]
theorem qn4:∀ (H:List PBox) (js:List Nat) (Bs:List PBox) {j:Nat},j ∉ js→(qu8 H js Bs)[j]? = H[j]?
 | H,[],Bs,_,_ => by cases Bs <;> rfl
 | H,_ :: _,[],_,_ => rfl
 | H,k :: js,B :: Bs,j,h => by
  simp only [List.mem_cons,not_or] at h
  simp only [qu8]
  rw [qn4 _ js Bs h.2,List.getElem?_set_ne (Ne.symm h.1)]
theorem quJ:∀ (H:List PBox) (js:List Nat) (Bs:List PBox),js.Nodup→js.length = Bs.length→(∀ j ∈ js,j < H.length)→∀ (i j:Nat) B,js[i]? = some j→Bs[i]? = some B→(qu8 H js Bs)[j]? = some B
 | H,[],Bs,_,_,_,i,j,B,hj,_ => by simp at hj
 | H,_ :: _,[],_,hl,_,_,_,_,_,_ => by simp at hl
 | H,k :: js,B0 :: Bs,hn,hl,hlt,i,j,B,hj,hB => by
  obtain ⟨hn1,hn2⟩:=List.nodup_cons.1 hn
  simp only [qu8]
  cases i with
  | zero =>
   simp at hj hB; subst hj; subst hB
   rw [qn4 _ js Bs hn1,List.getElem?_set_self (hlt _ (by simp))]
  | succ i => exact quJ _ js Bs hn2 (by simpa using hl) (fun x hx => by rw [List.length_set]; exact hlt x (by simp [hx])) i j B (by simpa using hj) (by simpa using hB)
theorem qxd {ρ:List Nat} {H:List PBox}:∀ {js:List Nat} {Bs Hc:List PBox},qqG ρ H js Bs Hc→js.length = Bs.length∧Hc.length = js.length∧(∀ j ∈ js,j < H.length) ∧
  ∀ (i j:Nat) B Bc,js[i]? = some j→Bs[i]? = some B→Hc[i]? = some Bc→(∃ B0,H[j]? = some B0∧fgB1 B0 B = B)∧qh4 ρ B Bc
 | [],[],[],_ => ⟨rfl,rfl,by simp,by simp⟩
 | [],_ :: _,_,h => by simp [qqG] at h
 | [],[],_ :: _,h => by simp [qqG] at h
 | _ :: _,[],_,h => by simp [qqG] at h
 | _ :: _,_ :: _,[],h => by simp [qqG] at h
 | k :: js,B :: Bs,Bc :: Hc,h => by
  obtain ⟨h1,h2⟩:=h
  obtain ⟨B0,hB0,h3,h4⟩:=qcA h1
  obtain ⟨k1,k2,k3,k4⟩:=qxd h2
  refine ⟨by simp [k1],by simp [k2],fun j hj => ?_,fun i j b bc hj hb hbc => ?_⟩
  ·rcases List.mem_cons.1 hj with rfl | hj
   ·exact qae hB0
   ·exact k3 j hj
  ·cases i with
   | zero => simp at hj hb hbc; subst hj; subst hb; subst hbc; exact ⟨⟨B0,hB0,h3⟩,h4.to⟩
   | succ i => exact k4 i j b bc (by simpa using hj) (by simpa using hb) (by simpa using hbc)
theorem qvd {ρ:List Nat}:∀ {Bs Hc:List PBox},qyU ρ Bs Hc→Bs.length = Hc.length∧∀ (i:Nat) B Bc,Bs[i]? = some B→Hc[i]? = some Bc→qh4 ρ B Bc
 | [],[],_ => ⟨rfl,by simp⟩
 | [],_ :: _,h => h.elim
 | _ :: _,[],h => h.elim
 | B :: Bs,Bc :: Hc,h => by
  obtain ⟨k1,k2⟩:=qvd h.2
  refine ⟨by simp [k1],fun i b bc hb hbc => ?_⟩
  cases i with
  | zero => simp at hb hbc; subst hb; subst hbc; exact h.1.to
  | succ i => exact k2 i b bc (by simpa using hb) (by simpa using hbc)
def qIx (t:Nat):Option Operand→Bool
 | some (.tmp u) => u == t
 | _ => false
def qG7:Option Operand→Bool
 | some (.const v) => qgO v
 | _ => false
def oaOk (n:Nat) (args:List Operand) (own:List ((Nat×Nat)×TypeId)) (oa:List OA):Bool :=
 oa.all (fun x => decide (n ≤ x.i) && ((qG7 args[x.i - n]? && x.k == 0) || (decide (((x.t,x.k),x.e) ∈ own) && qIx x.t args[x.i - n]?))) && oa.all fun x => oa.all fun y => !(x.t == y.t && x.k == y.k) || x.i == y.i
def qE7:PBox→Bool
 | .dead => false
 | _ => true
def qnT (P:Program) (GE:List (Nat×List PVal)) (f:Operand) (args:List Operand) (c:GC) (st:PSt) (K:List PBox→Prop):Prop :=
 opK GE st.tmps f fun vf => match vf with
 | .func (.func g) first cap => opsK GE st.tmps args fun as => match qn8 c.ρ && oaOk first.length args st.own c.oa && c.Bs.all qE7 && decide (c.Bs'.length = c.ρ.length) with
  | true => C P GE g c.argsC (c.oa.map fun x => ((x.i,x.k),x.e)) c.Hc c.rc c.ro c.Hc'∧RixL c.ρ (first ++ as ++ cap) c.argsC∧qqG c.ρ st.boxes c.ρ c.Bs c.Hc∧qyU c.ρ c.Bs' c.Hc'∧Rix c.ρ c.r c.rc ∧
    qCG st.boxes c.ρ c.Bs' K
  | false => False
 | _ => False
theorem qrC {P:Program} {GE:List (Nat×List PVal)} {f:Operand} {args:List Operand} {c:GC} {st:PSt} {K:List PBox→Prop} (h:qnT P GE f args c st K) :
  ∃ H',GCall P GE f args st c.r c.ro H' c.oa∧K H':=by
 unfold qnT at h
 rw [qbr] at h
 split at h
 ·rename_i g first cap hf
  rw [qm6] at h
  split at h
  ·rename_i hb
   simp only [Bool.and_eq_true,decide_eq_true_eq] at hb
   obtain ⟨⟨⟨b1,b2⟩,b3⟩,b4⟩:=hb
   obtain ⟨h1,h2,h3,h4,h5,h6⟩:=h
   rw [qrm] at h6
   have hn:=qi0 b1
   obtain ⟨i1,i2,i3,i4⟩:=qxd h3
   obtain ⟨o1,o2⟩:=qvd h4
   unfold oaOk at b2
   rw [Bool.and_eq_true] at b2
   obtain ⟨c1,c2⟩:=b2
   have hgetB:∀ {i j:Nat},c.ρ[i]? = some j→∃ B,c.Bs[i]? = some B:=fun {i j} hj => ⟨_,List.getElem?_eq_getElem (by rw [← i1]; exact qae hj)⟩
   have hgetH:∀ {i j:Nat},c.ρ[i]? = some j→∃ B,c.Hc[i]? = some B:=fun {i j} hj => ⟨_,List.getElem?_eq_getElem (by rw [i2]; exact qae hj)⟩
   refine ⟨_,⟨g,first,cap,c.argsC,c.ρ,qu8 st.boxes c.ρ c.Bs,c.Hc,c.Hc',c.rc,hf,hn,h1,⟨qvg _ _ _,fun i B hB => ?_⟩,⟨i2,fun i j hj => ?_⟩,⟨by rw [← o1]; exact b4,fun i j hj => ?_⟩,qvg _ _ _,fun j hj => by rw [qn4 _ _ _ hj,qn4 _ _ _ hj],h5,h2.len,h2.get,fun x hx => ?_,fun x hx y hy e1 e2 => ?_⟩,h6⟩
   ·by_cases hi:i ∈ c.ρ
    ·obtain ⟨k,hk⟩:=List.mem_iff_getElem?.1 hi
     obtain ⟨B1,hB1⟩:=hgetB hk
     obtain ⟨Bc,hBc⟩:=hgetH hk
     obtain ⟨⟨B0,hB0,hfg⟩,_⟩:=i4 k i B1 Bc hk hB1 hBc
     rw [quJ _ _ _ hn i1 i3 k i B1 hk hB1] at hB
     cases hB
     refine ⟨B0,hB0,?_⟩
     rcases qFx B0 B with hx | hx | hx
     ·rw [hfg] at hx
      have:=List.all_eq_true.1 b3 B (List.mem_of_getElem? hB1)
      rw [hx] at this; cases this
     ·rw [hfg] at hx; exact .inl hx
     ·rw [hfg] at hx; exact .inr hx
    ·rw [qn4 _ _ _ hi] at hB
     exact ⟨B,hB,.inl rfl⟩
   ·obtain ⟨B1,hB1⟩:=hgetB hj
    obtain ⟨Bc,hBc⟩:=hgetH hj
    exact ⟨B1,Bc,quJ _ _ _ hn i1 i3 i j B1 hj hB1,hBc,(i4 i j B1 Bc hj hB1 hBc).2⟩
   ·have hi:=qae hj
    have e1:=List.getElem?_eq_getElem (l:=c.Bs') (i:=i) (by omega)
    have e2:=List.getElem?_eq_getElem (l:=c.Hc') (i:=i) (by omega)
    exact ⟨_,_,quJ _ _ _ hn b4.symm i3 i j _ hj e1,e2,o2 i _ _ e1 e2⟩
   ·have:=List.all_eq_true.1 c1 x hx
    simp only [Bool.and_eq_true,Bool.or_eq_true,decide_eq_true_eq,beq_iff_eq] at this
    refine ⟨x.i - first.length,by omega,?_⟩
    rcases this.2 with ⟨h2,h3⟩ | ⟨h2,h3⟩
    ·left
     unfold qG7 at h2
     split at h2
     ·rename_i v hv
      unfold qgO at h2
      split at h2
      ·exact ⟨hv,h3⟩
      ·cases h2
     ·cases h2
    ·right
     unfold qIx at h3
     split at h3
     ·rename_i u hu
      simp only [beq_iff_eq] at h3
      subst h3; exact ⟨h2,hu⟩
     ·cases h3
   ·have:=List.all_eq_true.1 (List.all_eq_true.1 c2 x hx) y hy
    simp only [Bool.or_eq_true,Bool.not_eq_true',Bool.and_eq_false_iff,beq_eq_false_iff_ne,ne_eq,beq_iff_eq] at this
    rcases this with (hx | hx) | hx
    ·exact absurd e1 hx
    ·exact absurd e2 hx
    ·exact hx
  ·exact h.elim
 ·exact h.elim
def qyS (P:Program) (GE:List (Nat×List PVal)) (A:List Nat) (o:Oper) (id:Nat) (sc:List It) (st:PSt) (K:List It→PSt→Prop):Prop :=
 match o.op,sc with
 | .build T parts,.b p L :: sc' => match o.dst with
  | some d => inB st.tmps.length d (qpK GE st.tmps parts.toList fun ps => qbL P T ps = some p∧pnil P T ps L∧setK st.tmps d p fun tm => qa2 ((L.map fun x => ((d,x.1),x.2)) ++ qbB d st.own) fun ow => K sc' ⟨tm,st.boxes,ow⟩)
  | none => False
 | .store T x (.tmp t),.y vs :: sc' => getK st.tmps t fun vt => match vt with
  | .agg l => match o.dst with
   | none => opK GE st.tmps x fun vx => match vx with
    | .bptr i off => qa2 (qDr t st.own) fun L => l = vs∧qj6 st.boxes i fun B => match B with
     | .cells cs own => match qn8 (L.map (·.1)) && decide (vs.length = P.cellsOf T) && (P.info? T).isSome && decide (off + vs.length ≤ cs.length) && vs.all PVal.one with
      | true => qa2 (cs.take off ++ vs ++ cs.drop (off + vs.length)) fun cs' => qa2 ((L.map fun y => (off + y.1,y.2)).reverse ++ own.filter fun y => y.1 < off || off + vs.length ≤ y.1) fun own' =>
        setK st.boxes i (.cells cs' own') fun H => qa2 (st.own.filter fun x => !L.any fun y => x.1 == (t,y.1)) fun ow => K sc' ⟨st.tmps,H,ow⟩
      | false => False
     | _ => False
    | _ => False
   | some _ => False
  | _ => qAB P GE A o id sc st K
 | .load T x,.z l :: sc' => match P.underlying T with
  | some (.struct _) => match o.dst with
   | some d => inB st.tmps.length d (opK GE st.tmps x fun vx => match vx with
    | .bptr i off => qj6 st.boxes i fun B => match B with
     | .cells cs own => qbg P T (cs.drop off) = some (.agg l)∧qa2 (qGh off (P.cellsOf T) own) fun L => match qn8 (L.map (·.1)) with
      | true => setK st.tmps d (.agg l) fun tm => qa2 (own.filter fun x => !L.any fun y => x.1 == off + y.1) fun own' => setK st.boxes i (.cells cs own') fun H =>
        qa2 ((L.map fun y => ((d,y.1),y.2)).reverse ++ qbB d st.own) fun ow => K sc' ⟨tm,H,ow⟩
      | false => False
     | _ => False
    | _ => False)
   | none => False
  | _ => qAB P GE A o id sc st K
 | .box _ x,.e vs :: sc' => match o.dst with
  | some d => inB st.tmps.length d (opK GE st.tmps x fun vx => qaJ vx = some vs∧setK st.tmps d (.eptr vs) fun tm => qa2 (qbB d st.own) fun ow => K sc' ⟨tm,st.boxes,ow⟩)
  | none => False
 | .call { callee := .value f,args,.. },.cg c :: sc' => match o.dst with
  | some d => inB st.tmps.length d (qnT P GE f args.toList c st fun H => setK st.tmps d c.r fun tm => qa2 ((c.ro.map fun x => ((d,x.1),x.2)) ++ qbB d (st.own.filter fun z => !c.oa.any fun x => z.1 == (x.t,x.k))) fun ow => K sc' ⟨tm,H,ow⟩)
  | none => False
 | .call { callee := .builtin .append,args:=⟨[.tmp t,y]⟩,argTypes:=⟨[T,T']⟩ },.ar i e n cs :: sc' => match o.dst with
  | some d => inB st.tmps.length d (getK st.tmps t fun ve => opK GE st.tmps y fun vn => match ve,vn with
   | .slice [],.slice ns => match decide (T = T') && decide (((t,0),e) ∈ st.own) && decide (i = st.boxes.length) with
    | true => P.underlying T = some (.slice e)∧(∃ p,qhU P T [] ns = some p)∧(n = ns.length∧cs = ns.flatten) ∧
      setK st.tmps d (.bsl i 0 n) fun tm => qa2 (qbB d (st.own.filter fun x => x.1 != (t,0))) fun ow => appK st.boxes [.cells cs []] fun H => K sc' ⟨tm,H,ow⟩
    | false => False
   | _,_ => False)
  | none => False
 | .call { callee := .value f,args:=⟨[x]⟩,.. },.ar i e n cs :: sc' => match o.dst with
  | some d => inB st.tmps.length d (opK GE st.tmps f fun vf => opK GE st.tmps x fun vn => match vf,vn with
   | .func (.func g) [] [],.slice ns => match decide (i = st.boxes.length) with
    | true => qkh P g e∧(0 < P.cellsOf e∧(∀ x ∈ ns,x.length = P.cellsOf e∧∀ q ∈ x,q.one = true)∧ns.length ≤ qdH)∧(n = ns.length∧cs = ns.flatten) ∧
      setK st.tmps d (.bsl i 0 n) fun tm => qa2 (qbB d st.own) fun ow => appK st.boxes [.cells cs []] fun H => K sc' ⟨tm,H,ow⟩
    | false => False
   | _,_ => False)
  | none => False
 | .store T x (.const v),.ar _ e _ _ :: sc' => match o.dst,qgO v with
  | none,true => opK GE st.tmps x fun vx => opK GE st.tmps (.const v) fun vy => match vx,qaJ vy with
   | .bptr i off,some vs => qj6 st.boxes i fun B => match B with
    | .cells cs own => match decide (vs.length = P.cellsOf T) && (P.info? T).isSome && decide (off + vs.length ≤ cs.length) && vs.all PVal.one with
     | true => qa2 (cs.take off ++ vs ++ cs.drop (off + vs.length)) fun cs' => qa2 ((off,e) :: own.filter fun y => y.1 < off || off + vs.length ≤ y.1) fun own' => setK st.boxes i (.cells cs' own') fun H => K sc' ⟨st.tmps,H,st.own⟩
     | false => False
    | _ => False
   | _,_ => False
  | _,_ => False
 | _,_ => qAB P GE A o id sc st K
def qA1 (P:Program) (GE:List (Nat×List PVal)) (A:List Nat) (ops:Array Oper) (K:List It→PSt→Prop):List Oper→Nat→Nat→List It→PSt→Prop
 | [],_,_,sc,st => K sc st
 | o :: rest,pos,id,sc,st =>
  let step (sc:List It) (st:PSt):Prop:=qyS P GE A o id sc st fun sc' st' => qA1 P GE A ops K rest (pos + 1) (id + if qak o.op then 1 else 0) sc' st'
  match o.guard with
  | none => step sc st
  | some (j,want) => qyW ops j want pos sc st fun b sc' st' => match b with
   | true => step sc' st'
   | false => putK st' o.dst (.val undef) [] st'.boxes fun st'' => qA1 P GE A ops K rest (pos + 1) (id + if qak o.op then 1 else 0) sc' st''
section
variable {P:Program} {GE:List (Nat×List PVal)} {A:List Nat} {ops:Array Oper}
theorem qzF {f:Operand} {args:List Operand} {tmps:List PVal} {H:List PBox} {sc:List It} {K:PVal→List (Nat×TypeId)→List It→Prop} (h:qFk P GE f args tmps sc K) :
  qwk P GE (opv GE tmps f) (args.map (opv GE tmps)) H fun r ro H' => H' = H∧∃ sc',K r ro sc':=by
 unfold qFk at h
 rw [qbr] at h
 split at h
 ·rename_i g first cap hf
  rw [qm6] at h
  split at h
  ·rename_i r ro sc'
   rw [hf]
   exact .inl ⟨h.1.1,r,ro,h.1.2,rfl,sc',h.2⟩
  ·exact h.elim
 ·exact h.elim
theorem qrJ {op:Op} {id:Nat} {v:Operand→PVal} {H H':List PBox} {p:PVal} {K:PVal→List (Nat×TypeId)→List PBox→Prop} (hn:∀ f args tys,op ≠ .call { callee := .value f,args,argTypes:=tys })
  (h:pev P op id v H = some (p,H')) (hk:K p [] H'):pdo P GE op id v H K:=by
 unfold pdo
 split
 ·rename_i f args tys; exact absurd rfl (hn _ _ _)
 ·rw [h]; exact hk
theorem qfO {o:Oper} {id:Nat} {sc:List It} {st:PSt} {K:List It→PSt→Prop} (h:qnX P GE o id sc st K) :
  qkt o st.tmps.length = true∧pdo P GE o.op id (opv GE st.tmps) st.boxes fun p ro H => (fun st' => ∃ sc',K sc' st') (putv st o.dst p ro H):=by
 unfold qnX at h
 split at h
 ·exact h.elim
 ·rename_i hc
  refine ⟨hc,?_⟩
  split at h
  ·rename_i f args tys ho
   have:=qzF (H:=st.boxes) h
   unfold pdo
   simp only [ho]
   unfold qwk at this ⊢
   split at this
   ·rcases this with ⟨k1,r,ro,k2,_,sc',k3⟩ | ⟨ρ,argsC,Hc,rc,ro,Hc',H',r,k1,k2,k3,k4,k5,k6,k7,k8,k9,rfl,sc',k10⟩
    ·rw [ql8] at k3; exact .inl ⟨k1,r,ro,k2,sc',k3⟩
    ·rw [ql8] at k10; exact .inr ⟨ρ,argsC,Hc,rc,ro,Hc',_,r,k1,k2,k3,k4,k5,k6,k7,k8,k9,sc',k10⟩
   ·exact this.elim
  ·rename_i t ho
   split at h
   ·rename_i zs sc'
    obtain ⟨h1,h2⟩:=h
    simp only [qaq,qaV,ql8] at h2
    rw [ho]
    exact qrJ (by simp) (by simp only [pev,h1,Option.map_some]) ⟨sc',h2⟩
   ·exact h.elim
  ·rename_i t x ho
   rw [qbr] at h
   split at h
   ·rename_i cs sc'
    obtain ⟨h1,h2⟩:=h
    simp only [qaV,ql8] at h2
    rw [ho]
    exact qrJ (by simp) (by simp only [pev,h1,Option.map_some]) ⟨sc',h2⟩
   ·exact h.elim
  ·rename_i t ho
   simp only [qaV,ql8] at h
   rw [ho]
   exact qrJ (by simp) (by simp only [pev]) ⟨_,h⟩
  ·rename_i n1 n2 n3 n4
   obtain ⟨p,H',sc',k1,k2,_⟩:=qwa (id:=id) h
   rw [ql8] at k2
   exact qrJ (fun f args tys e => n1 f args tys e) k1 ⟨sc',k2⟩
theorem qnO {o:Oper} {id:Nat} {sc:List It} {st:PSt} {K:List It→PSt→Prop} (h:qAB P GE A o id sc st K):qzR P GE A o id (fun st' => ∃ sc',K sc' st') st:=by
 unfold qAB at h
 unfold qzR
 split at h
 case h_1 t d ho hd =>
  obtain ⟨h1,h2⟩:=qkI h
  simp only [qfx,qaV,qaq] at h2
  simp only [ho,hd]
  exact ⟨h1,_,h2⟩
 case h_2 t d ho hd =>
  simp only [ho,hd]
  split at h
  ·rename_i hA
   obtain ⟨h1,h2⟩:=qkI h
   simp only [qfx,qaV,qaq] at h2
   rw [if_pos (by simpa using hA)]
   exact ⟨h1,_,h2⟩
  ·rename_i hA
   rw [if_neg (by simpa using hA)]
   have:=qfO h
   rw [ho,hd] at this
   exact this
 case h_3 v d ho hd =>
  simp only [ho,hd]
  split at h
  ·rename_i e he
   obtain ⟨h1,h2⟩:=qkI h
   simp only [qaV,qaq] at h2
   simp only [he]
   exact ⟨h1,_,h2⟩
  ·rename_i he
   simp only [he]
   have:=qfO h
   rw [ho,hd] at this
   exact this
 case h_4 v d ho hd =>
  simp only [ho,hd]
  split at h
  ·rename_i e he
   obtain ⟨h1,h2⟩:=qkI h
   simp only [qaV,qaq] at h2
   simp only [he]
   exact ⟨h1,_,h2⟩
  ·rename_i he
   simp only [he]
   have:=qfO h
   rw [ho,hd] at this
   exact this
 case h_5 t i d ho hd =>
  obtain ⟨h1,h2⟩:=qkI h
  rw [qfx] at h2
  obtain ⟨p,h3,h4⟩:=qnL h2
  simp only [qaV,qaq] at h4
  simp only [ho,hd,h3]
  exact ⟨h1,_,h4⟩
 case h_6 T len parts d ho hd =>
  obtain ⟨h1,h2⟩:=qkI h
  rw [qiX] at h2
  split at h2
  ·rename_i p sc' e hu
   obtain ⟨h3,h4⟩:=h2
   simp only [qaV,qaq] at h4
   simp only [ho,hd,h3,hu]
   exact ⟨h1,_,h4⟩
  ·exact h2.elim
 case h_7 t y T T' d ho hd =>
  obtain ⟨h1,h2⟩:=qkI h
  rw [qfx,qbr] at h2
  split at h2
  ·rename_i es ns p sc' e he hn hu
   split at h2
   ·rename_i hc
    simp only [Bool.and_eq_true,decide_eq_true_eq] at hc
    obtain ⟨h3,h4⟩:=h2
    simp only [qaV,qaq] at h4
    simp only [ho,hd,hu,he,hn,h3]
    exact ⟨hc.1,h1,hc.2,_,h4⟩
   ·exact h2.elim
  ·exact h2.elim
 case h_8 T x d ho hd =>
  simp only [ho,hd]
  split at h
  ·rename_i hA
   obtain ⟨h1,h2⟩:=qkI h
   rw [qbr] at h2
   rw [if_pos (by simpa using hA)]
   split at h2
   ·rename_i i off e hx hu
    obtain ⟨B,hB,h2⟩:=qcA h2
    split at h2
    ·rename_i cs own
     split at h2
     ·rename_i hc
      simp only [Bool.and_eq_true,decide_eq_true_eq] at hc
      simp only [qfx,qaV,qaq] at h2
      have hget:cs[off]? = some (cs.getD off .undef):=by
       rw [List.getD_eq_getElem?_getD,List.getElem?_eq_getElem hc.2]; rfl
      simp only [hx,hu,hB,hget]
      exact ⟨h1,hc.1,_,h2⟩
     ·exact h2.elim
    ·exact h2.elim
   ·exact h2.elim
  ·rename_i hA
   rw [if_neg (by simpa using hA)]
   have:=qfO h
   rw [ho,hd] at this
   exact this
 case h_9 T x t ho =>
  simp only [ho]
  split at h
  ·rename_i y e hf
   rw [qbr,qfx] at h
   simp only [hf]
   unfold qxe at h
   split at h
   ·rename_i i off hx
    split at h
    ·rename_i H hst
     obtain ⟨B,hB,h⟩:=qcA h
     split at h
     ·rename_i cs own
      split at h
      ·rename_i hone
       simp only [qaV,qaq,ql8] at h
       simp only [hx,hst,hB,hone]
       exact ⟨_,h⟩
      ·exact h.elim
     ·exact h.elim
    ·exact h.elim
   ·exact h.elim
  ·rename_i hf
   simp only [hf]
   have:=qfO h
   rw [ho] at this
   exact this
 case h_10 =>
  have:=qfO h
  split
  all_goals first
   | exact this
   | (exfalso; simp_all; done)
   | (exfalso; simp_all; rename_i hx h1 h2; exact hx _ _ _ _ rfl rfl rfl rfl)
   | (exfalso; simp_all; rename_i hx h1 h2; exact hx _ _ _ _ _ rfl rfl rfl rfl rfl)
   | (exfalso; simp_all; rename_i hx h1 h2; exact hx _ _ _ rfl rfl rfl)
theorem qsg {j:Nat} {want:Bool} {pos:Nat} {sc:List It} {st:PSt} {go:Bool→List It→PSt→Prop} (h:qyW ops j want pos sc st go) :
  ∃ x,qn6 ops st.tmps j = some x∧((x = some want∧∃ sc',go true sc' st)∨(x ≠ some want∧∃ sc',go false sc' st)):=by
 unfold qyW at h
 split at h
 ·exact h.elim
 ·rename_i t ht
  rw [qfx] at h
  have hget:∀ {p},st.tmps.getD t .undef = p→p ≠ .undef→st.tmps[t]? = some p:=by
   intro p hp hne
   rw [List.getD_eq_getElem?_getD] at hp
   cases hx:st.tmps[t]? with
   | none => rw [hx] at hp; exact absurd hp.symm hne
   | some q => rw [hx] at hp; exact congrArg some hp
  have hfin:∀ (x:Bool) sc',go (x == want) sc' st→(some x = some want∧∃ sc',go true sc' st)∨(some x ≠ some want∧∃ sc',go false sc' st):=by
   intro x sc' hg
   cases x <;> cases want <;> simp at hg ⊢ <;> exact ⟨sc',hg⟩
  split at h
  ·rename_i x hp
   have hx:=hget hp (by simp)
   have hg:qn6 ops st.tmps j = some (some x):=by unfold qn6; simp only [ht,hx]
   refine ⟨_,hg,?_⟩
   split at h
   ·rename_i pos' b sc'
    split at h
    ·obtain ⟨rfl,h⟩:=h
     rw [qaV,quG hx] at h
     exact hfin x sc' h
    ·exact hfin x _ h
   ·exact hfin x _ h
  ·rename_i v hp
   have hx:=hget hp (by simp)
   split at h
   ·exact h.elim
   ·rename_i hb
    refine ⟨none,?_,.inr ⟨by simp,_,h⟩⟩
    unfold qn6
    simp only [ht,hx]
    cases v <;> simp [isB] at hb <;> rfl
  ·exact h.elim
theorem qxO {o:Oper} {id:Nat} {sc:List It} {st:PSt} {K:List It→PSt→Prop} (h:qyS P GE A o id sc st K):qt2 P GE A o id (fun st' => ∃ sc',K sc' st') st:=by
 unfold qyS at h
 split at h
 ·rename_i T parts p L sc' ho
  split at h
  ·rename_i d hd
   obtain ⟨h1,h2⟩:=qkI h
   rw [qiX] at h2
   obtain ⟨h3,h4,h5⟩:=h2
   simp only [qaV,qaq] at h5
   refine .inr (.inl ?_)
   unfold pown
   simp only [ho,hd]
   exact ⟨p,L,h3,h4,h1,sc',h5⟩
  ·exact h.elim
 ·rename_i T x t vs sc' ho
  rw [qfx] at h
  split at h
  ·rename_i l hl
   split at h
   ·rename_i hd
    rw [qbr] at h
    split at h
    ·rename_i i off hx
     rw [qaq] at h
     obtain ⟨rfl,h⟩:=h
     obtain ⟨B,hB,h⟩:=qcA h
     split at h
     ·rename_i cs own
      split at h
      ·rename_i hc
       simp only [qaV,qaq] at h
       simp only [Bool.and_eq_true,decide_eq_true_eq] at hc
       obtain ⟨⟨⟨⟨c1,c2⟩,c3⟩,c4⟩,c5⟩:=hc
       refine .inr (.inl ?_)
       unfold pown
       simp only [ho,hd]
       have hi:=qae hB
       refine ⟨i,off,st.boxes.set i (.cells (cs.take off ++ l ++ cs.drop (off + l.length)) (own.filter fun y => y.1 < off || off + l.length ≤ y.1)),_,_,qDr t st.own,l,hx,hl,?_,List.getElem?_set_self hi,fun y hy => qvW hy,qi0 c1,sc',?_⟩
       ·simp only [qc4,qaJ,hB]
        rw [if_pos ⟨c2,c3,c4,c5⟩]
       ·rw [List.set_set]; exact h
      ·exact h.elim
     ·exact h.elim
    ·exact h.elim
   ·exact h.elim
  ·exact .inl (qnO h)
 ·rename_i T x l sc' ho
  split at h
  ·rename_i fs hT
   split at h
   ·rename_i d hd
    obtain ⟨h1,h⟩:=qkI h
    rw [qbr] at h
    split at h
    ·rename_i i off hx
     obtain ⟨B,hB,h⟩:=qcA h
     split at h
     ·rename_i cs own
      obtain ⟨h2,h⟩:=h
      rw [qaq] at h
      split at h
      ·rename_i hn
       simp only [qaV,qaq] at h
       refine .inr (.inl ?_)
       unfold pown
       simp only [ho,hd]
       have hlen:l.length = P.cellsOf T:=by
        have hp:=h2
        unfold qbg at hp
        rw [hT] at hp
        simp only at hp
        split at hp
        ·rename_i hh; cases hp; rw [List.length_take]; omega
        ·cases hp
       exact ⟨i,off,cs,own,_,l,⟨fs,hT⟩,hx,hB,h2,fun y hy => (qra hy).1,qi0 hn,fun y hy => by rw [hlen]; exact (qra hy).2,h1,sc',h⟩
      ·exact h.elim
     ·exact h.elim
    ·exact h.elim
   ·exact h.elim
  ·exact .inl (qnO h)
 ·rename_i T x vs sc' ho
  split at h
  ·rename_i d hd
   obtain ⟨h1,h⟩:=qkI h
   rw [qbr] at h
   obtain ⟨h2,h⟩:=h
   simp only [qaV,qaq] at h
   refine .inr (.inl ?_)
   unfold pown
   simp only [ho,hd]
   exact ⟨vs,h2,h1,sc',h⟩
  ·exact h.elim
 ·rename_i f args tys c sc' ho
  split at h
  ·rename_i d hd
   obtain ⟨h1,h⟩:=qkI h
   obtain ⟨H',h2,h3⟩:=qrC h
   simp only [qaV,qaq] at h3
   refine .inr (.inl ?_)
   unfold pown
   simp only [ho,hd]
   exact ⟨c.r,c.ro,H',c.oa,h2,h1,sc',h3⟩
  ·exact h.elim
 ·rename_i t y T T' i e n cs sc' ho
  split at h
  ·rename_i d hd
   have hh:=qkI h
   clear h
   obtain ⟨h1,h⟩:=hh
   rw [qfx,qbr] at h
   split at h
   ·rename_i ns he hn
    split at h
    ·rename_i hc
     simp only [Bool.and_eq_true,decide_eq_true_eq] at hc
     obtain ⟨⟨rfl,c2⟩,rfl⟩:=hc
     obtain ⟨h2,⟨p,h3⟩,⟨rfl,rfl⟩,h4⟩:=h
     simp only [qaV,qaq,appK,qaq] at h4
     refine .inr (.inr ?_)
     unfold prow
     simp only [ho,hd]
     exact ⟨e,ns,p,trivial,h2,he,hn,h3,c2,h1,sc',h4⟩
    ·exact h.elim
   ·exact h.elim
  ·exact h.elim
 ·rename_i f x tys i e n cs sc' ho
  split at h
  ·rename_i d hd
   have hh:=qkI h
   clear h
   obtain ⟨h1,h⟩:=hh
   rw [qbr,qbr] at h
   split at h
   ·rename_i g ns hg hn
    split at h
    ·rename_i hc
     simp only [decide_eq_true_eq] at hc
     subst hc
     obtain ⟨h2,⟨h3,h4,h5⟩,⟨rfl,rfl⟩,h6⟩:=h
     simp only [qaV,qaq,appK,qaq] at h6
     refine .inr (.inr ?_)
     unfold prow
     simp only [ho,hd]
     exact ⟨g,e,ns,hg,h2,hn,h3,h4,h5,h1,sc',h6⟩
    ·exact h.elim
   ·exact h.elim
  ·exact h.elim
 ·rename_i T x v i0 e n0 cs0 sc' ho
  split at h
  ·rename_i hd hv
   have hv':v = .slice none 0 0:=by
    unfold qgO at hv
    split at hv
    ·rfl
    ·cases hv
   subst hv'
   rw [qbr,qbr] at h
   split at h
   ·rename_i i off vs hx hpc
    obtain ⟨B,hB,h⟩:=qcA h
    split at h
    ·rename_i cs own
     split at h
     ·rename_i hc
      simp only [qaV,qaq] at h
      simp only [Bool.and_eq_true,decide_eq_true_eq] at hc
      obtain ⟨⟨⟨c2,c3⟩,c4⟩,c5⟩:=hc
      refine .inr (.inr ?_)
      unfold prow
      simp only [ho,hd]
      have hi:=qae hB
      refine ⟨i,off,e,st.boxes.set i (.cells (cs.take off ++ vs ++ cs.drop (off + vs.length)) (own.filter fun y => y.1 < off || off + vs.length ≤ y.1)),_,_,trivial,hx,?_,List.getElem?_set_self hi,sc',?_⟩
      ·simp only [qc4,hpc,hB]
       rw [if_pos ⟨c2,c3,c4,c5⟩]
      ·rw [List.set_set]; exact h
     ·exact h.elim
    ·exact h.elim
   ·exact h.elim
  ·exact h.elim
 ·exact .inl (qnO h)
theorem qqU {o:Oper} {id:Nat} {K K':PSt→Prop} {st:PSt} (hk:∀ st,K st→K' st) (h:qt2 P GE A o id K st):qt2 P GE A o id K' st:=by
 rcases h with h | h | h
 ·exact .inl (qDl hk h)
 rotate_left
 ·refine .inr (.inr ?_)
  unfold prow at *
  split at h
  ·obtain ⟨e,ns,p,h1,h2,h3,h4,h5,h6,h7,h8⟩:=h; exact ⟨e,ns,p,h1,h2,h3,h4,h5,h6,h7,hk _ h8⟩
  ·obtain ⟨g,e,ns,h1,h2,h3,h4,h5,h6,h7,h8⟩:=h; exact ⟨g,e,ns,h1,h2,h3,h4,h5,h6,h7,hk _ h8⟩
  ·obtain ⟨i,off,e,H,cs,own,h1,h2,h3,h4,h5⟩:=h; exact ⟨i,off,e,H,cs,own,h1,h2,h3,h4,hk _ h5⟩
  ·exact h
 ·refine .inr (.inl ?_)
  unfold pown at *
  split at h
  ·obtain ⟨p,L,h1,h2,h3,h4⟩:=h; exact ⟨p,L,h1,h2,h3,hk _ h4⟩
  ·obtain ⟨i,off,H,cs,own,L,l,h1,h2,h3,h4,h5,h6,h7⟩:=h; exact ⟨i,off,H,cs,own,L,l,h1,h2,h3,h4,h5,h6,hk _ h7⟩
  ·obtain ⟨i,off,cs,own,L,l,h0,h1,h2,h3,h4,h5,h6,h7,h8⟩:=h; exact ⟨i,off,cs,own,L,l,h0,h1,h2,h3,h4,h5,h6,h7,hk _ h8⟩
  ·obtain ⟨vs,h1,h2,h3⟩:=h; exact ⟨vs,h1,h2,hk _ h3⟩
  ·obtain ⟨r,ro,H',oa,h1,h2,h3⟩:=h; exact ⟨r,ro,H',oa,h1,h2,hk _ h3⟩
  ·exact h
theorem qpa {K:List It→PSt→Prop}:∀ (rest:List Oper) (pos id:Nat) (sc:List It) (st:PSt),qA1 P GE A ops K rest pos id sc st→qbW P GE A ops (fun st => ∃ sc,K sc st) rest id st
 | [],_,_,sc,st,h => ⟨sc,h⟩
 | o :: rest,pos,id,sc,st,h => by
  simp only [qA1] at h
  have step:∀ sc st,qyS P GE A o id sc st (fun sc' st' => qA1 P GE A ops K rest (pos + 1) (id + if qak o.op then 1 else 0) sc' st')→qt2 P GE A o id (qbW P GE A ops (fun st => ∃ sc,K sc st) rest (id + if qak o.op then 1 else 0)) st :=
   fun sc st hs => qqU (fun st' hx => by obtain ⟨sc',hx⟩:=hx; exact qpa rest _ _ sc' st' hx) (qxO hs)
  unfold qbW
  split at h
  ·rename_i hg; simp only [hg]; exact step _ _ h
  ·rename_i j want hg
   obtain ⟨x,hx,hc⟩:=qsg h
   simp only [hg,hx]
   rcases hc with ⟨rfl,sc',hc⟩ | ⟨hne,sc',hc⟩
   ·exact ⟨fun _ => step _ _ hc,fun hn => absurd rfl hn⟩
   ·refine ⟨fun he => absurd he hne,fun _ => ?_⟩
    simp only [ql8] at hc
    exact qpa rest _ _ sc' _ hc
end
end Go.Proofs.YtgldgpdhblndkaaGreatDoor
