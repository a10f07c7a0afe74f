/- WHAT IS PROVED: parts of the proof, put together by a program (SatC2). Conditions: none. -/
import Derived.Test.YtgldgpdhblndkaaGreatDoorPkE15
import Derived.Test.YtgldgpdhblndkaaGreatDoorPkE17
noncomputable section
namespace Go.Proofs.YtgldgpdhblndkaaGreatDoor
open Go
def qGP (P:Program) (op:Op):Bool := !qAn op && !qak op && qbd P op != 3
def qkM (P:Program) (GE:List (Nat×List PVal)) (o:Oper) (sc:List It) (st:PSt) (K:List It→List Rs→PSt→Prop):Prop :=
 match o.dst with
 | some d => match qGP P o.op with
  | true => qFV P GE o.op st.tmps st.boxes sc fun p _ sc' => setK st.tmps d p fun tm => qa2 (qbB d st.own) fun ow => K sc' [(false,d,0)] ⟨tm,st.boxes,ow⟩
  | false => False
 | none => False
def qkW (st:PSt) (d:Nat) (p:PVal) (L:List (Nat×TypeId)) (sc:List It) (K:List It→List Rs→PSt→Prop):Prop :=
 setK st.tmps d p fun tm => qa2 ((L.map fun x => ((d,x.1),x.2)) ++ qbB d st.own) fun ow => K sc [(false,d,0)] ⟨tm,st.boxes,ow⟩
def qwS (P:Program) (GE:List (Nat×List PVal)) (T:TypeId) (x:Operand) (vt:PVal) (vs:List PVal) (own:Option (Nat×List (Nat×TypeId))) (sc:List It) (st:PSt) (K:List It→List Rs→PSt→Prop):Prop :=
 opK GE st.tmps x fun vx => match vx with
 | .bptr i off => qaJ vt = some vs∧qj6 st.boxes i fun B => match B with
  | .cells cs ow => match decide (vs.length = P.cellsOf T) && (P.info? T).isSome && decide (off + vs.length ≤ cs.length) && vs.all PVal.one with
   | true => qa2 (cs.take off ++ vs ++ cs.drop (off + vs.length)) fun cs' => qa2 (qqS i off vs.length) fun rg => match own with
    | none => qa2 (ow.filter fun y => y.1 < off || off + vs.length ≤ y.1) fun ow' => setK st.boxes i (.cells cs' ow') fun H => K sc rg ⟨st.tmps,H,st.own⟩
    | some (t,L) => match qn8 (L.map (·.1)) && L.all (fun y => decide (y.1 < vs.length)) with
     | true => qa2 ((L.map fun y => (off + y.1,y.2)).reverse ++ ow.filter fun y => y.1 < off || off + vs.length ≤ y.1) fun ow' => setK st.boxes i (.cells cs' ow') fun H =>
       qa2 (st.own.filter fun x => !L.any fun y => x.1 == (t,y.1)) fun so => K sc ((false,t,0) :: rg) ⟨st.tmps,H,so⟩
     | false => False
   | false => False
  | _ => False
 | _ => False
def one1 (L:List (Nat×TypeId)):Bool:=match L with
 | [(0,_)] => true
 | _ => false
def qF0 (P:Program) (GE:List (Nat×List PVal)) (rw:List Nat) (T:TypeId) (x:Operand) (vt:PVal) (cs':List PVal) (sc:List It) (st:PSt) (K:List It→List Rs→PSt→Prop):Prop :=
 opK GE st.tmps x fun vx => match vx with
 | .bptr i off => match rw.contains i with
  | true => qj6 st.boxes i fun B => match B with
   | .cells cs [] => qc4 P T (.bptr 0 off) vt [.cells cs []] = some [.cells cs' []]∧setK st.boxes i (.cells cs' []) fun H => K sc [] ⟨st.tmps,H,st.own⟩
   | _ => False
  | false => False
 | _ => False
def qx5 (P:Program) (GE:List (Nat×List PVal)) (A:List Nat) (bi:Option (Nat×PBox)) (rw:List Nat) (o:Oper) (id:Nat) (sc:List It) (st:PSt) (K:List It→List Rs→PSt→Prop):Prop :=
 match o.op,o.dst with
 | .call { callee := .value f,args,.. },some d => match sc with
  | .c r ro :: sc' => opK GE st.tmps f fun vf => match vf with
   | .func (.func g) first cap => opsK GE st.tmps args.toList fun as => CC P GE g (first ++ as ++ cap) r ro∧qkW st d r ro sc' K
   | _ => False
  | .cg c :: sc' => match c.ρ with
   | [] => qnT P GE f args.toList c st fun _ => setK st.tmps d c.r fun tm => qa2 ((c.ro.map fun x => ((d,x.1),x.2)) ++ qbB d (st.own.filter fun z => !c.oa.any fun x => z.1 == (x.t,x.k))) fun ow =>
     qa2 ((false,d,0) :: c.oa.map fun x => (false,x.t,0)) fun rs => K sc' rs ⟨tm,st.boxes,ow⟩
   | _ => False
  | .ar i e n _ :: sc' => match bi,args with
   | some (j,.cells cs0 []),⟨[x]⟩ => opK GE st.tmps f fun vf => opK GE st.tmps x fun vx => match vf,vx,i == j with
    | .func (.func g) [] [],.slice ns,true => qkh P g e∧(0 < P.cellsOf e∧(∀ x ∈ ns,x.length = P.cellsOf e∧∀ q ∈ x,q.one = true)∧ns.length ≤ qdH)∧(n = ns.length∧cs0 = ns.flatten) ∧
      setK st.tmps d (.bsl i 0 n) fun tm => qa2 (qbB d st.own) fun ow => K sc' [(false,d,0)] ⟨tm,st.boxes,ow⟩
    | _,_,_ => False
   | _,_ => False
  | _ => False
 | .alloc t,some d => match (qh0 P t).isSome with
  | true => qkW st d (.bptr id 0) [] sc K
  | false => False
 | .makeMap _ none,some d => qkW st d (.mapr id) [] sc K
 | .buildSlice T len parts,some d => qpK GE st.tmps parts.toList fun ps => match sc,P.underlying T with
  | .v p :: sc',some (.slice e) => qdp P T len ps = some p∧qkW st d p [(0,e)] sc' K
  | _,_ => False
 | .build T parts,some d => match sc with
  | .b p L :: sc' => qpK GE st.tmps parts.toList fun ps => qbL P T ps = some p∧pnil P T ps L∧qkW st d p L sc' K
  | .ar t k _ _ :: .v p :: sc' => match decide (d ≠ t) && (parts.toList.any fun x => qvm t x.2) with
   | true => getK st.tmps t fun vt => match vt with
    | .slice _ => qpK GE st.tmps parts.toList fun ps => qbL P T ps = some p∧pmv P T (qFv GE st.tmps parts.toList t) k ∧
      setK st.tmps d p fun tm => qa2 (qgr d (fun x => if x = (t,0) then (d,k) else x) st.own) fun ow => K sc' [(false,d,0),(false,t,0)] ⟨tm,st.boxes,ow⟩
    | _ => False
   | false => False
  | _ => qkM P GE o sc st K
 | .assign (.const v),some d => match qne P o.type v with
  | some e => qkW st d (.slice []) [(0,e)] sc K
  | none => qkM P GE o sc st K
 | .move (.const v),some d => match qne P o.type v with
  | some e => qkW st d (.slice []) [(0,e)] sc K
  | none => qkM P GE o sc st K
 | .assign (.tmp t),some d => match decide (d ≠ t) with
  | true => getK st.tmps t fun p => setK st.tmps d p fun tm => qa2 (qgr d (fun x => if x.1 = t then (d,x.2) else x) st.own) fun ow => K sc [(false,d,0),(false,t,0)] ⟨tm,st.boxes,ow⟩
  | false => False
 | .move (.tmp t),some d => match decide (d ∈ A) && decide (d ≠ t) with
  | true => getK st.tmps t fun p => setK st.tmps d p fun tm => qa2 (qgr d (fun x => if x.1 = t then (d,x.2) else x) st.own) fun ow => K sc [(false,d,0),(false,t,0)] ⟨tm,st.boxes,ow⟩
  | false => qkM P GE o sc st K
 | .call { callee := .builtin .append,args:=⟨[.tmp t,y]⟩,argTypes:=⟨[T,T']⟩ },some d => getK st.tmps t fun ve => opK GE st.tmps y fun vn => match ve,vn,sc,P.underlying T with
  | .slice es,.slice ns,.v p :: sc',some (.slice e) => match decide (T = T') && decide (((t,0),e) ∈ st.own) with
   | true => qhU P T es ns = some p∧setK st.tmps d p fun tm => qa2 (((d,0),e) :: qbB d (st.own.filter fun x => x.1 != (t,0))) fun ow => K sc' [(false,d,0),(false,t,0)] ⟨tm,st.boxes,ow⟩
   | false => False
  | _,_,_,_ => False
 | .load T x,some d => match sc,P.underlying T,decide (d ∈ A) with
  | .z l :: sc',some (.struct _),_ => opK GE st.tmps x fun vx => match vx with
   | .bptr i off => qj6 st.boxes i fun B => match B with
    | .cells cs own => qbg P T (cs.drop off) = some (.agg l)∧qa2 (qGh off (P.cellsOf T) own) fun L => match qn8 (L.map (·.1)) with
     | true => setK st.tmps d (.agg l) fun tm => qa2 (own.filter fun x => !L.any fun y => x.1 == off + y.1) fun own' => setK st.boxes i (.cells cs own') fun H =>
       qa2 ((L.map fun y => ((d,y.1),y.2)).reverse ++ qbB d st.own) fun ow => qa2 ((false,d,0) :: L.map fun y => (true,i,off + y.1)) fun rs => K sc' rs ⟨tm,H,ow⟩
     | false => False
    | _ => False
   | _ => False
  | _,some (.slice e),true => opK GE st.tmps x fun vx => match vx with
   | .bptr i off => qj6 st.boxes i fun B => match B with
    | .cells cs own => match decide ((off,e) ∈ own) && decide (off < cs.length) with
     | true => getK cs off fun p => setK st.tmps d p fun tm => qa2 (own.filter fun x => !([((0:Nat),e)].any fun y => x.1 == off + y.1)) fun own' => setK st.boxes i (.cells cs own') fun H =>
       qa2 (([((0:Nat),e)].map fun y => ((d,y.1),y.2)).reverse ++ qbB d st.own) fun ow => qa2 ((false,d,0) :: [((0:Nat),e)].map fun y => (true,i,off + y.1)) fun rs => K sc rs ⟨tm,H,ow⟩
     | false => False
    | _ => False
   | _ => False
  | _,_,_ => qkM P GE o sc st K
 | .store T x (.tmp t),none => getK st.tmps t fun vt => match sc with
  | .y vs :: sc' => qa2 (qDr t st.own) fun L => match vt with
   | .agg l => qwS P GE T x (.agg l) vs (some (t,L)) sc' st K
   | _ => False
  | .s :: sc' => match vt.one with
   | true => qa2 (qDr t st.own) fun L => match one1 L with
    | true => qwS P GE T x vt [vt] (some (t,L)) sc' st K
    | false => qwS P GE T x vt [vt] none sc' st K
   | false => False
  | .x vs :: sc' => qwS P GE T x vt vs none sc' st K
  | .w _ (.cells cs' []) :: sc' => qF0 P GE rw T x vt cs' sc' st K
  | _ => False
 | .store T x y,none => opK GE st.tmps y fun vt => match sc with
  | .s :: sc' => match vt.one with
   | true => qwS P GE T x vt [vt] none sc' st K
   | false => False
  | .x vs :: sc' => qwS P GE T x vt vs none sc' st K
  | .w _ (.cells cs' []) :: sc' => qF0 P GE rw T x vt cs' sc' st K
  | _ => False
 | .mapUpdate t m k x,none => opK GE st.tmps m fun vm => opK GE st.tmps k fun vk => opK GE st.tmps x fun vx => match vm,sc with
  | .mapr i,.w _ (.map es') :: sc' => qj6 st.boxes i fun B => match B with
   | .map es => qCR P t es vk vx = some es'∧setK st.boxes i (.map es') fun H => K sc' [] ⟨st.tmps,H,st.own⟩
   | _ => False
  | _,_ => False
 | _,_ => qkM P GE o sc st K
def qvY (P:Program) (GE:List (Nat×List PVal)) (bid:Nat→Option (Nat×PBox)) (rw:List Nat) (A:List Nat) (ops:Array Oper) (an:List Nat) (K:List It→PSt→Prop):List Oper→Nat→Nat→List It→List (List Rs)→PSt→Prop
 | [],_,_,sc,lg,st => match logD an lg && qAd rw lg with
  | true => K sc st
  | false => False
 | o :: rest,pos,id,sc,lg,st =>
  let step (sc:List It) (st:PSt):Prop:=qx5 P GE A (bid lg.length) rw o id sc st fun sc' rs st' => qa2 (lg ++ [rs]) fun lg' => qvY P GE bid rw A ops an K rest (pos + 1) (id + if qak o.op then 1 else 0) sc' lg' st'
  match o.guard with
  | none => step sc st
  | some (j,want) => qyW ops j want pos sc st fun b sc' st' => match b with
   | true => step sc' st'
   | false => putK st' o.dst (.val undef) [] st'.boxes fun st'' => qa2 (lg ++ [qr1 o]) fun lg' => qvY P GE bid rw A ops an K rest (pos + 1) (id + if qak o.op then 1 else 0) sc' lg' st''
section
variable {P:Program} {GE:List (Nat×List PVal)} {A:List Nat} {ops:Array Oper}
theorem qeK {bi:Option (Nat×PBox)} {rw:List Nat} {o:Oper} {id:Nat} {sc:List It} {st:PSt} {K:List It→List Rs→PSt→Prop} (h:qkM P GE o sc st K):∃ s' rs,StepD P GE bi rw o id st s' rs∧∃ sc',K sc' rs s':=by
 unfold qkM at h
 split at h
 ·rename_i d hd
  split at h
  ·rename_i hp
   unfold qGP at hp
   simp only [Bool.and_eq_true,Bool.not_eq_true',bne_iff_ne,ne_eq] at hp
   obtain ⟨⟨p1,p2⟩,p3⟩:=hp
   obtain ⟨p,H',sc',k1,k2,_⟩:=qwa (id:=id) h
   simp only [qaV,qaq] at k2
   have:=qFs p3 p2 k1
   subst this
   exact ⟨_,_,.ev d p hd p1 p2 p3 k1,sc',k2⟩
  ·exact h.elim
 ·exact h.elim
theorem qmQ {bi:Option (Nat×PBox)} {rw:List Nat} {o:Oper} {id:Nat} {T:TypeId} {x y:Operand} {vs:List PVal} {sc:List It} {st:PSt} {K:List It→List Rs→PSt→Prop} (ho:o.op = .store T x y) (hd:o.dst = none) (h:qwS P GE T x (opv GE st.tmps y) vs none sc st K) :
  ∃ s' rs,StepD P GE bi rw o id st s' rs∧∃ sc',K sc' rs s':=by
 unfold qwS at h
 rw [qbr] at h
 split at h
 ·rename_i i off hx
  obtain ⟨hvs,h⟩:=h
  obtain ⟨B,hB,h⟩:=qcA h
  split at h
  ·rename_i cs own
   split at h
   ·rename_i hc
    simp only [qaq,qaV] at h
    simp only [Bool.and_eq_true,decide_eq_true_eq] at hc
    exact ⟨_,_,.st T x y i off vs cs own hd ho hx hvs hB (by simp only [qc4,hvs,hB]; rw [if_pos ⟨hc.1.1.1,hc.1.1.2,hc.1.2,hc.2⟩]),sc,h⟩
   ·exact h.elim
  ·exact h.elim
 ·exact h.elim
theorem qt5 {bi:Option (Nat×PBox)} {rw:List Nat} {o:Oper} {id:Nat} {T:TypeId} {x:Operand} {t:Nat} {vt:PVal} {vs:List PVal} {L:List (Nat×TypeId)} {sc:List It} {st:PSt} {K:List It→List Rs→PSt→Prop} (ho:o.op = .store T x (.tmp t)) (hd:o.dst = none)
  (hvt:st.tmps.getD t .undef = vt) (hk:(∃ l,vt = .agg l)∨(vt.one = true∧∃ e,L = [(0,e)])) (hm:∀ y ∈ L,((t,y.1),y.2) ∈ st.own) (h:qwS P GE T x vt vs (some (t,L)) sc st K) :
  ∃ s' rs,StepD P GE bi rw o id st s' rs∧∃ sc',K sc' rs s':=by
 subst hvt
 unfold qwS at h
 rw [qbr] at h
 split at h
 ·rename_i i off hx
  obtain ⟨hvs,h⟩:=h
  obtain ⟨B,hB,h⟩:=qcA h
  split at h
  ·rename_i cs own
   split at h
   ·rename_i hc
    simp only [qaq] at h
    split at h
    ·rename_i hl
     simp only [qaV] at h
     simp only [Bool.and_eq_true,decide_eq_true_eq,List.all_eq_true] at hc hl
     exact ⟨_,_,.sto T x t i off vs cs own L hd ho hx hvs hB (by simp only [qc4,hvs,hB]; rw [if_pos ⟨hc.1.1.1,hc.1.1.2,hc.1.2,List.all_eq_true.2 hc.2⟩]) hk hm (qi0 hl.1) (fun y hy => by simpa using hl.2 y hy),sc,h⟩
    ·exact h.elim
   ·exact h.elim
  ·exact h.elim
 ·exact h.elim
theorem qv4 {bi:Option (Nat×PBox)} {rw:List Nat} {o:Oper} {id:Nat} {T:TypeId} {x y:Operand} {cs':List PVal} {sc:List It} {st:PSt} {K:List It→List Rs→PSt→Prop} (ho:o.op = .store T x y) (hd:o.dst = none) (h:qF0 P GE rw T x (opv GE st.tmps y) cs' sc st K) :
  ∃ s' rs,StepD P GE bi rw o id st s' rs∧∃ sc',K sc' rs s':=by
 unfold qF0 at h
 rw [qbr] at h
 split at h
 ·rename_i i off hx
  split at h
  ·rename_i hi
   obtain ⟨B,hB,h⟩:=qcA h
   split at h
   ·rename_i cs
    obtain ⟨h1,h2⟩:=h
    rw [qaV] at h2
    exact ⟨_,_,.stR T x y i off cs cs' hd ho hx hB h1 (by simpa using hi),sc,h2⟩
   ·exact h.elim
  ·exact h.elim
 ·exact h.elim
theorem qEY {n:Nat} {args:List Operand} {own own':List ((Nat×Nat)×TypeId)} {oa:List OA} (h:oaOk n args own oa = true) (hs:∀ x ∈ oa,((x.t,x.k),x.e) ∈ own→((x.t,x.k),x.e) ∈ own'):oaOk n args own' oa = true:=by
 unfold oaOk at h ⊢
 rw [Bool.and_eq_true] at h ⊢
 refine ⟨List.all_eq_true.2 fun x hx => ?_,h.2⟩
 have:=List.all_eq_true.1 h.1 x hx
 simp only [Bool.and_eq_true,Bool.or_eq_true,decide_eq_true_eq] at this ⊢
 exact ⟨this.1,this.2.imp_right fun ⟨k1,k2⟩ => ⟨hs x hx k1,k2⟩⟩
theorem qwJ {f:Operand} {args:List Operand} {c:GC} {s:PSt} {K:List PBox→Prop} (hρ:c.ρ = []) (h:qnT P GE f args c s K) :
  K s.boxes∧∀ st:PSt,(∀ x,x = f∨x ∈ args→opv GE s.tmps x = opv GE st.tmps x)→(∀ x ∈ c.oa,((x.t,x.k),x.e) ∈ s.own→((x.t,x.k),x.e) ∈ st.own)→GCall P GE f args st c.r c.ro st.boxes c.oa:=by
 have h0:=h
 unfold qnT at h
 rw [qbr] at h
 split at h
 ·rename_i g first cap hf
  rw [qm6] at h
  split at h
  ·rename_i hb
   obtain ⟨h1,h2,h3,h4,h5,h6⟩:=h
   rw [qrm] at h6
   have hs:∀ (H:List PBox),qu8 H c.ρ c.Bs' = H:=fun H => by rw [hρ]; cases c.Bs' <;> rfl
   rw [hs] at h6
   refine ⟨h6,fun st ho how => ?_⟩
   have key:qnT P GE f args c st (fun H => H = st.boxes):=by
    unfold qnT
    rw [qbr,← ho f (.inl rfl),hf]
    simp only
    rw [qm6,show args.map (opv GE st.tmps) = args.map (opv GE s.tmps) from List.map_congr_left fun x hx => (ho x (.inr hx)).symm]
    have hb2:(qn8 c.ρ && oaOk first.length args st.own c.oa && c.Bs.all qE7 && decide (c.Bs'.length = c.ρ.length)) = true:=by
     simp only [Bool.and_eq_true] at hb ⊢
     exact ⟨⟨⟨hb.1.1.1,qEY hb.1.1.2 how⟩,hb.1.2⟩,hb.2⟩
    rw [hb2]
    simp only
    refine ⟨h1,h2,?_,h4,h5,?_⟩
    ·rw [hρ] at h3 ⊢
     cases hBs:c.Bs <;> cases hHc:c.Hc <;> rw [hBs,hHc] at h3 <;> first | exact h3.elim | trivial
    ·rw [qrm,hs]
   obtain ⟨H',k1,rfl⟩:=qrC key
   exact k1
  ·exact h.elim
 ·exact h.elim
theorem qxT {bi:Option (Nat×PBox)} {rw:List Nat} {o:Oper} {id:Nat} {sc:List It} {st:PSt} {K:List It→List Rs→PSt→Prop} (h:qx5 P GE A bi rw o id sc st K):∃ s' rs,StepD P GE bi rw o id st s' rs∧∃ sc',K sc' rs s':=by
 unfold qx5 at h
 split at h
 ·rename_i f args tys d ho hd
  split at h
  ·rename_i r ro sc'
   rw [qbr] at h
   split at h
   ·rename_i g first cap hf
    rw [qm6] at h
    obtain ⟨⟨h1,h2⟩,h3⟩:=h
    simp only [qkW,qaV,qaq] at h3
    exact ⟨_,_,.call d f args tys g first cap r ro ho hd hf h1 h2,sc',h3⟩
   ·exact h.elim
  ·rename_i c sc'
   split at h
   ·rename_i hρ
    obtain ⟨h1,h2⟩:=qwJ hρ h
    simp only [qaV,qaq] at h1
    exact ⟨_,_,.callR d f args tys c.r c.ro c.oa ho hd h2,sc',h1⟩
   ·exact h.elim
  ·rename_i i e n cs sc'
   split at h
   ·rename_i j cs0 x
    simp only [qbr] at h
    split at h
    ·rename_i g ns hf hx hij
     simp only [beq_iff_eq] at hij
     subst hij
     obtain ⟨h1,⟨h2,h3,h4⟩,⟨rfl,rfl⟩,h5⟩:=h
     simp only [qaV,qaq] at h5
     exact ⟨_,_,.cl d i f x tys g e ns ho hd rfl hf hx h1 h2 h3 h4,sc',h5⟩
    ·exact h.elim
   ·exact h.elim
  ·exact h.elim
 ·rename_i t d ho hd
  split at h
  ·rename_i hz
   obtain ⟨zs,hz⟩:=Option.isSome_iff_exists.1 hz
   simp only [qkW,qaV,qaq] at h
   exact ⟨_,_,.alloc d t zs ho hd hz,sc,h⟩
  ·exact h.elim
 ·rename_i t d ho hd
  simp only [qkW,qaV,qaq] at h
  exact ⟨_,_,.mkmap d t ho hd,sc,h⟩
 ·rename_i T len parts d ho hd
  rw [qiX] at h
  split at h
  ·rename_i p sc' e hu
   obtain ⟨h1,h2⟩:=h
   simp only [qkW,qaV,qaq] at h2
   exact ⟨_,_,.res d p [(0,e)] hd (.inl ⟨T,len,parts,e,ho,h1,hu,rfl⟩),sc',h2⟩
  ·exact h.elim
 ·rename_i T parts d ho hd
  split at h
  ·rename_i p L sc'
   rw [qiX] at h
   obtain ⟨h1,h2,h3⟩:=h
   simp only [qkW,qaV,qaq] at h3
   exact ⟨_,_,.res d p L hd (.inr (.inl ⟨T,parts,ho,h1,h2⟩)),sc',h3⟩
  ·rename_i t k _ _ p sc'
   split at h
   ·rename_i hc
    rw [qfx] at h
    split at h
    ·rename_i es hes
     rw [qiX] at h
     obtain ⟨h1,h2,h3⟩:=h
     simp only [qaV,qaq] at h3
     simp only [Bool.and_eq_true,decide_eq_true_eq] at hc
     exact ⟨_,_,.bmv d t k T parts p es hd ho hc.1 hes hc.2 h1 h2,sc',h3⟩
    ·exact h.elim
   ·exact h.elim
  ·exact qeK h
 ·rename_i v d ho hd
  split at h
  ·rename_i e he
   simp only [qkW,qaV,qaq] at h
   exact ⟨_,_,.res d (.slice []) [(0,e)] hd (.inr (.inr ⟨v,e,.inl ho,he,rfl,rfl⟩)),sc,h⟩
  ·exact qeK h
 ·rename_i v d ho hd
  split at h
  ·rename_i e he
   simp only [qkW,qaV,qaq] at h
   exact ⟨_,_,.res d (.slice []) [(0,e)] hd (.inr (.inr ⟨v,e,.inr ho,he,rfl,rfl⟩)),sc,h⟩
  ·exact qeK h
 ·rename_i t d ho hd
  split at h
  ·rename_i hdt
   simp only [qfx,qaV,qaq] at h
   exact ⟨_,_,.mv d t hd (.inl ho) (by simpa using hdt),sc,h⟩
  ·exact h.elim
 ·rename_i t d ho hd
  split at h
  ·rename_i hdt
   simp only [Bool.and_eq_true,decide_eq_true_eq] at hdt
   simp only [qfx,qaV,qaq] at h
   exact ⟨_,_,.mv d t hd (.inr ho) hdt.2,sc,h⟩
  ·exact qeK h
 ·rename_i t y T T' d ho hd
  rw [qfx,qbr] at h
  split at h
  ·rename_i es ns p sc' e he hn hu
   split at h
   ·rename_i hc
    simp only [Bool.and_eq_true,decide_eq_true_eq] at hc
    obtain ⟨rfl,hm⟩:=hc
    obtain ⟨h1,h2⟩:=h
    simp only [qaV,qaq] at h2
    exact ⟨_,_,.app d t T e y es ns p hd ho hu he hn h1 hm,sc',h2⟩
   ·exact h.elim
  ·exact h.elim
 ·rename_i T x d ho hd
  split at h
  ·rename_i l sc' fs hu
   rw [qbr] at h
   split at h
   ·rename_i i off hx
    obtain ⟨B,hB,h⟩:=qcA h
    split at h
    ·rename_i cs own
     obtain ⟨h1,h2⟩:=h
     rw [qaq] at h2
     split at h2
     ·rename_i hn
      simp only [qaV,qaq] at h2
      have hlen:l.length = P.cellsOf T:=by
       have hp:=h1
       unfold qbg at hp
       rw [hu] at hp
       simp only at hp
       split at hp
       ·rename_i hh; cases hp; rw [List.length_take]; omega
       ·cases hp
      exact ⟨_,_,.ld d T x i off cs own _ (.agg l) hd ho hx hB (.inr ⟨fs,l,hu,h1,rfl,qi0 hn,fun y hy => by rw [hlen]; exact (qra hy).2⟩) (fun y hy => (qra hy).1),sc',h2⟩
     ·exact h2.elim
    ·exact h.elim
   ·exact h.elim
  ·rename_i e hu _
   rw [qbr] at h
   split at h
   ·rename_i i off hx
    obtain ⟨B,hB,h⟩:=qcA h
    split at h
    ·rename_i cs own
     split at h
     ·rename_i hc
      simp only [Bool.and_eq_true,decide_eq_true_eq] at hc
      simp only [qfx,qaV,qaq] at h
      have hget:cs[off]? = some (cs.getD off .undef):=by
       rw [List.getD_eq_getElem?_getD,List.getElem?_eq_getElem hc.2]; rfl
      refine ⟨_,_,.ld d T x i off cs own [(0,e)] (cs.getD off .undef) hd ho hx hB (.inl ⟨e,hu,hget,rfl⟩) (fun y hy => ?_),_,h⟩
      rw [List.mem_singleton.1 hy]; exact hc.1
     ·exact h.elim
    ·exact h.elim
   ·exact h.elim
  ·exact qeK h
 ·rename_i T x t ho hd
  rw [qfx] at h
  split at h
  ·rename_i vs sc'
   rw [qaq] at h
   split at h
   ·rename_i l hl
    exact qt5 ho hd hl (.inl ⟨l,rfl⟩) (fun y hy => qvW hy) h
   ·exact h.elim
  ·rename_i sc'
   split at h
   ·rename_i hone
    rw [qaq] at h
    split at h
    ·rename_i hL
     refine qt5 ho hd rfl (.inr ⟨hone,?_⟩) (fun y hy => qvW hy) h
     unfold one1 at hL
     split at hL
     ·rename_i e heq; exact ⟨e,heq⟩
     ·cases hL
    ·exact qmQ ho hd h
   ·exact h.elim
  ·exact qmQ ho hd h
  ·exact qv4 ho hd h
  ·exact h.elim
 ·rename_i T x y _ ho hd
  rw [qbr] at h
  split at h
  ·split at h
   ·exact qmQ ho hd h
   ·exact h.elim
  ·exact qmQ ho hd h
  ·exact qv4 ho hd h
  ·exact h.elim
 ·rename_i t m k x ho hd
  simp only [qbr] at h
  split at h
  ·rename_i i j es' sc' hv
   obtain ⟨B,hB,h⟩:=qcA h
   split at h
   ·rename_i es
    obtain ⟨h1,h2⟩:=h
    rw [qaV] at h2
    exact ⟨_,_,.mu t m k x _ hd ho (by rw [hv]; exact qCH hB h1),sc',h2⟩
   ·exact h.elim
  ·exact h.elim
 ·exact qeK h
theorem qnQ {bid:Nat→Option (Nat×PBox)} {rw:List Nat} {an:List Nat} {K:List It→PSt→Prop}:∀ (rest:List Oper) (pos id:Nat) (sc:List It) (lg:List (List Rs)) (st:PSt),qvY P GE bid rw A ops an K rest pos id sc lg st →
  qj4 P GE bid rw ops (fun lg st' => (logD an lg && qAd rw lg) = true∧∃ sc,K sc st') rest id lg st
 | [],_,_,sc,lg,st,h => by
  simp only [qvY] at h
  split at h
  ·rename_i hl; exact ⟨hl,sc,h⟩
  ·exact h.elim
 | o :: rest,pos,id,sc,lg,st,h => by
  simp only [qvY] at h
  have step:∀ sc st,qx5 P GE A (bid lg.length) rw o id sc st (fun sc' rs st' => qa2 (lg ++ [rs]) fun lg' => qvY P GE bid rw A ops an K rest (pos + 1) (id + if qak o.op then 1 else 0) sc' lg' st') →
    ∃ s' rs,StepD P GE (bid lg.length) rw o id st s' rs∧qj4 P GE bid rw ops (fun lg st' => (logD an lg && qAd rw lg) = true∧∃ sc,K sc st') rest (id + if qak o.op then 1 else 0) (lg ++ [rs]) s':=by
   intro sc st hs
   obtain ⟨s',rs,h1,sc',h2⟩:=qxT (id:=id) hs
   rw [qaq] at h2
   exact ⟨s',rs,h1,qnQ rest _ _ sc' _ s' h2⟩
  unfold qj4
  split at h
  ·rename_i hg; simp only [hg]; exact step _ _ h
  ·rename_i j want hg
   obtain ⟨x,hx,hc⟩:=qsg h
   simp only [hg,hx]
   rcases hc with ⟨rfl,sc',hc⟩ | ⟨hne,sc',hc⟩
   ·exact ⟨fun _ => step _ _ hc,fun hn => absurd rfl hn⟩
   ·refine ⟨fun he => absurd he hne,fun _ => ?_⟩
    simp only [ql8,qaq] at hc
    exact qnQ rest _ _ sc' _ _ hc
theorem Sat.drawD {m:Nat} (hf:P.follows .mixedOrders = true) {id:Nat} {an:List Nat} {X:List PBox} {br:List (Nat×Nat)} {rw:List Nat} {Q:Exit→PSt→Prop} {st:PSt} (hnd:ops.toList.all qd7 = true) (h:qG4 P GE ops an X br rw (Q .normal) st):Sat P GE m (.region id ops true) Q st:=by
 intro ro E bs0 a w hE hb hR
 obtain ⟨rfl,_,_,_⟩:=hE
 refine qk0 (qwx (Q:=fun e a' w' => e = .normal∧qHB P E bs0 a.defers Q .normal a' w') hf hnd (by rintro ⟨_,_,h,_⟩; cases h) ?_) fun e a' w' hq => by obtain ⟨rfl,hq⟩:=hq; exact hq
 exact qAs hR hR.len (fun a' w' st' hd hR' hK => ⟨rfl,hd,st',hR',hK⟩) h
def qCv (P:Program) (GE:List (Nat×List PVal)) (A:List Nat) (ops:Array Oper) (an:List Nat) (X:List PBox) (br:List (Nat×Nat)) (rw:List Nat) (K:List It→PSt→Prop) (sc:List It) (st:PSt):Prop :=
 match ops.toList.all qd7 && (drawD P ops.toList st.tmps.length an && brOk br st.boxes.length X.length) with
 | true => appK st.boxes X fun H0 => match qH8 rw H0 with
  | true => appK H0 (qdQ P ops.toList) fun H => qvY P GE (qC9 br H0) rw A ops an K ops.toList 0 (st.boxes.length + X.length) sc [] ⟨st.tmps,H,st.own⟩
  | false => False
 | false => False
theorem qt0 {m:Nat} (hf:P.follows .mixedOrders = true) {id:Nat} {an:List Nat} {X:List PBox} {br:List (Nat×Nat)} {rw:List Nat} {K:List It→PSt→Prop} {sc:List It} {st:PSt} {Q:Exit→PSt→Prop} (hQ:∀ st,(∃ sc,K sc st)→Q .normal st)
  (h:qCv P GE A ops an X br rw K sc st):Sat P GE m (.region id ops true) Q st:=by
 unfold qCv at h
 split at h
 ·rename_i hd
  rw [Bool.and_eq_true,Bool.and_eq_true] at hd
  obtain ⟨hnd,hd⟩:=hd
  unfold appK at h
  rw [qaq] at h
  split at h
  ·rename_i hr
   rw [qaq] at h
   refine (Sat.drawD (Q:=fun e st => e = .normal∧∃ sc,K sc st) hf hnd ⟨hd.1,by rw [Bool.and_eq_true]; exact ⟨hd.2,hr⟩,?_⟩).imp fun e st hx => by obtain ⟨rfl,hx⟩:=hx; exact hQ st hx
   have:=qnQ _ _ _ _ _ _ h
   simpa using this
  ·exact h.elim
 ·exact h.elim
end
end Go.Proofs.YtgldgpdhblndkaaGreatDoor
