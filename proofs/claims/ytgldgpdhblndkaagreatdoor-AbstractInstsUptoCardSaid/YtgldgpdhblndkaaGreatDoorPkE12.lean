/- WHAT IS PROVED: parts of the proof, put together by a program (AbsR2). Conditions: none. -/
import Derived.Test.YtgldgpdhblndkaaGreatDoorPkE10
import Derived.Test.YtgldgpdhblndkaaGreatDoorPkE11
noncomputable section
namespace Go.Proofs.YtgldgpdhblndkaaGreatDoor
open Go
abbrev nilV:Value := .slice none 0 0
def absX (v:Value):PVal:=if qgO v then .val nilV else absC v
def qG8 (P:Program) (t:TypeId):Option (List PVal):=((P.info? t).bind (·.zero)).map fun z => z.cells.toList.map absX
def qBc (P:Program) (t:TypeId) (parts:List (Nat×PVal)):Option (List PVal) :=
 match P.underlying t,qG8 P t with
 | some (.struct fs),some zs => if fs.all (fun f => (P.info? f.type).isSome) then qAU (fun i => (fs[i]?).map fun f => (f.offset,P.cellsOf f.type)) zs parts else none
 | _,_ => none
def qFn (cs:List PVal):List (Nat×TypeId)→Prop
 | [] => True
 | x :: r => cs[x.1]? = some (.val nilV)∧qFn cs r
def pnil (P:Program) (t:TypeId) (parts:List (Nat×PVal)) (L:List (Nat×TypeId)):Prop := ∃ cs,qBc P t parts = some cs∧qFn cs L
def ownLe (H0 H:List PBox):Prop:=H0.length = H.length∧∀ (i:Nat) B,H0[i]? = some B→∃ B',H[i]? = some B'∧(B = B'∨∃ cs own own',B' = .cells cs own∧B = .cells cs own'∧∀ x ∈ own',x ∈ own)
structure GCall (P:Program) (GE:List (Nat×List PVal)) (f:Operand) (args:List Operand) (st:PSt) (r:PVal) (ro:List (Nat×TypeId)) (H':List PBox) (oa:List OA):Prop where
 ex:∃ (g:FuncId) (first cap argsC:List PVal) (ρ:List Nat) (H0 Hc Hc':List PBox) (rc:PVal),opv GE st.tmps f = .func (.func g) first cap∧ρ.Nodup∧C P GE g argsC (oa.map fun x => ((x.i,x.k),x.e)) Hc rc ro Hc' ∧
  ownLe H0 st.boxes∧Handed ρ H0 Hc∧Handed ρ H' Hc'∧H'.length = st.boxes.length∧(∀ j:Nat,j ∉ ρ→H'[j]? = H0[j]?)∧Rix ρ r rc∧(first ++ args.map (opv GE st.tmps) ++ cap).length = argsC.length ∧
  (∀ (i:Nat) p q,(first ++ args.map (opv GE st.tmps) ++ cap)[i]? = some p→argsC[i]? = some q→Rix ρ p q) ∧
  (∀ x ∈ oa,∃ j,x.i = first.length + j∧((args[j]? = some (.const nilV)∧x.k = 0)∨(((x.t,x.k),x.e) ∈ st.own∧args[j]? = some (.tmp x.t))))∧(∀ x ∈ oa,∀ y ∈ oa,x.t = y.t→x.k = y.k→x.i = y.i)
def pown (P:Program) (GE:List (Nat×List PVal)) (o:Oper) (K:PSt→Prop) (st:PSt):Prop :=
 match o.op,o.dst with
 | .build T parts,some d => ∃ (p:PVal) (L:List (Nat×TypeId)),qbL P T (parts.toList.map fun x => (x.1,opv GE st.tmps x.2)) = some p∧pnil P T (parts.toList.map fun x => (x.1,opv GE st.tmps x.2)) L ∧
   d < st.tmps.length∧K { st with tmps:=st.tmps.set d p,own:=(L.map fun x => ((d,x.1),x.2)) ++ qbB d st.own }
 | .store T x (.tmp t),none => ∃ (i off:Nat) (H:List PBox) (cs:List PVal) (own L:List (Nat×TypeId)) (l:List PVal),opv GE st.tmps x = .bptr i off∧st.tmps.getD t .undef = .agg l∧qc4 P T (.bptr i off) (.agg l) st.boxes = some H∧H[i]? = some (.cells cs own) ∧
   (∀ y ∈ L,((t,y.1),y.2) ∈ st.own)∧(L.map (·.1)).Nodup ∧
   K ⟨st.tmps,H.set i (.cells cs ((L.map fun y => (off + y.1,y.2)).reverse ++ own)),st.own.filter fun x => !L.any fun y => x.1 == (t,y.1)⟩
 | .load T x,some d => ∃ (i off:Nat) (cs:List PVal) (own L:List (Nat×TypeId)) (l:List PVal),(∃ fs,P.underlying T = some (.struct fs))∧opv GE st.tmps x = .bptr i off∧st.boxes[i]? = some (.cells cs own)∧qbg P T (cs.drop off) = some (.agg l) ∧
   (∀ y ∈ L,(off + y.1,y.2) ∈ own)∧(L.map (·.1)).Nodup∧(∀ y ∈ L,y.1 < l.length)∧d < st.tmps.length ∧
   K ⟨st.tmps.set d (.agg l),st.boxes.set i (.cells cs (own.filter fun x => !L.any fun y => x.1 == off + y.1)),(L.map fun y => ((d,y.1),y.2)).reverse ++ qbB d st.own⟩
 | .box _ x,some d => ∃ vs:List PVal,qaJ (opv GE st.tmps x) = some vs∧d < st.tmps.length∧K { st with tmps:=st.tmps.set d (.eptr vs),own:=qbB d st.own }
 | .call { callee := .value f,args,.. },some d => ∃ (r:PVal) (ro:List (Nat×TypeId)) (H':List PBox) (oa:List OA),GCall P GE f args.toList st r ro H' oa∧d < st.tmps.length ∧
   K ⟨st.tmps.set d r,H',(ro.map fun x => ((d,x.1),x.2)) ++ qbB d (st.own.filter fun z => !oa.any fun x => z.1 == (x.t,x.k))⟩
 | _,_ => False
def qt2 (P:Program) (GE:List (Nat×List PVal)) (A:List Nat) (o:Oper) (id:Nat) (K:PSt→Prop) (st:PSt):Prop:=qzR P GE A o id K st∨pown P GE o K st∨prow P GE o K st
def qbW (P:Program) (GE:List (Nat×List PVal)) (A:List Nat) (ops:Array Oper) (K:PSt→Prop):List Oper→Nat→PSt→Prop
 | [],_,st => K st
 | o :: rest,id,st =>
  match o.guard with
  | none => qt2 P GE A o id (qbW P GE A ops K rest (id + if qak o.op then 1 else 0)) st
  | some (j,want) => match qn6 ops st.tmps j with
   | some x => (x = some want→qt2 P GE A o id (qbW P GE A ops K rest (id + if qak o.op then 1 else 0)) st) ∧
     (x ≠ some want→qbW P GE A ops K rest (id + if qak o.op then 1 else 0) (putv st o.dst (.val undef) [] st.boxes))
   | none => False
section
variable {P:Program} {E:Ent} {Γ:qaP} {bs:qbj} {ow:Nat→Option Loc} {w:World}
theorem qHN {z:Value} (j:Nat) (p:PVal) (v:Value) (hp:(z.cells.toList.map absX)[j]? = some p) (hv:z.cells[j]? = some v):VR Γ bs w p v:=by
 simp only [List.getElem?_map,Array.getElem?_toList,hv,Option.map_some,Option.some.injEq] at hp
 subst hp
 unfold absX
 split
 ·rename_i hn
  unfold qgO at hn
  split at hn
  ·exact .val _
  ·cases hn
 ·exact .absC v
theorem qA5 {t:TypeId} {parts:List (Nat×PVal)} {vs:List (Nat×Value)} {cs:List PVal} (hl:parts.length = vs.length)
  (hv:∀ (j:Nat) p v,parts[j]? = some p→vs[j]? = some v→p.1 = v.1∧VR Γ bs w p.2 v.2) (h:qBc P t parts = some cs) :
  ∃ ov,(Instr.build t vs.toArray).run P w = .ok (.agg ov) w∧ov.size = cs.length∧∀ (j:Nat) p v,cs[j]? = some p→ov[j]? = some v→VR Γ bs w p v:=by
 unfold qBc at h
 split at h
 ·rename_i fs zs ht hz
  unfold qG8 at hz
  simp only [Option.map_eq_some_iff,Option.bind_eq_some_iff] at hz
  obtain ⟨z,⟨i,hi,hz'⟩,rfl⟩:=hz
  have hr:(zeroValue t).run P w = .ok z w:=by simp [zeroValue,run_typeInfo w hi,hz']
  split at h
  ·rename_i hall
   have hplaces:∀ (l:List Field),(∀ f ∈ l,(P.info? f.type).isSome = true)→(l.mapM fun f => do pure (f.offset,← sizeOf f.type):Sem (List (Nat×Nat))).run P w = .ok (l.map fun f => (f.offset,P.cellsOf f.type)) w:=by
    intro l hl
    induction l with
    | nil => simp
    | cons f l ih =>
     obtain ⟨inf,hinf⟩:=Option.isSome_iff_exists.1 (hl f (by simp))
     have:=ih fun g hg => hl g (by simp [hg])
     simp only [List.mapM_cons,Sem.run_bind,run_sizeOf w hinf,Result.andThen_ok,this,Sem.run_pure,List.map_cons]
   have hp:(fs.mapM fun f => do pure (f.offset,← sizeOf f.type):Sem (Array (Nat×Nat))).run P w = .ok (fs.map fun f => (f.offset,P.cellsOf f.type)) w:=by
    rw [Array.mapM_eq_mapM_toList]
    simp only [Sem.run_map]
    rw [hplaces fs.toList fun f hf => by
     have:=Array.all_eq_true_iff_forall_mem.1 hall f (by simpa using hf)
     simpa using this]
    simp only [Result.andThen_ok]
    exact congrArg (fun x => Result.ok x w) (Array.ext' (by simp))
   obtain ⟨ov,r1,r2,r3⟩:=qr3 (place':=((fs.map fun f => (f.offset,P.cellsOf f.type))[·]?)) (fun i x hx => by simpa using hx) parts vs _ z.cells hl hv (by simp) (fun j p v hp hv => qHN j p v hp hv) h
   refine ⟨ov,?_,r2,r3⟩
   simp only [Instr.build,Sem.run_bind,hr,Result.andThen_ok,run_underlying ht,hp]
   rw [r1]
   simp
  ·cases h
 ·cases h
theorem qxp {cs:List PVal}:∀ {L:List (Nat×TypeId)},qFn cs L→∀ x ∈ L,cs[x.1]? = some (.val nilV)
 | [],_,x,hx => by cases hx
 | y :: L,h,x,hx => by
  rcases List.mem_cons.1 hx with rfl | hx
  ·exact h.1
  ·exact qxp h.2 x hx
section
variable {a:Array Value} {st:PSt}
theorem SR.ownNils (h:SR P E Γ bs ow w a st) {d:Nat} {u:Value} (hu:a[d]? = some u) (L:List (Nat×TypeId)) (hL:∀ x ∈ L,qji u x.1 = some nilV) :
  SR P E Γ bs ow w a { st with own:=(L.map fun x => ((d,x.1),x.2)) ++ st.own } :=
 { h with
  ot:=fun t k e he => by
   rcases List.mem_append.1 he with he | he
   ·simp only [List.mem_map,Prod.mk.injEq] at he
    obtain ⟨x,hx,⟨rfl,rfl⟩,rfl⟩:=he
    exact ⟨u,nilV,hu,hL x hx,⟨0,[],World.ownsRow_nil _ _ _ _,fun b hb => by simp [Value.ownBlock] at hb⟩,fun b hb => by simp [Value.ownBlock] at hb⟩
   ·exact h.ot t k e he }
theorem SR.takeOwn (h:SR P E Γ bs ow w a st) {i b d k off:Nat} {e:TypeId} {u v:Value} {cs:List PVal} {own:List (Nat×TypeId)} (hi:bs[i]? = some (some b)) (hB:st.boxes[i]? = some (.cells cs own))
  (hm:(off,e) ∈ own) (hu:a[d]? = some u) (hp:qji u k = some v) (hc:w.cell? ⟨b,off,none⟩ = some v) :
  ∃ ow',SR P E Γ bs ow' w a { st with own:=((d,k),e) :: st.own,boxes:=st.boxes.set i (.cells cs (own.filter fun x => x.1 != off)) }:=by
 obtain ⟨v',q1,q2,q3⟩:=h.ob i off e cs own b hB hm hi
 rw [hc] at q1
 cases q1
 exact ⟨_,(h.freeB (j:=off) hB).addOwn (d:=d) (k:=k) (e:=e) (u:=u) (v:=v) hu hp q2 (fun b' hb' => ⟨by simp [q3 b' hb'],(h.on b' _ (q3 b' hb')).2⟩)⟩
theorem SR.takeOwns {i b d off:Nat} {u:Value} {cs:List PVal} (hi:bs[i]? = some (some b)) (hu:a[d]? = some u):∀ (L:List (Nat×TypeId)) {ow:Nat→Option Loc} {st:PSt} {own:List (Nat×TypeId)},SR P E Γ bs ow w a st→st.boxes[i]? = some (.cells cs own) →
  (∀ x ∈ L,(off + x.1,x.2) ∈ own)→(L.map (·.1)).Nodup→(∀ x ∈ L,∃ v,qji u x.1 = some v∧w.cell? ⟨b,off + x.1,none⟩ = some v) →
  ∃ ow',SR P E Γ bs ow' w a ⟨st.tmps,st.boxes.set i (.cells cs (own.filter fun x => !L.any fun y => x.1 == off + y.1)),(L.map fun y => ((d,y.1),y.2)).reverse ++ st.own⟩
 | [],ow,st,own,h,hB,_,_,_ => by
  refine ⟨ow,?_⟩
  have e2:(own.filter fun x => !([]:List (Nat×TypeId)).any fun y => x.1 == off + y.1) = own:=by
   apply List.filter_eq_self.2
   intro x _
   rfl
  have e1:st.boxes.set i (.cells cs (own.filter fun x => !([]:List (Nat×TypeId)).any fun y => x.1 == off + y.1)) = st.boxes:=by
   rw [e2]
   apply List.ext_getElem?
   intro j
   by_cases hj:i = j
   ·subst hj
    rw [List.getElem?_set_self (qae hB),hB]
   ·rw [List.getElem?_set_ne hj]
  rw [e1]
  exact h
 | x :: L,ow,st,own,h,hB,hm,hn,hc => by
  rw [List.map_cons,List.nodup_cons] at hn
  obtain ⟨v,hv1,hv2⟩:=hc x (by simp)
  obtain ⟨ow1,h1⟩:=h.takeOwn hi hB (hm x (by simp)) hu hv1 hv2
  obtain ⟨ow2,h2⟩:=SR.takeOwns (off:=off) hi hu L h1 (List.getElem?_set_self (qae hB)) (fun y hy => by
   refine List.mem_filter.2 ⟨hm y (by simp [hy]),?_⟩
   simp only [bne_iff_ne,ne_eq]
   exact fun e => hn.1 (List.mem_map.2 ⟨y,hy,by omega⟩)) hn.2 (fun y hy => hc y (by simp [hy]))
  refine ⟨ow2,?_⟩
  simp only [List.set_set,List.filter_filter] at h2
  have e1:((x :: L).map fun y => ((d,y.1),y.2)).reverse ++ st.own = (L.map fun y => ((d,y.1),y.2)).reverse ++ ((d,x.1),x.2) :: st.own:=by simp
  have e2:(own.filter fun z => !(x :: L).any fun y => z.1 == off + y.1) = own.filter fun z => (!L.any fun y => z.1 == off + y.1) && (z.1 != off + x.1):=by
   congr 1
   funext z
   rw [List.any_cons]
   cases (L.any fun y => z.1 == off + y.1) <;> cases hz:(z.1 == off + x.1) <;> simp [bne,hz]
  rw [e1,e2]
  exact h2
theorem qsH (h:SR P E Γ bs ow w a st) {T:TypeId} {i off b:Nat} {cs:List PVal} {own:List (Nat×TypeId)} {l:List PVal} (hi:bs[i]? = some (some b)) (hB:st.boxes[i]? = some (.cells cs own)) (hp:qbg P T (cs.drop off) = some (.agg l)) :
  ∃ v,(loadVar T ⟨b,off,none⟩).run P w = .ok v w∧VR Γ bs w (.agg l) v∧((∃ d,P.underlying T = some d∧(match d with | .struct _ | .array _ _ => True | _ => False))→∀ k,k < l.length→qji v k = w.cell? ⟨b,off + k,none⟩):=by
 obtain ⟨c,t',h1,h2,h3,h4⟩:=h.box_cells hi hB
 have hval:∀ (k:Nat) q,(cs.drop off)[k]? = some q→w.cell? ⟨b,off + k,none⟩ = some (c.getD (off + k) undef)∧VR Γ bs w q (c.getD (off + k) undef):=by
  intro k q hq
  rw [List.getElem?_drop] at hq
  have hlt:off + k < c.size:=Nat.lt_of_lt_of_le (qae hq) h2
  have hc:c[off + k]? = some (c.getD (off + k) undef):=by simp [Array.getD_eq_getD_getElem?,hlt]
  exact ⟨(h4 _).trans hc,h3 _ _ _ hq hc⟩
 obtain ⟨v,hr,hv⟩:=qf7 hp (vals:=fun k => c.getD (off + k) undef) (fun k q hq => (hval k q hq).1) (fun k q hq => (hval k q hq).2)
 refine ⟨v,hr,hv,fun hagg k hk => ?_⟩
 obtain ⟨dd,hd,hm⟩:=hagg
 have hlen:P.cellsOf T ≤ (cs.drop off).length∧l.length = P.cellsOf T:=by
  unfold qbg at hp
  rw [hd] at hp
  have key:(if P.cellsOf T ≤ (cs.drop off).length then some (PVal.agg ((cs.drop off).take (P.cellsOf T))) else none) = some (.agg l):=by
   cases dd <;> simp only at hm <;> exact hp
  split at key
  ·rename_i hh; cases key; exact ⟨hh,by rw [List.length_take]; omega⟩
  ·cases key
 have hp2:qbg P T ((List.range (cs.drop off).length).map fun k => PVal.val (c.getD (off + k) undef)) = some (.agg (((List.range (cs.drop off).length).map fun k => PVal.val (c.getD (off + k) undef)).take (P.cellsOf T))):=by
  unfold qbg
  rw [hd]
  cases dd <;> simp at hm <;> simp only <;> rw [if_pos (by simpa using hlen.1)]
 obtain ⟨v2,hr2,hv2⟩:=qf7 (Γ:=Γ) (bs:=bs) hp2 (vals:=fun k => c.getD (off + k) undef) (fun k q hq => by
   have hlt:k < (cs.drop off).length:=by have:=qae hq; simpa using this
   exact (hval k _ (List.getElem?_eq_getElem hlt)).1) (fun k q hq => by
   have hlt:k < (cs.drop off).length:=by have:=qae hq; simpa using this
   simp only [List.getElem?_map,List.getElem?_range hlt,Option.map_some,Option.some.injEq] at hq
   subst hq
   exact .val _)
 rw [hr] at hr2
 cases hr2
 have hk2:k < (cs.drop off).length:=by omega
 cases hv2 with
 | agg _ vs hl hvv =>
  have hd1:(cs.drop off).length = cs.length - off:=List.length_drop
  have hkv:k < vs.size:=by rw [hl]; simp; omega
  have hq:(((List.range (cs.drop off).length).map fun k => PVal.val (c.getD (off + k) undef)).take (P.cellsOf T))[k]? = some (.val (c.getD (off + k) undef)):=by
   rw [List.getElem?_take_of_lt (by omega)]
   simp only [List.getElem?_map,List.getElem?_range hk2,Option.map_some]
  have:=hvv k _ vs[k] hq (by simp [hkv])
  show vs[k]? = _
  rw [(hval k _ (List.getElem?_eq_getElem hk2)).1]
  rw [Array.getElem?_eq_getElem hkv]
  generalize vs[k] = q at this
  generalize c.getD (off + k) undef = q2 at this
  cases this
  rfl
end
variable {a:Act} {st:PSt}
theorem qpZ (h:SR P E Γ bs ow w a.tmps st) {o:Oper} {id d:Nat} {T:TypeId} {parts:Array (Nat×Operand)} {p:PVal} {L:List (Nat×TypeId)} {K:PSt→Prop} (ho:o.op = .build T parts) (hdst:o.dst = some d) (hd:d < st.tmps.length)
  (hp:qbL P T (parts.toList.map fun x => (x.1,opv E.GE st.tmps x.2)) = some p) (hL:pnil P T (parts.toList.map fun x => (x.1,opv E.GE st.tmps x.2)) L)
  (hK:K { st with tmps:=st.tmps.set d p,own:=(L.map fun x => ((d,x.1),x.2)) ++ qbB d st.own }) (Q:Exit→Act→World→Prop) :
  o.wp P a w (qf1 P E bs id (qak o.op) a.defers K) Q:=by
 have hρ:∀ x,VR Γ bs w (opv E.GE st.tmps x) (a.eval x):=fun x => h.opv a.defers x
 obtain ⟨k1,k2⟩:=qpc hρ parts.toList
 obtain ⟨v,r1,r2⟩:=qo3 k1 k2 hp
 obtain ⟨cs,hcs,hn⟩:=hL
 obtain ⟨ov,s1,s2,s3⟩:=qA5 k1 k2 hcs
 rw [r1] at s1
 cases s1
 have hrun:(execOp a.eval o).run P w = .ok (.value (.agg ov)) w:=by
  have:(parts.map fun x => (x.1,a.eval x.2)) = (parts.toList.map fun x => (x.1,a.eval x.2)).toArray:=by apply Array.ext'; simp
  simp only [execOp,ho]
  rw [this]
  simp [r1]
 unfold Oper.wp
 rw [hrun,Oper.upon_value]
 have hds:d < a.tmps.size:=by rw [h.sz]; exact hd
 have g1:=h.set (d:=d) r2
 have g2:=g1.ownNils (d:=d) (u := .agg ov) (by simp [hds]) L fun x hx => by
  have hq:=qxp hn x hx
  have hlt:x.1 < ov.size:=by rw [s2]; exact qae hq
  have hv:=s3 x.1 _ ov[x.1] hq (by simp [hlt])
  show ov[x.1]? = _
  rw [Array.getElem?_eq_getElem hlt]
  generalize ov[x.1] = q at hv
  cases hv
  rfl
 have hput:∀ v,(a.put o.dst v).tmps = a.tmps.setIfInBounds d v:=fun v => by rw [hdst]; rfl
 rw [← hput] at g2
 exact ⟨qby _ _ _,Γ,bs,_,_,g2,hK,.inl rfl⟩
theorem SR.ownLe (h:SR P E Γ bs ow w a.tmps st) {H0:List PBox} (hs:ownLe H0 st.boxes):SR P E Γ bs ow w a.tmps { st with boxes:=H0 } :=
 { h with
  bl:=h.bl.trans hs.1.symm
  bx:=fun i b B hb hB => by
   obtain ⟨B',hB',hx⟩:=hs.2 i B hB
   obtain ⟨k1,k2,k3⟩:=h.bx i b B' hb hB'
   rcases hx with rfl | ⟨cs,own,own',rfl,rfl,_⟩
   ·exact ⟨k1,k2,k3⟩
   ·exact ⟨k1,k2,k3⟩
  ob:=fun i j e cs own b hB hj hb => by
   obtain ⟨B',hB',hx⟩:=hs.2 i _ hB
   rcases hx with rfl | ⟨cs1,own1,own2,rfl,e2,hsub⟩
   ·exact h.ob i j e cs own b hB' hj hb
   ·cases e2; exact h.ob i j e _ own1 b hB' (hsub _ hj) hb }
theorem qvG (h:SR P E Γ bs ow w a.tmps st) {o:Oper} {id d:Nat} {f:Operand} {args:Array Operand} {tys:Array TypeId} {r:PVal} {ro:List (Nat×TypeId)} {H':List PBox} {oa:List OA} {K:PSt→Prop} (ho:o.op = .call { callee := .value f,args,argTypes:=tys }) (hdst:o.dst = some d) (hd:d < st.tmps.length)
  (hg:GCall P E.GE f args.toList st r ro H' oa) (hK:K ⟨st.tmps.set d r,H',(ro.map fun x => ((d,x.1),x.2)) ++ qbB d (st.own.filter fun z => !oa.any fun x => z.1 == (x.t,x.k))⟩) (Q:Exit→Act→World→Prop) :
  o.wp P a w (qf1 P E bs id (qak o.op) a.defers K) Q:=by
 obtain ⟨g,first,cap,argsC,ρ,H0,Hc,Hc',rc,hfv,hnd,hC,hle,hH,hH',hlen,hsame,hr,hal,ha,ho1,ho3⟩:=hg.ex
 have hρ:∀ x,VR Γ bs w (opv E.GE st.tmps x) (a.eval x):=fun x => h.opv a.defers x
 have hf:=hρ f
 rw [hfv] at hf
 generalize hvf:a.eval f = vf at hf
 cases hf with
 | func _ _ _ fs cs hl hl' h1 h2 =>
 have hargs:(fs ++ args.map a.eval ++ cs).size = (first ++ args.toList.map (opv E.GE st.tmps) ++ cap).length:=by simp [hl,hl']
 have hvr:∀ (i:Nat) p v,(first ++ args.toList.map (opv E.GE st.tmps) ++ cap)[i]? = some p→(fs ++ args.map a.eval ++ cs)[i]? = some v→VR Γ bs w p v:=by
  refine qrd (by simp [hl]) (qrd hl h1 fun i p v hp hv => ?_) h2
  exact qtf hρ args.toList i p v hp (by simpa using hv)
 have hrun:(execOp a.eval o).run P w = .ok (.enter g (fs ++ args.map a.eval ++ cs)) w:=by
  simp [execOp,ho,resolve,hvf,Deferred.ofValue,invoke,hC.1]
 have hds:d < a.tmps.size:=by rw [h.sz]; exact hd
 have hw:=h.ownLe hle
 unfold Oper.wp
 rw [hrun,Oper.upon_enter]
 refine (qFX hw hds hnd hC (fun x hx => ?_) ho3 hH hH' (hlen.trans hle.1.symm) hsame hr hal ha hargs hvr).mono fun e w' he => ?_
 ·obtain ⟨j,hj,hj2⟩:=ho1 x hx
  have hat:∀ {y:Operand},args.toList[j]? = some y→(fs ++ args.map a.eval ++ cs)[x.i]? = some (a.eval y):=by
   intro y hy
   have hjl:j < args.size:=by have:=qae hy; simpa using this
   have hja:args[j]? = some y:=by simpa using hy
   rw [hj,← hl,Array.getElem?_append_left (by simp; omega),Array.getElem?_append_right (by omega),Nat.add_sub_cancel_left]
   simp only [Array.getElem?_map,hja,Option.map_some]
  rcases hj2 with ⟨hj2,hk⟩ | ⟨ht,hj2⟩
  ·exact .inl ⟨hat hj2,hk⟩
  ·obtain ⟨u,v,e1,_⟩:=h.ot _ _ _ ht
   exact .inr ⟨ht,by rw [hat hj2,qiQ e1]; exact e1.symm⟩
 ·obtain ⟨v,Γ',ow',rfl,hS,_⟩:=he
  have hput:(a.put o.dst v).tmps = a.tmps.setIfInBounds d v:=by rw [hdst]; rfl
  show qf1 P E bs id (qak o.op) a.defers K (a.put o.dst v) w'
  refine ⟨qby _ _ _,Γ',bs,ow',_,?_,hK,.inl rfl⟩
  rw [hput]; exact hS
theorem qs2 (h:SR P E Γ bs ow w a.tmps st) {o:Oper} {id:Nat} {K:PSt→Prop} (hp:pown P E.GE o K st) (Q:Exit→Act→World→Prop) :
  o.wp P a w (qf1 P E bs id (qak o.op) a.defers K) Q:=by
 unfold pown at hp
 split at hp
 ·rename_i T parts d ho hd
  obtain ⟨p,L,h1,h2,h3,h4⟩:=hp
  exact qpZ h ho hd h3 h1 h2 h4 Q
 ·rename_i T x t ho hd
  obtain ⟨i,off,H,cs,own,L,l,hx,ht,hst,hB,hm,hn,hK⟩:=hp
  have htl:t < st.tmps.length:=by
   by_cases hlt:t < st.tmps.length
   ·exact hlt
   ·rw [List.getD_eq_getElem?_getD,List.getElem?_eq_none (Nat.le_of_not_lt hlt)] at ht; cases ht
  have hta:t < a.tmps.size:=by rw [h.sz]; exact htl
  have hu:a.tmps[t]? = some a.tmps[t]:=by simp [hta]
  generalize a.tmps[t] = u at hu
  have hvt:=qy0 h hu
  rw [ht] at hvt
  have hvx:VR Γ bs w (opv E.GE st.tmps x) (a.eval x):=h.opv a.defers x
  rw [hx] at hvx
  obtain ⟨w',r1,r2,_,r4⟩:=qqy h hvx hvt hst
  have hrun:(execOp a.eval o).run P w = .ok .skip w':=by simp [execOp,ho,qiQ hu,r1]
  unfold Oper.wp
  rw [hrun,Oper.upon_skip]
  generalize a.eval x = vx at hvx r1
  cases hvx with
  | bptr _ _ b hb =>
  obtain ⟨c1,_⟩:=r4 i off b rfl hb
  obtain ⟨ow',g⟩:=SR.moveOwns (off:=off) hb hu L r2 hB hm hn fun y hy => by
   obtain ⟨u',v,e1,e2,_,_⟩:=h.ot t y.1 y.2 (hm y hy)
   rw [hu] at e1
   cases e1
   refine ⟨v,e2,?_⟩
   cases hvt with
   | agg _ vs _ _ => exact c1 y.1 v e2
  have hput:a.put o.dst undef = a:=by rw [hd]; rfl
  rw [hput]
  exact ⟨rfl,Γ,bs,ow',_,g,hK,.inl rfl⟩
 ·rename_i T x d ho hd
  obtain ⟨i,off,cs,own,L,l,⟨fs,hfs⟩,hx,hB,hp,hm,hn,hll,hdl,hK⟩:=hp
  have hvx:VR Γ bs w (opv E.GE st.tmps x) (a.eval x):=h.opv a.defers x
  rw [hx] at hvx
  generalize hve:a.eval x = vx at hvx
  cases hvx with
  | bptr _ _ b hb =>
  obtain ⟨v,r1,r2,r3⟩:=qsH h hb hB hp
  have hrun:(execOp a.eval o).run P w = .ok (.value v) w:=by simp [execOp,ho,hve,Instr.loadAt,Instr.sureAddr,r1]
  unfold Oper.wp
  rw [hrun,Oper.upon_value]
  have hds:d < a.tmps.size:=by rw [h.sz]; exact hdl
  have g1:=h.set (d:=d) r2
  obtain ⟨ow',g2⟩:=SR.takeOwns (off:=off) (d:=d) (u:=v) hb (by simp [hds]) L g1 hB hm hn fun y hy => by
   have:=r3 ⟨_,hfs,trivial⟩ y.1 (hll y hy)
   obtain ⟨v',q1,_⟩:=h.ob i (off + y.1) y.2 cs own b hB (hm y hy) hb
   exact ⟨v',this.trans q1,q1⟩
  have hput:∀ v,(a.put o.dst v).tmps = a.tmps.setIfInBounds d v:=fun v => by rw [hd]; rfl
  rw [← hput] at g2
  exact ⟨qby _ _ _,Γ,bs,ow',_,g2,hK,.inl rfl⟩
 ·rename_i T x d ho hd
  obtain ⟨vs,hvs,hdl,hK⟩:=hp
  have hvx:VR Γ bs w (opv E.GE st.tmps x) (a.eval x):=h.opv a.defers x
  generalize hve:a.eval x = vx at hvx
  obtain ⟨k1,k2⟩:=hvx.cells hvs
  obtain ⟨g1,hle⟩:=h.alloc_imm vx.cells T vx.cells.size (Nat.le_refl _)
  have hrun:(execOp a.eval o).run P w = .ok (.value (.pointer (some ⟨w.heap.size,0,none⟩))) (w.alloc (.cells vx.cells T)):=by simp [execOp,ho,hve,Instr.box,newVar,newRow]
  unfold Oper.wp
  rw [hrun,Oper.upon_value]
  have hcell:∀ j,(w.alloc (.cells vx.cells T)).cell? ⟨w.heap.size,j,none⟩ = vx.cells[j]?:=fun j => cell_of_row _ _ _ _ _ _ (qeH w _)
  have hget:∀ {k:Nat} {p:PVal},vs[k]? = some p→vx.cells[k]? = some (vx.cells.getD k undef):=fun {k p} hp => by
   have hlt:k < vx.cells.size:=by rw [k1]; exact qae hp
   simp [Array.getD_eq_getD_getElem?,hlt]
  have hvr:VR (Γ.put w.heap.size vx.cells.size) bs (w.alloc (.cells vx.cells T)) (.eptr vs) (.pointer (some ⟨w.heap.size,0,none⟩)) :=
   .eptr vs w.heap.size 0 vx.cells.size (fun k => vx.cells.getD k undef) (Γ.put_same _ _) (by omega)
    (fun k p hp => by rw [hcell,Nat.zero_add]; exact hget hp) (fun k p hp => (k2 k p _ hp (hget hp)).mono hle (.refl _))
  have g2:=g1.set (d:=d) hvr
  have hput:∀ v,(a.put o.dst v).tmps = a.tmps.setIfInBounds d v:=fun v => by rw [hd]; rfl
  rw [← hput] at g2
  exact ⟨qby _ _ _,_,bs,_,_,g2,hK,.inl rfl⟩
 ·rename_i f args tys d ho hd
  obtain ⟨r,ro,H',oa,h1,h2,h3⟩:=hp
  exact qvG h ho hd h2 h1 h3 Q
 ·exact hp.elim
theorem qtH (h:SR P E Γ bs ow w a.tmps st) {A:List Nat} {o:Oper} {id:Nat} (hid:qak o.op = true→bs[id]? = some none) {K:PSt→Prop} (hp:qt2 P E.GE A o id K st) (Q:Exit→Act→World→Prop) :
  o.wp P a w (qBX P E bs id (qak o.op) a.defers K) Q:=by
 rcases hp with hp | hp | hp
 ·exact Oper.wp_mono (fun _ _ hA => hA.to3) (qBb h hid hp Q)
 ·exact Oper.wp_mono (fun _ _ hA => hA.to3) (qs2 h hp Q)
 ·exact qC4 h hp Q
theorem qnS {bs0:qbj} {ds:List Deferred} {A:List Nat} {ops:Array Oper} {K:PSt→Prop} {Q:Exit→Act→World→Prop}
  (hQ:∀ a w st,a.defers = ds→Rel P E bs0 st a w→K st→Q .normal a w) :
  ∀ (rest:List Oper) (k id:Nat) (Γ:qaP) (bs:qbj) (ow:Nat→Option Loc) (a:Act) (w:World) (st:PSt),(∀ j,rest[j]? = ops[k + j]?)→SR P E Γ bs ow w a.tmps st→a.defers = ds→qHv bs0 bs→bs0.length ≤ id →
   (∀ m,id ≤ m→m < id + qa8 rest→bs[m]? = some none)→qbW P E.GE A ops K rest id st→wpOps P ops Q ((List.range ops.size).drop k) a w
 | [],k,id,Γ,bs,ow,a,w,st,hr,h,hd,hk,_,_,hp => by
  have hsz:ops.size ≤ k:=by
   have:=hr 0
   simp only [List.getElem?_nil,Nat.add_zero] at this
   exact Array.getElem?_eq_none_iff.1 this.symm
  rw [List.drop_eq_nil_of_le (by simpa using hsz)]
  exact hQ a w st hd ⟨Γ,bs,ow,h,hk⟩ hp
 | o :: rest,k,id,Γ,bs,ow,a,w,st,hr,h,hd,hk,hid,hfree,hp => by
  have hok:ops[k]? = some o:=by have:=hr 0; simpa using this.symm
  have hlt:k < ops.size:=(Array.getElem?_eq_some_iff.1 hok).1
  have hcons:(List.range ops.size).drop k = k :: (List.range ops.size).drop (k + 1):=by
   rw [List.drop_eq_getElem_cons (by simpa using hlt)]; simp
  rw [hcons,wpOps_cons]
  unfold wpOp
  rw [hok]
  simp only
  have hcnt:qa8 (o :: rest) = (if qak o.op then 1 else 0) + qa8 rest:=by
   unfold qa8
   simp only [List.filter_cons]
   split <;> simp <;> omega
  have hrest:∀ j,rest[j]? = ops[k + 1 + j]?:=fun j => by
   have:=hr (j + 1)
   simpa [Nat.add_assoc,Nat.add_comm 1 j] using this
  have hmk:qak o.op = true→bs[id]? = some none:=fun hm => hfree id (Nat.le_refl _) (by rw [hcnt,hm]; simp; omega)
  have step:qt2 P E.GE A o id (qbW P E.GE A ops K rest (id + if qak o.op then 1 else 0)) st→o.wp P a w (wpOps P ops Q ((List.range ops.size).drop (k + 1))) Q:=by
   intro hs
   refine Oper.wp_mono (fun a' w' hA => ?_) (qtH h hmk hs Q)
   obtain ⟨hd',Γ',bs',ow',st',h1,h2,h3⟩:=hA
   refine qnS hQ rest (k + 1) _ Γ' bs' ow' a' w' st' hrest h1 (hd'.trans hd) ?_ (by omega) ?_ h2
   ·rcases h3 with rfl | ⟨hm,b,rfl⟩ | ⟨x,rfl⟩
    ·exact hk
    ·intro i hi
     rw [List.getElem?_set_ne (by omega)]
     exact hk i hi
    ·intro i hi
     have hki:=hk i hi
     have hlt:i < bs.length:=by
      have h1:bs0[i]? = some bs0[i]:=List.getElem?_eq_getElem hi
      rw [h1] at hki
      exact qae hki
     rw [List.getElem?_append_left hlt]
     exact hki
   ·intro m hm1 hm2
    have hb:=hfree m (by omega) (by rw [hcnt]; omega)
    rcases h3 with rfl | ⟨hm,b,rfl⟩ | ⟨x,rfl⟩
    ·exact hb
    ·rw [hm] at hm1
     simp only [if_true] at hm1
     rw [List.getElem?_set_ne (by omega)]
     exact hb
    ·rw [List.getElem?_append_left (qae hb)]
     exact hb
  have skip:qbW P E.GE A ops K rest (id + if qak o.op then 1 else 0) (putv st o.dst (.val undef) [] st.boxes)→wpOps P ops Q ((List.range ops.size).drop (k + 1)) (a.put o.dst undef) w:=by
   intro hs
   refine qnS hQ rest (k + 1) _ Γ bs ow (a.put o.dst undef) w _ hrest (h.putv_nil (.val undef) o.dst rfl) ((qby _ _ _).trans hd) hk (by omega) (fun m hm1 hm2 => hfree m (by omega) (by rw [hcnt]; omega)) hs
  simp only [qbW] at hp
  have hgo:(Region.wanted o (yielded ops a.tmps) = true→o.wp P a w (wpOps P ops Q ((List.range ops.size).drop (k + 1))) Q)∧(¬ Region.wanted o (yielded ops a.tmps) = true→wpOps P ops Q ((List.range ops.size).drop (k + 1)) (a.put o.dst undef) w):=by
   split at hp
   ·rename_i hg
    exact ⟨fun _ => step hp,fun hn => absurd (by simp [Region.wanted,hg]) hn⟩
   ·rename_i j want hg
    split at hp
    ·rename_i x hx
     have hw:Region.wanted o (yielded ops a.tmps) = (x == some want):=by simp [Region.wanted,hg,qvj h hx]
     rw [hw]
     exact ⟨fun hx => step (hp.1 (by simpa using hx)),fun hx => skip (hp.2 (by simpa using hx))⟩
    ·exact hp.elim
  by_cases hw:Region.wanted o (yielded ops a.tmps) = true
  ·rw [if_pos hw]; exact .inl (hgo.1 hw)
  ·rw [if_neg hw]; exact hgo.2 hw
theorem qyH {bs0:qbj} {A:List Nat} {ops:Array Oper} {K:PSt→Prop} {Q:Exit→Act→World→Prop} (hR:Rel P E bs0 st a w) (hl:bs0.length ≤ st.boxes.length)
  (hQ:∀ a' w' st',a'.defers = a.defers→Rel P E bs0 st' a' w'→K st'→Q .normal a' w') (hp:qbW P E.GE A ops K ops.toList st.boxes.length { st with boxes:=st.boxes ++ qdQ P ops.toList }) :
  wpOps P ops Q (List.range ops.size) a w:=by
 obtain ⟨Γ,bs,ow,h,hk⟩:=hR
 have hext:=h.extend (qdQ P ops.toList)
 have hlen:=qvH P ops.toList
 have:=qnS (P:=P) (E:=E) (bs0:=bs0) (ds:=a.defers) hQ ops.toList 0 st.boxes.length Γ _ ow a w _ (fun j => by simp) hext rfl (fun i hi => ?_) hl (fun m hm1 hm2 => ?_) hp
 ·simpa using this
 ·rw [List.getElem?_append_left (by rw [h.bl]; omega)]; exact hk i hi
 ·rw [List.getElem?_append_right (by rw [h.bl]; omega),List.getElem?_replicate,if_pos (by rw [h.bl]; omega)]
end
end Go.Proofs.YtgldgpdhblndkaaGreatDoor
