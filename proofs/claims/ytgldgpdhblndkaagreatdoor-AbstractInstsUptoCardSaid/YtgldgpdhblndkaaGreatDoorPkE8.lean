/- WHAT IS PROVED: parts of the proof, put together by a program (AbsQ AbsR). Conditions: none. -/
import Derived.Test.YtgldgpdhblndkaaGreatDoorPkE7
noncomputable section
namespace Go.Proofs.YtgldgpdhblndkaaGreatDoor
open Go
def qwk (P:Program) (GE:List (Nat×List PVal)) (fv:PVal) (args:List PVal) (H:List PBox) (K:PVal→List (Nat×TypeId)→List PBox→Prop):Prop :=
 match fv with
 | .func (.func g) first cap =>
  (clL 0 (first ++ args ++ cap)∧∃ r ro,C P GE g (first ++ args ++ cap) [] [] r ro []∧K r ro H) ∨
  (∃ (ρ:List Nat) (argsC:List PVal) (Hc:List PBox) (rc:PVal) (ro:List (Nat×TypeId)) (Hc' H':List PBox) (r:PVal),ρ.Nodup∧C P GE g argsC [] Hc rc ro Hc'∧Handed ρ H Hc∧Handed ρ H' Hc' ∧
   H'.length = H.length∧(∀ j:Nat,j ∉ ρ→H'[j]? = H[j]?)∧Rix ρ r rc∧(first ++ args ++ cap).length = argsC.length ∧
   (∀ (i:Nat) p q,(first ++ args ++ cap)[i]? = some p→argsC[i]? = some q→Rix ρ p q)∧K r ro H')
 | _ => False
def pdo (P:Program) (GE:List (Nat×List PVal)) (op:Op) (id:Nat) (v:Operand→PVal) (H:List PBox) (K:PVal→List (Nat×TypeId)→List PBox→Prop):Prop :=
 match op with
 | .call { callee := .value f,args,.. } => qwk P GE (v f) (args.toList.map v) H K
 | op => match pev P op id v H with
  | some (p,H') => K p [] H'
  | none => False
def putv (st:PSt) (dst:Option Tmp) (p:PVal) (ro:List (Nat×TypeId)) (H:List PBox):PSt :=
 match dst with
 | some d => { tmps:=st.tmps.set d p,boxes:=H,own:=(ro.map fun x => ((d,x.1),x.2)) ++ qbB d st.own }
 | none => { st with boxes:=H }
def qne (P:Program) (t:TypeId) (v:Value):Option TypeId :=
 match v,P.underlying t with
 | .slice none 0 0,some (.slice e) => some e
 | _,_ => none
def qkt (o:Oper) (n:Nat):Bool :=
 match o.op with
 | .call { callee := .value _,.. } => o.dst.any fun d => decide (d < n)
 | _ => true
def qzR (P:Program) (GE:List (Nat×List PVal)) (A:List Nat) (o:Oper) (id:Nat) (K:PSt→Prop) (st:PSt):Prop :=
 let plain:=qkt o st.tmps.length = true∧pdo P GE o.op id (opv GE st.tmps) st.boxes fun p ro H => K (putv st o.dst p ro H)
 match o.op,o.dst with
 | .assign (.tmp t),some d => d < st.tmps.length∧K { st with tmps:=st.tmps.set d (st.tmps.getD t .undef),own:=qgr d (fun x => if x.1 = t then (d,x.2) else x) st.own }
 | .move (.tmp t),some d =>
  if d ∈ A then d < st.tmps.length∧K { st with tmps:=st.tmps.set d (st.tmps.getD t .undef),own:=qgr d (fun x => if x.1 = t then (d,x.2) else x) st.own } else plain
 | .assign (.const v),some d => match qne P o.type v with
  | some e => d < st.tmps.length∧K { st with tmps:=st.tmps.set d (.slice []),own:=((d,0),e) :: qbB d st.own }
  | none => plain
 | .move (.const v),some d => match qne P o.type v with
  | some e => d < st.tmps.length∧K { st with tmps:=st.tmps.set d (.slice []),own:=((d,0),e) :: qbB d st.own }
  | none => plain
 | .extract (.tmp t) i,some d => match qmo (st.tmps.getD t .undef) i with
  | some p => d < st.tmps.length∧K { st with tmps:=st.tmps.set d p,own:=qgr d (fun x => if x = (t,i) then (d,0) else x) st.own }
  | none => False
 | .buildSlice T len parts,some d => match qdp P T len (parts.toList.map fun x => (x.1,opv GE st.tmps x.2)),P.underlying T with
  | some p,some (.slice e) => d < st.tmps.length∧K { st with tmps:=st.tmps.set d p,own:=((d,0),e) :: qbB d st.own }
  | _,_ => False
 | .call { callee := .builtin .append,args:=⟨[.tmp t,y]⟩,argTypes:=⟨[T,T']⟩ },some d => match P.underlying T,st.tmps.getD t .undef,opv GE st.tmps y with
  | some (.slice e),.slice es,.slice ns => match qhU P T es ns with
   | some p => T = T'∧d < st.tmps.length∧((t,0),e) ∈ st.own∧K { st with tmps:=st.tmps.set d p,own:=((d,0),e) :: qbB d (st.own.filter fun x => x.1 != (t,0)) }
   | none => False
  | _,_,_ => False
 | .load T x,some d =>
  if d ∈ A then match opv GE st.tmps x,P.underlying T with
   | .bptr i off,some (.slice e) => match st.boxes[i]? with
    | some (.cells cs own) => match cs[off]? with
     | some p => d < st.tmps.length∧(off,e) ∈ own∧K { tmps:=st.tmps.set d p,boxes:=st.boxes.set i (.cells cs (own.filter fun x => x.1 != off)),own:=((d,0),e) :: qbB d st.own }
     | none => False
    | _ => False
   | _,_ => False
  else plain
 | .store T x (.tmp t),_ => match st.own.find? (fun y => y.1 == (t,0)),opv GE st.tmps x,qc4 P T (opv GE st.tmps x) (st.tmps.getD t .undef) st.boxes with
  | some (_,e),.bptr i off,some H => match H[i]?,(st.tmps.getD t .undef).one with
   | some (.cells cs own),true => K (putv { st with own:=st.own.filter fun x => x.1 != (t,0) } o.dst (.val undef) [] (H.set i (.cells cs ((off,e) :: own))))
   | _,_ => plain
  | _,_,_ => plain
 | _,_ => plain
section
variable {P:Program} {E:Ent} {Γ:qaP} {bs:qbj} {ow:Nat→Option Loc} {w:World} {a:Act} {st:PSt}
def qf1 (P:Program) (E:Ent) (bs:qbj) (id:Nat) (mk:Bool) (ds:List Deferred) (K:PSt→Prop) (a:Act) (w:World):Prop :=
 a.defers = ds∧∃ Γ bs' ow st,SR P E Γ bs' ow w a.tmps st∧K st∧(bs' = bs∨(mk = true∧∃ b,bs' = bs.set id (some b)))
theorem SR.putv_nil (h:SR P E Γ bs ow w a.tmps st) {p:PVal} {v:Value} (hv:VR Γ bs w p v) (dst:Option Tmp) {H:List PBox} (hH:H = st.boxes) :
  SR P E Γ bs ow w (a.put dst v).tmps (putv st dst p [] H):=by
 subst hH
 cases dst with
 | none => exact h
 | some d => exact h.set hv
theorem qby (a:Act) (dst:Option Tmp) (v:Value):(a.put dst v).defers = a.defers:=by cases dst <;> rfl
theorem qoP {n:Nat} {l r:List PVal}:clL n (l ++ r)↔clL n l∧clL n r:=by
 induction l with
 | nil => simp [clL]
 | cons p l ih => simp only [List.cons_append,clL,ih]; exact ⟨fun h => ⟨⟨h.1,h.2.1⟩,h.2.2⟩,fun h => ⟨h.1.1,h.1.2,h.2⟩⟩
theorem qrd {l r:List PVal} {x y:Array Value} (hl:x.size = l.length) (h:∀ (i:Nat) p v,l[i]? = some p→x[i]? = some v→VR Γ bs w p v) (h':∀ (i:Nat) p v,r[i]? = some p→y[i]? = some v→VR Γ bs w p v)
  (i:Nat) (p:PVal) (v:Value) (hp:(l ++ r)[i]? = some p) (hv:(x ++ y)[i]? = some v):VR Γ bs w p v:=by
 by_cases hi:i < l.length
 ·rw [List.getElem?_append_left hi] at hp
  rw [Array.getElem?_append_left (by omega)] at hv
  exact h i p v hp hv
 ·rw [List.getElem?_append_right (by omega)] at hp
  rw [Array.getElem?_append_right (by omega),hl] at hv
  exact h' _ p v hp hv
theorem qAE (h:SR P E Γ bs ow w a.tmps st) {o:Oper} {f:Operand} {args:Array Operand} {tys:Array TypeId} (ho:o.op = .call { callee := .value f,args,argTypes:=tys }) {d:Nat} (hdst:o.dst = some d) (hd:d < st.tmps.length)
  {K:PVal→List (Nat×TypeId)→List PBox→Prop} (hp:qwk P E.GE (opv E.GE st.tmps f) (args.toList.map (opv E.GE st.tmps)) st.boxes K) (next:Act→World→Prop) (Q:Exit→Act→World→Prop)
  (hn:∀ v Γ' ow' w' p ro H,K p ro H→SR P E Γ' bs ow' w' (a.put o.dst v).tmps (putv st o.dst p ro H)→next (a.put o.dst v) w'):o.wp P a w next Q:=by
 have hρ:∀ x,VR Γ bs w (opv E.GE st.tmps x) (a.eval x):=fun x => h.opv a.defers x
 unfold qwk at hp
 have hf:=hρ f
 split at hp
 case h_2 => exact hp.elim
 rename_i g first cap hfv
 rw [hfv] at hf
 generalize hvf:a.eval f = vf at hf
 cases hf with
 | func _ _ _ fs cs hl hl' h1 h2 =>
 have hargs:(fs ++ args.map a.eval ++ cs).size = (first ++ args.toList.map (opv E.GE st.tmps) ++ cap).length:=by simp [hl,hl']
 have hvr:∀ (i:Nat) p v,(first ++ args.toList.map (opv E.GE st.tmps) ++ cap)[i]? = some p→(fs ++ args.map a.eval ++ cs)[i]? = some v→VR Γ bs w p v:=by
  refine qrd (by simp [hl]) (qrd hl h1 fun i p v hp hv => ?_) h2
  exact qtf hρ args.toList i p v hp (by simpa using hv)
 have hrun:∀ hcall:(∀ vs w,(callFunc g vs).run P w = .ok (.enter g vs) w),(execOp a.eval o).run P w = .ok (.enter g (fs ++ args.map a.eval ++ cs)) w:=by
  intro hcall
  simp [execOp,ho,resolve,hvf,Deferred.ofValue,invoke,hcall]
 have hds:d < a.tmps.size:=by rw [h.sz]; exact hd
 unfold Oper.wp
 rcases hp with ⟨hcl,r,ro,hC,hK⟩ | ⟨ρ,argsC,Hc,rc,ro,Hc',H',r,hnd,hC,hH,hH',hlen,hsame,hr,hal,ha,hK⟩
 ·rw [hrun hC.1]
  rw [Oper.upon_enter]
  refine (qD7 h hds hC hargs hvr hcl).mono fun e w' he => ?_
  obtain ⟨v,Γ',ow',rfl,hS,_⟩:=he
  refine hn v Γ' ow' w' r ro st.boxes hK ?_
  rw [hdst]; exact hS
 ·rw [hrun hC.1]
  rw [Oper.upon_enter]
  refine (qC5 h hds hnd hC hH hH' hlen hsame hr hal ha hargs hvr).mono fun e w' he => ?_
  obtain ⟨v,Γ',ow',rfl,hS,_⟩:=he
  refine hn v Γ' ow' w' r ro H' hK ?_
  rw [hdst]; exact hS
theorem qA3 {o:Oper} {next:Act→World→Prop} {Q:Exit→Act→World→Prop} {r:Next} {v:Value} {w':World} (hr:r = .value v∨(r = .skip∧v = undef)) (h:next (a.put o.dst v) w'):o.upon P a next Q (.ok r w'):=by
 rcases hr with rfl | ⟨rfl,rfl⟩
 ·exact h
 ·exact h
theorem qEh (h:SR P E Γ bs ow w a.tmps st) {o:Oper} {id:Nat} (hid:qak o.op = true→bs[id]? = some none) {K:PVal→List (Nat×TypeId)→List PBox→Prop} (hp:pdo P E.GE o.op id (opv E.GE st.tmps) st.boxes K)
  (next:Act→World→Prop) (Q:Exit→Act→World→Prop)
  (hdst:∀ f args tys,o.op = .call { callee := .value f,args,argTypes:=tys }→∃ d,o.dst = some d∧d < st.tmps.length)
  (hn:∀ v Γ' bs' ow' w' p ro H,K p ro H→SR P E Γ' bs' ow' w' (a.put o.dst v).tmps (putv st o.dst p ro H)→(bs' = bs∨(qak o.op = true∧∃ b,bs' = bs.set id (some b)))→next (a.put o.dst v) w'):o.wp P a w next Q:=by
 unfold pdo at hp
 split at hp
 ·rename_i f args tys ho
  obtain ⟨d,hd,hdl⟩:=hdst f args tys ho
  exact qAE h ho hd hdl hp next Q fun v Γ' ow' w' p ro H hK hS => hn v Γ' bs ow' w' p ro H hK hS (.inl rfl)
 ·split at hp
  ·rename_i p H he
   obtain ⟨r,v,w',Γ',bs',h1,h2,h3,h4,h5,h6,h7⟩:=qEH h a.defers hid he
   unfold Oper.wp
   rw [show (execOp a.eval o).run P w = .ok r w' from h1]
   refine qA3 h2 (hn v Γ' bs' ow w' p [] H hp ?_ ?_)
   ·cases hd:o.dst with
    | none => exact h3
    | some d => exact h3.set h4
   ·rcases h6 with h6 | ⟨hm,h6⟩
    ·exact .inl h6
    ·exact .inr ⟨hm,_,h6⟩
  ·exact hp.elim
theorem qBC {o:Oper} {n:Nat} (h:qkt o n = true) (f:Operand) (args:Array Operand) (tys:Array TypeId) (ho:o.op = .call { callee := .value f,args,argTypes:=tys }):∃ d,o.dst = some d∧d < n:=by
 unfold qkt at h
 rw [ho] at h
 cases hd:o.dst with
 | none => rw [hd] at h; cases h
 | some d => rw [hd] at h; exact ⟨d,rfl,by simpa using h⟩
theorem qf1.of {o:Oper} {id:Nat} {K:PSt→Prop} (h:SR P E Γ bs ow w a.tmps st) (hid:qak o.op = true→bs[id]? = some none) (hc:qkt o st.tmps.length = true)
  (hp:pdo P E.GE o.op id (opv E.GE st.tmps) st.boxes fun p ro H => K (putv st o.dst p ro H)) (Q:Exit→Act→World→Prop) :
  o.wp P a w (qf1 P E bs id (qak o.op) a.defers K) Q :=
 qEh h hid hp _ Q (qBC hc) fun _ Γ' bs' ow' _ _ _ _ hK hS hb => ⟨qby _ _ _,Γ',bs',ow',_,hS,hK,hb⟩
theorem qy0 (h:SR P E Γ bs ow w a.tmps st) {t:Nat} {v:Value} (ht:a.tmps[t]? = some v):VR Γ bs w (st.tmps.getD t .undef) v:=by
 have hlt:t < st.tmps.length:=by rw [← h.sz]; exact (Array.getElem?_eq_some_iff.1 ht).1
 have:=h.tm t _ v (List.getElem?_eq_getElem hlt) ht
 rwa [List.getD_eq_getElem?_getD,List.getElem?_eq_getElem hlt]
theorem qiQ {t:Nat} {v:Value} (ht:a.tmps[t]? = some v):a.eval (.tmp t) = v:=by
 show a.tmps.getD t undef = v
 rw [Array.getD_eq_getD_getElem?,ht]; rfl
theorem qoR (h:SR P E Γ bs ow w a.tmps st) {o:Oper} {id t d:Nat} {K:PSt→Prop} (ho:o.op = .assign (.tmp t)∨o.op = .move (.tmp t)) (hdst:o.dst = some d) (hd:d < st.tmps.length)
  (hK:K { st with tmps:=st.tmps.set d (st.tmps.getD t .undef),own:=qgr d (fun x => if x.1 = t then (d,x.2) else x) st.own }) (Q:Exit→Act→World→Prop) :
  o.wp P a w (qf1 P E bs id (qak o.op) a.defers K) Q:=by
 unfold Oper.wp
 have hrun:(execOp a.eval o).run P w = .ok (.value (a.eval (.tmp t))) w:=by rcases ho with ho | ho <;> simp [execOp,ho]
 rw [hrun,Oper.upon_value]
 have hv:VR Γ bs w (st.tmps.getD t .undef) (a.eval (.tmp t)):=h.opv a.defers (.tmp t)
 have:=h.setRen (d:=d) (p:=st.tmps.getD t .undef) hv (fun x => if x.1 = t then (d,x.2) else x) (by rw [h.sz]; exact hd) fun t' k' e' _ ht' => by
  by_cases hx:t' = t
  ·subst hx
   exact .inr ⟨k',by simp,fun u v' hu hv' _ => by rw [qiQ hu]; exact hv'⟩
  ·exact .inl (by simp [hx])
 have hput:∀ v,(a.put o.dst v).tmps = a.tmps.setIfInBounds d v:=fun v => by rw [hdst]; rfl
 rw [← hput] at this
 exact ⟨qby _ _ _,Γ,bs,_,_,this,hK,.inl rfl⟩
theorem qv8 (h:SR P E Γ bs ow w a.tmps st) {o:Oper} {id d:Nat} {e:TypeId} {v:Value} {K:PSt→Prop} (ho:o.op = .assign (.const v)∨o.op = .move (.const v)) (hdst:o.dst = some d) (hd:d < st.tmps.length)
  (hn:qne P o.type v = some e) (hK:K { st with tmps:=st.tmps.set d (.slice []),own:=((d,0),e) :: qbB d st.own }) (Q:Exit→Act→World→Prop) :
  o.wp P a w (qf1 P E bs id (qak o.op) a.defers K) Q:=by
 unfold Oper.wp
 have hrun:(execOp a.eval o).run P w = .ok (.value v) w:=by rcases ho with ho | ho <;> simp [execOp,ho,Act.eval]
 rw [hrun,Oper.upon_value]
 have hv:v = .slice none 0 0:=by
  unfold qne at hn
  split at hn
  ·rfl
  ·cases hn
 subst hv
 have h1:=h.set (d:=d) (p := .slice []) (v := .slice none 0 0) .sliceNil
 have hds:d < a.tmps.size:=by rw [h.sz]; exact hd
 have h2:=h1.addOwn (d:=d) (k:=0) (e:=e) (u := .slice none 0 0) (v := .slice none 0 0) (by simp [hds]) rfl ⟨0,[],World.ownsRow_nil _ _ _ _,fun b hb => by simp [Value.ownBlock] at hb⟩ (fun b hb => by simp [Value.ownBlock] at hb)
 have hput:∀ v,(a.put o.dst v).tmps = a.tmps.setIfInBounds d v:=fun v => by rw [hdst]; rfl
 rw [← hput] at h2
 exact ⟨qby _ _ _,Γ,bs,_,_,h2,hK,.inl rfl⟩
theorem qyb (h:SR P E Γ bs ow w a.tmps st) {o:Oper} {id t i d:Nat} {p:PVal} {K:PSt→Prop} (ho:o.op = .extract (.tmp t) i) (hdst:o.dst = some d) (hd:d < st.tmps.length)
  (hp:qmo (st.tmps.getD t .undef) i = some p)
  (hK:K { st with tmps:=st.tmps.set d p,own:=qgr d (fun x => if x = (t,i) then (d,0) else x) st.own }) (Q:Exit→Act→World→Prop) :
  o.wp P a w (qf1 P E bs id (qak o.op) a.defers K) Q:=by
 unfold Oper.wp
 obtain ⟨v,hr,hv⟩:=qtT (P:=P) (h.opv a.defers (.tmp t)) hp
 have hrun:(execOp a.eval o).run P w = .ok (.value v) w:=by simp [execOp,ho,hr]
 rw [hrun,Oper.upon_value]
 have htup:∃ vs,a.eval (.tmp t) = .tuple vs∧vs[i]? = some v:=by
  have hx:(Instr.extract (a.eval (.tmp t)) i).run P w = .ok v w:=hr
  unfold Instr.extract at hx
  split at hx
  ·rename_i vs he
   split at hx
   ·rename_i u hu
    simp at hx; subst hx
    exact ⟨vs,he,hu⟩
   ·simp at hx
  ·simp at hx
 obtain ⟨vs,htu,hvi⟩:=htup
 have:=h.setRen (d:=d) (p:=p) hv (fun x => if x = (t,i) then (d,0) else x) (by rw [h.sz]; exact hd) fun t' k' e' _ ht' => by
  by_cases hx:(t',k') = (t,i)
  ·cases hx
   refine .inr ⟨0,by simp,fun u v' hu hv' ho' => ?_⟩
   rw [qiQ hu] at htu
   subst htu
   have hvv:v = v':=by
    have:vs[i]? = some v':=hv'
    rw [hvi] at this; cases this; rfl
   subst hvv
   obtain ⟨n,xs,⟨_,ho'⟩,_⟩:=ho'
   rcases ho' with ⟨rfl,_⟩ | ⟨g,cap,cur,rfl,_⟩ <;> rfl
  ·exact .inl (by simp [hx])
 have hput:∀ v,(a.put o.dst v).tmps = a.tmps.setIfInBounds d v:=fun v => by rw [hdst]; rfl
 rw [← hput] at this
 exact ⟨qby _ _ _,Γ,bs,_,_,this,hK,.inl rfl⟩
theorem qnv (h:SR P E Γ bs ow w a.tmps st) {o:Oper} {id len d:Nat} {T e:TypeId} {parts:Array (Nat×Operand)} {p:PVal} {K:PSt→Prop} (ho:o.op = .buildSlice T len parts) (hdst:o.dst = some d) (hd:d < st.tmps.length)
  (hT:P.underlying T = some (.slice e)) (hp:qdp P T len (parts.toList.map fun x => (x.1,opv E.GE st.tmps x.2)) = some p)
  (hK:K { st with tmps:=st.tmps.set d p,own:=((d,0),e) :: qbB d st.own }) (Q:Exit→Act→World→Prop) :
  o.wp P a w (qf1 P E bs id (qak o.op) a.defers K) Q:=by
 have hρ:∀ x,VR Γ bs w (opv E.GE st.tmps x) (a.eval x):=fun x => h.opv a.defers x
 obtain ⟨k1,k2⟩:=qpc hρ parts.toList
 obtain ⟨v,w',Γ',h1,h2,h3,h4,h5,h6⟩:=qnP h k1 k2 hp
 have hrun:(execOp a.eval o).run P w = .ok (.value v) w':=by
  have:(parts.map fun x => (x.1,a.eval x.2)) = (parts.toList.map fun x => (x.1,a.eval x.2)).toArray:=by apply Array.ext'; simp
  simp only [execOp,ho]
  rw [this]
  simp [h1]
 unfold Oper.wp
 rw [hrun,Oper.upon_value]
 have hds:d < a.tmps.size:=by rw [h.sz]; exact hd
 have g1:=h2.set (d:=d) h4
 have g2:=g1.addOwn (d:=d) (k:=0) (e:=e) (u:=v) (v:=v) (by simp [hds]) (by
   obtain ⟨n,xs,⟨_,ho'⟩,_⟩:=h5 e hT
   rcases ho' with ⟨rfl,_⟩ | ⟨g,cap,cur,rfl,_⟩ <;> rfl) (h5 e hT) (fun b hb => by
   have:=h6 b hb; subst this
   refine ⟨?_,.inr h.step.size⟩
   cases hL:ow w.heap.size with
   | none => rfl
   | some L => exact absurd (h.on _ L hL).1 (Nat.lt_irrefl _))
 have hput:∀ v,(a.put o.dst v).tmps = a.tmps.setIfInBounds d v:=fun v => by rw [hdst]; rfl
 rw [← hput] at g2
 exact ⟨qby _ _ _,Γ',bs,_,_,g2,hK,.inl rfl⟩
theorem qhY.part {v:Value} {e:TypeId} (h:qhY P Γ w v e):qji v 0 = some v:=by
 obtain ⟨n,xs,⟨_,ho⟩,_⟩:=h
 rcases ho with ⟨rfl,_⟩ | ⟨g,cap,cur,rfl,_⟩ <;> rfl
theorem qAQ {u v:Value} (hu:qji u 0 = some v) (hs:∀ vs,u ≠ .tuple vs) (ha:∀ vs,u ≠ .agg vs):u = v:=by
 cases u <;> simp [qji] at hu <;> first | exact hu | (exact absurd rfl (hs _)) | (exact absurd rfl (ha _))
theorem qtB (h:SR P E Γ bs ow w a.tmps st) {o:Oper} {id t d:Nat} {T e:TypeId} {y:Operand} {es ns:List (List PVal)} {p:PVal} {K:PSt→Prop} (ho:o.op = .call { callee := .builtin .append,args:=⟨[.tmp t,y]⟩,argTypes:=⟨[T,T]⟩ })
  (hdst:o.dst = some d) (hd:d < st.tmps.length) (hT:P.underlying T = some (.slice e)) (het:st.tmps.getD t .undef = .slice es) (hen:opv E.GE st.tmps y = .slice ns) (hp:qhU P T es ns = some p) (hmem:((t,0),e) ∈ st.own)
  (hK:K { st with tmps:=st.tmps.set d p,own:=((d,0),e) :: qbB d (st.own.filter fun x => x.1 != (t,0)) }) (Q:Exit→Act→World→Prop) :
  o.wp P a w (qf1 P E bs id (qak o.op) a.defers K) Q:=by
 obtain ⟨u,v,h1,h2,h3,h4⟩:=h.ot t 0 e hmem
 have hvt:=qy0 h h1
 rw [het] at hvt
 have huv:u = v:=qAQ h2 (fun vs hx => by subst hx; cases hvt) (fun vs hx => by subst hx; cases hvt)
 subst huv
 have hf:=h.freeT t 0
 have hy:VR Γ bs w (opv E.GE st.tmps y) (a.eval y):=h.opv a.defers y
 rw [hen] at hy
 obtain ⟨v',w',Γ',r1,r2,r3,r4,r5,r6⟩:=qBI (ty:=o.type) hf hT hvt hy h3 (fun b hb => ⟨by simp [h4 b hb],(h.on b _ (h4 b hb)).2⟩) hp
 have hrun:(execOp a.eval o).run P w = .ok (.value v') w':=by
  simp [execOp,ho,resolve,invoke,builtin,qiQ h1,r1]
 unfold Oper.wp
 rw [hrun,Oper.upon_value]
 have hds:d < a.tmps.size:=by rw [h.sz]; exact hd
 have g1:=r2.set (d:=d) r4
 have g2:=g1.addOwn (d:=d) (k:=0) (e:=e) (u:=v') (v:=v') (by simp [hds]) r5.part r5 r6
 have hput:∀ v,(a.put o.dst v).tmps = a.tmps.setIfInBounds d v:=fun v => by rw [hdst]; rfl
 rw [← hput] at g2
 exact ⟨qby _ _ _,Γ',bs,_,_,g2,hK,.inl rfl⟩
theorem qrI (h:SR P E Γ bs ow w a.tmps st) {o:Oper} {id i off d:Nat} {T e:TypeId} {x:Operand} {p:PVal} {cs:List PVal} {own:List (Nat×TypeId)} {K:PSt→Prop} (ho:o.op = .load T x)
  (hdst:o.dst = some d) (hd:d < st.tmps.length) (hT:P.underlying T = some (.slice e)) (hx:opv E.GE st.tmps x = .bptr i off) (hB:st.boxes[i]? = some (.cells cs own)) (hp:cs[off]? = some p) (hmem:(off,e) ∈ own)
  (hK:K { tmps:=st.tmps.set d p,boxes:=st.boxes.set i (.cells cs (own.filter fun x => x.1 != off)),own:=((d,0),e) :: qbB d st.own }) (Q:Exit→Act→World→Prop) :
  o.wp P a w (qf1 P E bs id (qak o.op) a.defers K) Q:=by
 have hvx:VR Γ bs w (opv E.GE st.tmps x) (a.eval x):=h.opv a.defers x
 obtain ⟨v,hr,hv⟩:=qwg h hvx (t:=T) (p:=p) (by rw [hx]; simp only [qkH,hB,qbg,hT]; rw [List.head?_drop]; exact hp)
 have hrun:(execOp a.eval o).run P w = .ok (.value v) w:=by simp [execOp,ho,hr]
 unfold Oper.wp
 rw [hrun,Oper.upon_value]
 rw [hx] at hvx
 generalize hve:a.eval x = vx at hvx hr
 cases hvx with
 | bptr _ _ b hb =>
 obtain ⟨v',q1,q2,q3⟩:=h.ob i off e cs own b hB hmem hb
 have hvv:v = v':=by
  have:(loadVar T ⟨b,off,none⟩).run P w = .ok v w:=by simpa [Instr.loadAt,Instr.sureAddr] using hr
  simp [loadVar,isAgg,run_underlying hT,q1] at this
  exact this.symm
 subst hvv
 have hds:d < a.tmps.size:=by rw [h.sz]; exact hd
 have g0:=h.freeB (j:=off) hB
 have g1:=g0.set (d:=d) hv
 have g2:=g1.addOwn (d:=d) (k:=0) (e:=e) (u:=v) (v:=v) (by simp [hds]) q2.part q2 (fun b' hb' => ⟨by simp [q3 b' hb'],(h.on b' _ (q3 b' hb')).2⟩)
 have hput:∀ v,(a.put o.dst v).tmps = a.tmps.setIfInBounds d v:=fun v => by rw [hdst]; rfl
 rw [← hput] at g2
 exact ⟨qby _ _ _,Γ,bs,_,_,g2,hK,.inl rfl⟩
theorem qpN (h:SR P E Γ bs ow w a.tmps st) {o:Oper} {id i off t:Nat} {T e:TypeId} {x:Operand} {cs:List PVal} {own:List (Nat×TypeId)} {H:List PBox} {K:PSt→Prop} (ho:o.op = .store T x (.tmp t))
  (hx:opv E.GE st.tmps x = .bptr i off) (hp:qc4 P T (opv E.GE st.tmps x) (st.tmps.getD t .undef) st.boxes = some H) (hB:H[i]? = some (.cells cs own)) (hone:(st.tmps.getD t .undef).one = true) (hmem:((t,0),e) ∈ st.own)
  (hK:K (putv { st with own:=st.own.filter fun x => x.1 != (t,0) } o.dst (.val undef) [] (H.set i (.cells cs ((off,e) :: own))))) (Q:Exit→Act→World→Prop) :
  o.wp P a w (qf1 P E bs id (qak o.op) a.defers K) Q:=by
 obtain ⟨u,v,h1,h2,h3,h4⟩:=h.ot t 0 e hmem
 have hvt:=qy0 h h1
 have hu1:=VR.one hvt hone
 have huv:u = v:=qAQ h2 (fun vs hx => by subst hx; cases hu1) (fun vs hx => by subst hx; cases hu1)
 subst huv
 have hvx:VR Γ bs w (opv E.GE st.tmps x) (a.eval x):=h.opv a.defers x
 have hf:=h.freeT t 0
 obtain ⟨w',r1,r2,r3⟩:=qxb hf hvx hvt hp
 have hrun:(execOp a.eval o).run P w = .ok .skip w':=by simp [execOp,ho,qiQ h1,r1]
 unfold Oper.wp
 rw [hrun,Oper.upon_skip]
 rw [hx] at hvx
 generalize hve:a.eval x = vx at hvx r1
 cases hvx with
 | bptr _ _ b hb =>
 have hilt:i < st.boxes.length:=by rw [← h.bl]; exact qae hb
 have hgb:Γ b = none:=(h.bx i b _ hb (List.getElem?_eq_getElem hilt)).1
 have hw:∃ x0,w.cell? ⟨b,off,none⟩ = some x0∧w' = w.setCell ⟨b,off,none⟩ u:=by
  have hr:(storeVar T ⟨b,off,none⟩ u).run P w = .ok () w':=by
   simpa [Instr.storeAt,Instr.sureAddr] using r1
  rw [hx] at hp
  unfold qc4 at hp
  have hpc:qaJ (st.tmps.getD t .undef) = some [st.tmps.getD t .undef]:=by
   unfold qaJ
   split
   ·rename_i c hc; rw [hc] at hone; cases hone
   ·rw [if_pos hone]
  simp only [hpc] at hp
  split at hp
  ·rename_i cs0 own0 hB0
   split at hp
   ·rename_i hc
    obtain ⟨c1,cinf,c2,_⟩:=hc
    obtain ⟨inf,cinf⟩:=Option.isSome_iff_exists.1 cinf
    obtain ⟨c,t',e1,e2,e3,e4⟩:=h.box_cells hb hB0
    have hlt:off < c.size:=by simp at c2; omega
    have hcell:w.cell? ⟨b,off,none⟩ = some c[off]:=by rw [e4]; simp [hlt]
    refine ⟨_,hcell,?_⟩
    have hfr:w.frozen? ⟨b,off,none⟩ = false:=frozen_of_row w b off c t' e1
    unfold storeVar at hr
    rw [qv7 hu1] at hr
    have c1':P.cellsOf T = 1:=by simpa using c1.symm
    simp [run_sizeOf w cinf,c1',storeCells,Addr.add_lit,run_store _ _ _ _ _ hu1,hcell,hfr] at hr
    exact hr.symm
   ·cases hp
  ·cases hp
 obtain ⟨x0,hx0,rfl⟩:=hw
 have hcell':(w.setCell ⟨b,off,none⟩ u).cell? ⟨b,off,none⟩ = some u:=World.cell?_setCell_same w _ _ hx0
 have hown':qhY P Γ (w.setCell ⟨b,off,none⟩ u) u e:=h3.same fun b' hb' => by
  refine ⟨heap_setCell_other w _ _ _ (fun he => ?_),rfl⟩
  obtain ⟨n,xs,_,o2⟩:=h3
  have:=o2 b' hb'
  rw [he] at this
  have hbb:(⟨b,off,none⟩:Addr).block = b:=rfl
  rw [hbb,hgb] at this; cases this
 have g1:=r2.addOwnB (i:=i) (b:=b) (j:=off) (e:=e) (v:=u) hb hB hcell' hown' (fun b' hb' => ⟨by simp [h4 b' hb'],(h.on b' _ (h4 b' hb')).2⟩)
 exact ⟨qby _ _ _,Γ,bs,_,_,g1.putv_nil (.val undef) o.dst rfl,hK,.inl rfl⟩
end
def qn6 (ops:Array Oper) (tmps:List PVal) (j:Nat):Option (Option Bool) :=
 match (ops[j]?).bind (·.dst) with
 | none => some none
 | some t => match tmps[t]? with
  | none => some none
  | some (.bool b) => some (some b)
  | some .undef => none
  | some (.val (.bool b)) => some (some b)
  | some _ => some none
def qkF (P:Program) (o:Oper):Option PBox :=
 match o.op with
 | .alloc t => some (match qh0 P t with
  | some zs => .cells zs (qEI P t)
  | none => .dead)
 | .box .. => some .dead
 | .makeMap .. => some (.map [])
 | _ => none
def qdQ (P:Program) (ops:List Oper):List PBox:=ops.filterMap (qkF P)
section
variable {P:Program} {E:Ent} {Γ:qaP} {bs:qbj} {ow:Nat→Option Loc} {w:World} {a:Act} {st:PSt}
theorem qBb (h:SR P E Γ bs ow w a.tmps st) {A:List Nat} {o:Oper} {id:Nat} (hid:qak o.op = true→bs[id]? = some none) {K:PSt→Prop} (hp:qzR P E.GE A o id K st) (Q:Exit→Act→World→Prop) :
  o.wp P a w (qf1 P E bs id (qak o.op) a.defers K) Q:=by
 unfold qzR at hp
 split at hp
 case h_1 t d ho hd => exact qoR h (.inl ho) hd hp.1 hp.2 Q
 case h_2 t d ho hd =>
  split at hp
  ·exact qoR h (.inr ho) hd hp.1 hp.2 Q
  ·exact qf1.of h hid hp.1 hp.2 Q
 case h_3 v d ho hd =>
  split at hp
  ·rename_i e he; exact qv8 h (.inl ho) hd hp.1 he hp.2 Q
  ·exact qf1.of h hid hp.1 hp.2 Q
 case h_4 v d ho hd =>
  split at hp
  ·rename_i e he; exact qv8 h (.inr ho) hd hp.1 he hp.2 Q
  ·exact qf1.of h hid hp.1 hp.2 Q
 case h_5 t i d ho hd =>
  split at hp
  ·rename_i p he; exact qyb h ho hd hp.1 he hp.2 Q
  ·exact hp.elim
 case h_6 T len parts d ho hd =>
  split at hp
  ·rename_i p e he hT; exact qnv h ho hd hp.1 hT he hp.2 Q
  ·exact hp.elim
 case h_7 t y T T' d ho hd =>
  split at hp
  ·rename_i e es ns hT he hn
   split at hp
   ·rename_i p hap
    obtain ⟨rfl,h1,h2,h3⟩:=hp
    exact qtB h ho hd h1 hT he hn hap h2 h3 Q
   ·exact hp.elim
  ·exact hp.elim
 case h_8 T x d ho hd =>
  split at hp
  ·split at hp
   ·rename_i i off e hx hT
    split at hp
    ·rename_i cs own hB
     split at hp
     ·rename_i p hc
      exact qrI h ho hd hp.1 hT hx hB hc hp.2.1 hp.2.2 Q
     ·exact hp.elim
    ·exact hp.elim
   ·exact hp.elim
  ·exact qf1.of h hid hp.1 hp.2 Q
 case h_9 T x t ho =>
  split at hp
  ·rename_i y e i off H hf hx hst
   split at hp
   ·rename_i cs own hB hone
    have hmem:((t,0),e) ∈ st.own:=by
     have h1:=List.mem_of_find?_eq_some hf
     have h2:=List.find?_some hf
     simp only [beq_iff_eq] at h2
     subst h2; exact h1
    exact qpN h ho hx hst hB hone hmem hp Q
   ·exact qf1.of h hid hp.1 hp.2 Q
  ·exact qf1.of h hid hp.1 hp.2 Q
 case h_10 => exact qf1.of h hid hp.1 hp.2 Q
theorem qvj (h:SR P E Γ bs ow w a.tmps st) {ops:Array Oper} {j:Nat} {x:Option Bool} (hg:qn6 ops st.tmps j = some x):yielded ops a.tmps j = x:=by
 unfold qn6 at hg
 unfold yielded
 cases hd:(ops[j]?).bind (·.dst) with
 | none => rw [hd] at hg; cases hg; rfl
 | some t =>
  rw [hd] at hg
  simp only [Option.bind_some]
  simp only at hg
  cases hp:st.tmps[t]? with
  | none =>
   rw [hp] at hg; cases hg
   have:a.tmps[t]? = none:=by
    rw [List.getElem?_eq_none_iff] at hp
    rw [Array.getElem?_eq_none_iff,h.sz]; exact hp
   rw [this]
  | some p =>
   have hlt:t < a.tmps.size:=by rw [h.sz]; exact qae hp
   have hat:a.tmps[t]? = some a.tmps[t]:=by simp [hlt]
   have hv:=h.tm t p _ hp hat
   rw [hp] at hg
   rw [hat]
   generalize a.tmps[t] = v at hv
   cases p <;> (try simp only at hg)
   case undef => cases hg
   case bool b => cases hg; cases hv; rfl
   case val u =>
    cases hv
    cases v <;> (try simp only at hg) <;> cases hg <;> rfl
   all_goals (cases hg; cases hv <;> rfl)
theorem SR.extend (h:SR P E Γ bs ow w a.tmps st) (X:List PBox):SR P E Γ (bs ++ List.replicate X.length none) ow w a.tmps { st with boxes:=st.boxes ++ X }:=by
 have hget:∀ {i b:Nat},(bs ++ List.replicate X.length none)[i]? = some (some b)→bs[i]? = some (some b):=by
  intro i b hi
  by_cases hlt:i < bs.length
  ·rwa [List.getElem?_append_left hlt] at hi
  ·rw [List.getElem?_append_right (by omega),List.getElem?_replicate] at hi
   split at hi <;> cases hi
 have hsub:bs.Sub (bs ++ List.replicate X.length none):=fun i b hi => by rw [List.getElem?_append_left (qae hi)]; exact hi
 have hbox:∀ {i b:Nat} {B:PBox},bs[i]? = some (some b)→(st.boxes ++ X)[i]? = some B→st.boxes[i]? = some B:=by
  intro i b B hi hB
  rwa [List.getElem?_append_left (by rw [← h.bl]; exact qae hi)] at hB
 exact { h with
  tm:=fun t p v hp hv => (h.tm t p v hp hv).mono (.refl _ _) hsub
  bl:=by simp [h.bl]
  bx:=fun i b B hi hB => by
   obtain ⟨h1,h2,h3⟩:=h.bx i b B (hget hi) (hbox (hget hi) hB)
   exact ⟨h1,h2,h3.mono (.refl _ _) hsub rfl⟩
  inj:=fun i j b hi hj => h.inj i j b (hget hi) (hget hj)
  bn:=fun i b hi => h.bn i b (hget hi)
  ob:=fun i j e cs own b hB hj hi => h.ob i j e cs own b (hbox (hget hi) hB) hj (hget hi)
  gl:=fun g cs hg => (h.gl g cs hg).mono (.refl _ _) hsub }
def qHv (bs0 bs:qbj):Prop := ∀ i:Nat,i < bs0.length→bs[i]? = bs0[i]?
def Rel (P:Program) (E:Ent) (bs0:qbj) (st:PSt) (a:Act) (w:World):Prop := ∃ Γ bs ow,SR P E Γ bs ow w a.tmps st∧qHv bs0 bs
def qa8 (ops:List Oper):Nat:=(ops.filter fun o => qak o.op).length
theorem qvH (P:Program) (ops:List Oper):(qdQ P ops).length = qa8 ops:=by
 unfold qdQ qa8
 induction ops with
 | nil => rfl
 | cons o ops ih =>
  simp only [List.filterMap_cons,List.filter_cons]
  cases ho:o.op <;> simp [qkF,qak,ho,ih]
end
end Go.Proofs.YtgldgpdhblndkaaGreatDoor
