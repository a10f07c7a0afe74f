/- WHAT IS PROVED: parts of the proof, put together by a program (AbsI AbsJ). Conditions: none. -/
import Derived.Test.YtgldgpdhblndkaaGreatDoorPkE3
noncomputable section
namespace Go.Proofs.YtgldgpdhblndkaaGreatDoor
open Go
def qjy (kd:TypeDesc) (k:PVal):Bool:=match kd,k with | .string,.str _ => true | .int q,.int q' _ => decide (q = q') | _,_ => false
def qxE (P:Program) (t:TypeId):Option PVal:=((P.info? t).bind (·.zero)).map absV
def qBN:PVal→PVal→Option Bool
 | .str a,.str b => some (a == b)
 | .int k a,.int k' b => if k = k' then some (a == b) else none
 | _,_ => none
def qu4 (k:PVal):List (PVal×PVal)→Nat→Option (Option (Nat×PVal))
 | [],_ => some none
 | (x,v) :: r,i => match qBN k x with
  | some true => some (some (i,v))
  | some false => qu4 k r (i + 1)
  | none => none
def qnW (P:Program) (t:TypeId) (m k:PVal) (ok:Bool) (H:List PBox):Option PVal :=
 match P.underlying t,m with
 | some (.map kt e),.mapr i => match H[i]?,P.underlying kt with
  | some (.map es),some kd =>
   if qjy kd k then
    match qu4 k es 0,qxE P e with
    | some (some (_,v)),_ => some (if ok then .tuple [v,.bool true] else v)
    | some none,some z => some (if ok then .tuple [z,.bool false] else z)
    | _,_ => none
   else none
  | _,_ => none
 | _,_ => none
def qdW (P:Program) (t:TypeId) (m k v:PVal) (H:List PBox):Option (List PBox) :=
 match P.underlying t,m with
 | some (.map kt _),.mapr i => match H[i]?,P.underlying kt with
  | some (.map es),some kd =>
   if qjy kd k then
    match qu4 k es 0 with
    | some (some (j,_)) => some (H.set i (.map (es.set j (k,v))))
    | some none => some (H.set i (.map (es ++ [(k,v)])))
    | none => none
   else none
  | _,_ => none
 | _,_ => none
section
variable {P:Program} {E:Ent} {Γ:qaP} {bs:qbj} {ow:Nat→Option Loc} {w:World} {a:Array Value} {st:PSt}
theorem qo3 {t:TypeId} {parts:List (Nat×PVal)} {vs:List (Nat×Value)} {p:PVal} (hl:parts.length = vs.length)
  (hv:∀ (j:Nat) p v,parts[j]? = some p→vs[j]? = some v→p.1 = v.1∧VR Γ bs w p.2 v.2) (h:qbL P t parts = some p) :
  ∃ v,(Instr.build t vs.toArray).run P w = .ok v w∧VR Γ bs w p v:=by
 unfold qbL at h
 split at h
 ·rename_i fs zs ht hz
  obtain ⟨z,hr,rfl,i,hi,hz'⟩:=qio (w:=w) hz
  split at h
  ·rename_i hall
   simp only [Option.map_eq_some_iff] at h
   obtain ⟨out,ho,rfl⟩:=h
   have hplaces:∀ (l:List Field),(∀ f ∈ l,(P.info? f.type).isSome = true)→(l.mapM fun f => do pure (f.offset,← sizeOf f.type):Sem (List (Nat×Nat))).run P w = .ok (l.map fun f => (f.offset,P.cellsOf f.type)) w:=by
    intro l hl
    induction l with
    | nil => simp
    | cons f l ih =>
     obtain ⟨inf,hinf⟩:=Option.isSome_iff_exists.1 (hl f (by simp))
     have:=ih fun g hg => hl g (by simp [hg])
     simp only [List.mapM_cons,Sem.run_bind,run_sizeOf w hinf,Result.andThen_ok,this,Sem.run_pure,List.map_cons]
   have hp:(fs.mapM fun f => do pure (f.offset,← sizeOf f.type):Sem (Array (Nat×Nat))).run P w = .ok (fs.map fun f => (f.offset,P.cellsOf f.type)) w:=by
    rw [Array.mapM_eq_mapM_toList]
    simp only [Sem.run_map]
    rw [hplaces fs.toList fun f hf => by
     have:=Array.all_eq_true_iff_forall_mem.1 hall f (by simpa using hf)
     simpa using this]
    simp only [Result.andThen_ok]
    exact congrArg (fun x => Result.ok x w) (Array.ext' (by simp))
   obtain ⟨ov,r1,r2,r3⟩:=qr3 (place':=((fs.map fun f => (f.offset,P.cellsOf f.type))[·]?)) (fun i x hx => by simpa using hx) parts vs _ z.cells hl hv (by simp) (fun j p v hp hv => qA9 j p v hp hv) ho
   refine ⟨.agg ov,?_,.agg _ _ r2 r3⟩
   simp only [Instr.build,Sem.run_bind,hr,Result.andThen_ok,run_underlying ht,hp]
   rw [r1]
   simp
  ·cases h
 ·rename_i n e zs ht hz
  obtain ⟨z,hr,rfl,i,hi,hz'⟩:=qio (w:=w) hz
  split at h
  ·rename_i hinf
   obtain ⟨inf,hinf⟩:=Option.isSome_iff_exists.1 hinf
   simp only [Option.map_eq_some_iff] at h
   obtain ⟨out,ho,rfl⟩:=h
   obtain ⟨ov,r1,r2,r3⟩:=qr3 (fun i x hx => hx) parts vs _ z.cells hl hv (by simp) (fun j p v hp hv => qA9 j p v hp hv) ho
   refine ⟨.agg ov,?_,.agg _ _ r2 r3⟩
   simp only [Instr.build,Sem.run_bind,hr,Result.andThen_ok,run_underlying ht,run_sizeOf w hinf]
   simp [r1]
  ·cases h
 ·cases h
theorem qGz (h:SR P E Γ bs ow w a st) {t ty:TypeId} {x p:PVal} {vx:Value} (hx:VR Γ bs w x vx) (hp:plen P t x st.boxes = some p) :
  ∃ v,(Builtin.len_ #[t] ty #[vx]).run P w = .ok v w∧VR Γ bs w p v:=by
 unfold plen at hp
 split at hp
 ·rename_i s ht
  cases hp; cases hx
  have hsz:(ByteArray.mk s.toArray).size = s.length:=by show s.toArray.size = _; simp
  exact ⟨.int .i64 s.length,by simp [Builtin.len_,run_underlying ht,goInt,hsz],.int _ _⟩
 ·rename_i e es ht
  cases hp
  cases hx with
  | sliceNil => exact ⟨.int .i64 0,by simp [Builtin.len_,run_underlying ht,goInt],.int _ _⟩
  | sliceE a cap => exact ⟨.int .i64 0,by simp [Builtin.len_,run_underlying ht,goInt],.int _ _⟩
  | slice es b off cap n sz vals hz0 hcap hg hn hsz hc hv => exact ⟨.int .i64 es.length,by simp [Builtin.len_,run_underlying ht,goInt],.int _ _⟩
 ·rename_i e bx off n ht
  cases hp
  cases hx with
  | bsl _ _ _ x cap hcap hnil hxb => exact ⟨.int .i64 n,by simp [Builtin.len_,run_underlying ht,goInt],.int _ _⟩
 ·rename_i n e ht
  cases hp
  exact ⟨.int .i64 n,by simp [Builtin.len_,run_underlying ht,goInt],.int _ _⟩
 ·rename_i k e i ht
  split at hp
  ·rename_i es hB
   cases hp
   cases hx with
   | mapr i b hi =>
    obtain ⟨_,_,ents,clock,h1,h2,_⟩:=h.bx i b _ hi hB
    refine ⟨.int .i64 es.length,?_,.int _ _⟩
    have hg:(getObj b).run P w = .ok (.map ents clock) w:=by simp [getObj,Sem.run,h1]
    simp [Builtin.len_,run_underlying ht,hg,goInt,h2]
  ·cases hp
 ·cases hp
theorem qDI {x y p:PVal} {vx vy:Value} (hx:VR Γ bs w x vx) (hy:VR Γ bs w y vy) (h:qGa x y = some p):∃ v,(Builtin.max2 vx vy).run P w = .ok v w∧VR Γ bs w p v:=by
 unfold qGa at h
 split at h
 ·cases h; cases hx; cases hy
  exact ⟨_,by simp [Builtin.max2],.int _ _⟩
 ·cases h
theorem qDE {x y p:PVal} {vx vy:Value} (hx:VR Γ bs w x vx) (hy:VR Γ bs w y vy) (h:qF2 x y = some p):∃ v,(Builtin.min2 vx vy).run P w = .ok v w∧VR Γ bs w p v:=by
 unfold qF2 at h
 split at h
 ·cases h; cases hx; cases hy
  exact ⟨_,by simp [Builtin.min2],.int _ _⟩
 ·cases h
theorem qu7 {f:PVal→PVal→Option PVal} {g:Value→Value→Sem Value} (hfg:∀ {x y p:PVal} {vx vy:Value},VR Γ bs w x vx→VR Γ bs w y vy→f x y = some p→∃ v,(g vx vy).run P w = .ok v w∧VR Γ bs w p v) :
  ∀ (l:List PVal) (vs:List Value) (x:PVal) (vx:Value) {p:PVal},l.length = vs.length→VR Γ bs w x vx→(∀ (j:Nat) p v,l[j]? = some p→vs[j]? = some v→VR Γ bs w p v)→qzP f x l = some p →
  ∃ v,(vs.foldlM g vx).run P w = .ok v w∧VR Γ bs w p v
 | [],[],x,vx,p,_,hx,_,h => by simp only [qzP,Option.some.injEq] at h; subst h; exact ⟨vx,by simp,hx⟩
 | [],_ :: _,_,_,_,hl,_,_,_ => by simp at hl
 | _ :: _,[],_,_,_,hl,_,_,_ => by simp at hl
 | y :: l,vy :: vs,x,vx,p,hl,hx,hv,h => by
  simp only [qzP] at h
  split at h
  ·rename_i z hz
   obtain ⟨vz,r1,r2⟩:=hfg hx (hv 0 y vy rfl rfl) hz
   obtain ⟨v,r3,r4⟩:=qu7 hfg l vs z vz (by simpa using hl) r2 (fun j p v hp hv' => hv (j + 1) p v (by simpa using hp) (by simpa using hv')) h
   exact ⟨v,by simp [r1,r3],r4⟩
  ·cases h
end
section
variable {P:Program} {E:Ent} {Γ:qaP} {bs:qbj} {ow:Nat→Option Loc} {w:World} {a:Array Value} {st:PSt}
theorem qxv {sz:Nat}:∀ (parts:List (Nat×PVal)) (k:Nat) {es:List (List PVal)},quc sz k parts = some es →
    es.length = parts.length∧(∀ (i:Nat) e,es[i]? = some e→e.length = sz)∧∀ (i:Nat) x,parts[i]? = some x→x.1 = k + i∧qaJ x.2 = es[i]?
  | [],k,es,h => by
    simp only [quc,Option.some.injEq] at h; subst h
    exact ⟨rfl,by simp,by simp⟩
  | (i,v) :: rest,k,es,h => by
    simp only [quc] at h
    split at h
    · rename_i vs r hvs hr
      split at h
      · rename_i hh
        obtain ⟨rfl,hsz⟩:=hh
        cases h
        obtain ⟨h1,h2,h3⟩:=qxv rest (i + 1) hr
        refine ⟨by simp [h1],fun j e hj => ?_,fun j x hj => ?_⟩
        · cases j with
          | zero => simp at hj; subst hj; exact hsz
          | succ j => exact h2 j e (by simpa using hj)
        · cases j with
          | zero => simp at hj; subst hj; simp [hvs]
          | succ j =>
            obtain ⟨a1,a2⟩:=h3 j x (by simpa using hj)
            exact ⟨by omega,by simpa using a2⟩
      · cases h
    · cases h
theorem qxC {sz:Nat}:∀ (parts:List (Nat×Value)) (k:Nat) (cv:Array Value),(∀ (i:Nat) x,parts[i]? = some x→x.1 = k + i∧x.2.cells.size = sz)→(k + parts.length) * sz ≤ cv.size →
    ∃ ov,Instr.fill (fun i => some (i * sz,sz)) cv parts = some ov∧ov.size = cv.size∧(∀ (o:Nat),o < k * sz→ov[o]? = cv[o]?) ∧
      ∀ (i:Nat) x (j:Nat),parts[i]? = some x→j < sz→ov[(k + i) * sz + j]? = x.2.cells[j]?
  | [],k,cv,_,_ => ⟨cv,rfl,rfl,fun _ _ => rfl,by simp⟩
  | (i0,v) :: rest,k,cv,hp,hl => by
    obtain ⟨h1,h2⟩:=hp 0 (i0,v) rfl
    simp only [Nat.add_zero] at h1
    subst h1
    simp only [List.length_cons] at hl
    have hl':(i0 + 1 + rest.length) * sz ≤ cv.size:=by rw [show i0 + 1 + rest.length = i0 + (rest.length + 1) from by omega]; exact hl
    have hkk:(i0 + 1) * sz ≤ (i0 + 1 + rest.length) * sz:=Nat.mul_le_mul_right sz (by omega)
    rw [Nat.add_mul i0 1,Nat.one_mul] at hkk
    have hfold:∀ (l:List Value) (m:Nat) (cv:Array Value),i0 * sz + m + l.length ≤ cv.size →
        ((l.zipIdx m).foldl (fun cs (c,j) => cs.setIfInBounds (i0 * sz + j) c) cv).size = cv.size ∧
        ∀ o,((l.zipIdx m).foldl (fun cs (c,j) => cs.setIfInBounds (i0 * sz + j) c) cv)[o]? = if i0 * sz + m ≤ o∧o < i0 * sz + m + l.length then l[o - (i0 * sz + m)]? else cv[o]?:=by
      intro l
      induction l with
      | nil => intro m cv _; refine ⟨by simp,fun o => ?_⟩; rw [if_neg (by simp)]; simp
      | cons u l ih =>
        intro m cv hle
        simp only [List.length_cons] at hle
        simp only [List.zipIdx_cons,List.foldl_cons]
        obtain ⟨e1,e2⟩:=ih (m + 1) (cv.setIfInBounds (i0 * sz + m) u) (by simp; omega)
        refine ⟨by rw [e1]; simp,fun o => ?_⟩
        rw [e2 o]
        simp only [List.length_cons]
        by_cases c1:o = i0 * sz + m
        · subst c1
          rw [if_neg (by omega),if_pos (by omega)]
          have a4:i0 * sz + m < cv.size:=by omega
          simp [a4]
        · have hne:(cv.setIfInBounds (i0 * sz + m) u)[o]? = cv[o]?:=Array.getElem?_setIfInBounds_ne (fun e => c1 e.symm)
          rw [hne]
          by_cases c2:i0 * sz + (m + 1) ≤ o∧o < i0 * sz + (m + 1) + l.length
          · rw [if_pos c2,if_pos (by omega),show o - (i0 * sz + m) = (o - (i0 * sz + (m + 1))) + 1 from by omega]; simp
          · rw [if_neg c2,if_neg (by omega)]
    have hcl:v.cells.toList.length = sz:=by simpa using h2
    obtain ⟨f1,f2⟩:=hfold v.cells.toList 0 cv (by omega)
    have hconv:(v.cells.zipIdx.foldl (fun cs (c,j) => cs.setIfInBounds (i0 * sz + j) c) cv) = (v.cells.toList.zipIdx.foldl (fun cs (c,j) => cs.setIfInBounds (i0 * sz + j) c) cv):=by
      rw [← Array.foldl_toList]; simp only [Array.toList_zipIdx]
    rw [← hconv] at f1 f2
    obtain ⟨ov,r1,r2,r3,r4⟩:=qxC rest (i0 + 1) (v.cells.zipIdx.foldl (fun cs (c,j) => cs.setIfInBounds (i0 * sz + j) c) cv)
      (fun i x hx => by
        have:=hp (i + 1) x (by simpa using hx)
        exact ⟨by omega,this.2⟩) (by rw [f1]; exact hl')
    refine ⟨ov,?_,r2.trans f1,fun o ho => ?_,fun i x j hx hj => ?_⟩
    · have h2':v.cells.size = sz:=h2
      simp only [Instr.fill]
      rw [if_neg (by simp; omega)]
      exact r1
    · rw [r3 o (by rw [Nat.add_mul,Nat.one_mul]; omega),f2 o,if_neg (by omega)]
    · cases i with
      | zero =>
        simp at hx; subst hx
        rw [Nat.add_zero,r3 _ (by rw [Nat.add_mul,Nat.one_mul]; omega),f2,if_pos (by omega)]
        simp
      | succ i =>
        have:=r4 i x j (by simpa using hx) hj
        rwa [show i0 + 1 + i = i0 + (i + 1) from by omega] at this
theorem qnP (h:SR P E Γ bs ow w a st) {t:TypeId} {len:Nat} {parts:List (Nat×PVal)} {vs:List (Nat×Value)} {p:PVal} (hl:parts.length = vs.length)
    (hv:∀ (j:Nat) p v,parts[j]? = some p→vs[j]? = some v→p.1 = v.1∧VR Γ bs w p.2 v.2) (hp:qdp P t len parts = some p) :
    ∃ v w' Γ',(Instr.buildSlice t len vs.toArray).run P w = .ok v w'∧SR P E Γ' bs ow w' a st∧Γ.Le w Γ' w'∧VR Γ' bs w' p v ∧
      (∀ e,P.underlying t = some (.slice e)→qhY P Γ' w' v e)∧∀ b,v.ownBlock = some b→b = w.heap.size:=by
  unfold qdp at hp
  split at hp
  · rename_i e ht
    split at hp
    · rename_i es hes
      split at hp
      · rename_i hh
        obtain ⟨h1,h2,h3,h4,h5⟩:=hh
        cases hp
        obtain ⟨zs,hz⟩:=Option.isSome_iff_exists.1 h2
        obtain ⟨z,hr,rfl,i,hi,hz'⟩:=qio (w:=w) hz
        have hzsz:z.cells.size = P.cellsOf e:=by rw [hz] at h5; simpa using h5
        obtain ⟨g1,g2,g3⟩:=qxv parts 0 hes
        have hlen:parts.length = len:=by omega
        have hparts:∀ (i:Nat) x,vs[i]? = some x→x.1 = 0 + i∧x.2.cells.size = P.cellsOf e:=by
          intro i x hx
          have hi':i < parts.length:=by rw [hl]; exact qae hx
          obtain ⟨k1,k2⟩:=hv i _ x (List.getElem?_eq_getElem hi') hx
          obtain ⟨k3,k4⟩:=g3 i _ (List.getElem?_eq_getElem hi')
          have hei:i < es.length:=by omega
          rw [List.getElem?_eq_getElem hei] at k4
          have:=(VR.cells k2 k4).1
          rw [g2 i _ (List.getElem?_eq_getElem hei)] at this
          exact ⟨by rw [← k1]; exact k3,this⟩
        let c0:Array Value:=(Array.range (len * P.cellsOf e)).map (z.cells[· % z.cells.size]!)
        have hc0:c0.size = len * P.cellsOf e:=by simp [c0]
        obtain ⟨ov,r1,r2,r3,r4⟩:=qxC vs 0 c0 hparts (by rw [hc0,Nat.zero_add]; exact Nat.mul_le_mul_right _ (by omega))
        have hosz:ov.size = len * P.cellsOf e:=r2.trans hc0
        obtain ⟨hSR,hle⟩:=h.alloc_imm ov e ov.size (Nat.le_refl _)
        have hcell:∀ o,(w.alloc (.cells ov e)).cell? ⟨w.heap.size,o,none⟩ = ov[o]?:=fun o => cell_of_row _ _ o ov e _ (qeH w _)
        refine ⟨.slice (some ⟨w.heap.size,0,none⟩) len len,w.alloc (.cells ov e),_,?_,hSR,hle,?_,fun e' he' => ?_,fun b hb => by simp [Value.ownBlock] at hb; exact hb.symm⟩
        · have hne:¬ (len * P.cellsOf e > 16777216):=by omega
          by_cases hz0:len * P.cellsOf e = 0
          · have hlz:len = 0:=by
              rcases Nat.mul_eq_zero.1 hz0 with h0 | h0
              · exact h0
              · omega
            subst hlz
            have hc:c0 = #[]:=by apply Array.eq_empty_of_size_eq_zero; rw [hc0]; exact hz0
            rw [hc] at r1
            have hc':∀ f:Nat→Value,(Array.range (0 * P.cellsOf e)).map f = #[]:=fun f => by simp
            simp only [Instr.buildSlice,Sem.run_bind,run_underlying ht,Result.andThen_ok,run_sizeOf w hi]
            simp only [show (2:Nat) ^ 24 = 16777216 from rfl,if_neg hne,if_pos hz0,Sem.run_bind,Result.andThen_ok,Sem.run_pure,hc']
            rw [r1]
            simp [newRow]
          · simp only [Instr.buildSlice,Sem.run_bind,run_underlying ht,Result.andThen_ok,run_sizeOf w hi]
            simp only [show (2:Nat) ^ 24 = 16777216 from rfl,if_neg hne,if_neg hz0,Sem.run_bind,hr,Result.andThen_ok,Sem.run_pure]
            rw [show ((Array.range (len * P.cellsOf e)).map (z.cells[· % z.cells.size]!)) = c0 from rfl,r1]
            simp [newRow]
        · subst h1
          refine .slice es w.heap.size 0 es.length ov.size (P.cellsOf e) (fun i k => (vs.getD i (0,undef)).2.cells.getD k undef) (by omega) (Nat.le_refl _) (Γ.put_same _ _) (by rw [hosz]; omega) g2 (fun i x k q hx hq => ?_) (fun i x k q hx hq => ?_)
          all_goals
            have hil:i < vs.length:=by have:=qae hx; omega
            have hip:i < parts.length:=by omega
            have hvi:vs[i]? = some vs[i]:=List.getElem?_eq_getElem hil
            have hkl:k < P.cellsOf e:=by have:=qae hq; rw [g2 i x hx] at this; exact this
            have hks:k < (vs[i]).2.cells.size:=by rw [(hparts i _ hvi).2]; exact hkl
          · rw [hcell,Nat.zero_add]
            have:=r4 i _ k hvi hkl
            rw [Nat.zero_add] at this
            rw [this]
            simp [List.getD_eq_getElem?_getD,hil,Array.getD_eq_getD_getElem?,hks]
          · obtain ⟨k1,k2⟩:=hv i _ _ (List.getElem?_eq_getElem hip) hvi
            obtain ⟨k3,k4⟩:=g3 i _ (List.getElem?_eq_getElem hip)
            rw [hx] at k4
            have:=(VR.cells k2 k4).2 k q ((vs[i]).2.cells[k]) hq (by simp [hks])
            have hfin:=this.mono hle (.refl _)
            simpa [List.getD_eq_getElem?_getD,hil,Array.getD_eq_getD_getElem?,hks] using hfin
        · have:e' = e:=by rw [ht] at he'; cases he'; rfl
          subst this
          refine ⟨len,ov.toList,⟨by simp [hosz],.inr ⟨w.heap.size,len,ov,rfl,Nat.zero_le _,qeH w _,Nat.le_refl _,?_,hosz,by rw [← hosz,← Array.length_toList,List.take_length]⟩⟩,fun b hb => ?_⟩
          · have:len * 1 ≤ len * P.cellsOf e':=Nat.mul_le_mul_left _ h3
            unfold maxLen; omega
          · simp [Value.ownBlock] at hb
            subst hb
            rw [Γ.put_same,hosz]
      · cases hp
    · cases hp
  · cases hp
end
end Go.Proofs.YtgldgpdhblndkaaGreatDoor
