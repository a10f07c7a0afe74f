/- PROVED: a part of the proof. Conditions: none. -/
import Derived.Test.YtggeppllafbidaaGreatDoorPkB1
noncomputable section
namespace Go.Proofs.YtggeppllafbidaaGreatDoor
open Go
def CL(place:Nat->Option (Nat×Nat))(cells:List PVal):List (Nat×PVal)->Option (List PVal)
 |[]=>some cells
 |(i,v)::rest=>
  match place i,bZ v with
  |some (off,size),some vs=>if vs.length=size/\off+vs.length<=cells.length then CL place (cells.take off++vs++cells.drop (off+vs.length)) rest else none
  |_,_=>none
def dc(P:Program)(t:TypeId)(parts:List (Nat×PVal)):Option PVal:=
 match P.underlying t,gI P t with
 |some (.struct fs),some zs=>if fs.all (fun f=>(P.info? f.type).isSome)then(CL (fun i=>(fs[i]?).map fun f=>(f.offset,P.cellsOf f.type)) zs parts).map .agg else none
 |some (.array _ e),some zs=>if(P.info? e).isSome then(CL (fun i=>some (i * P.cellsOf e,P.cellsOf e)) zs parts).map .agg else none
 |_,_=>none
def tL(sz:Nat):Nat->List (Nat×PVal)->Option (List (List PVal))
 |_,[]=>some []
 |k,(i,v)::rest=>
  match bZ v,tL sz (k+1) rest with
  |some vs,some r=>if i=k/\vs.length=sz then some (vs::r)else none
  |_,_=>none
def dR(P:Program)(t:TypeId)(len:Nat)(parts:List (Nat×PVal)):Option PVal:=
 match P.underlying t with
 |some (.slice e)=>match tL (P.cellsOf e) 0 parts with
  |some es=>if es.length=len/\(gI P e).isSome/\0<P.cellsOf e/\len * P.cellsOf e<=16777216/\((gI P e).map (·.length))=some (P.cellsOf e)then some (.slice es)else none
  |none=>none
 |_=>none
def wV(P:Program)(t:TypeId)(x:PVal)(H:List aw):Option PVal:=
 match P.underlying t,x with
 |some .string,.str s=>some (.int .i64 s.length)
 |some (.slice _),.slice es=>some (.int .i64 es.length)
 |some (.slice _),.bsl _ _ n=>some (.int .i64 n)
 |some (.array n _),_=>some (.int .i64 n)
 |some (.map _ _),.mapr i=>match H[i]? with
  |some (.map es)=>some (.int .i64 es.length)
  |_=>none
 |_,_=>none
def Il:PVal->PVal->Option PVal
 |.int k x,.int _ y=>some (.int k (if y>x then y else x))
 |_,_=>none
def Im:PVal->PVal->Option PVal
 |.int k x,.int _ y=>some (.int k (if y<x then y else x))
 |_,_=>none
def Ay(f:PVal->PVal->Option PVal):PVal->List PVal->Option PVal
 |x,[]=>some x
 |x,y::r=>match f x y with
  |some z=>Ay f z r
  |none=>none
section
variable{P:Program}{E:ma}{Γ:aK}{bs:ba}{ow:Nat->Option iD}{w:World}{a:Array Value}{st:aq}
theorem jW{t:TypeId}{zs:List PVal}(h:gI P t=some zs):∃z,(zeroValue t).run P w=.ok z w/\zs=z.cells.toList.map absC/\(∃i,P.info? t=some i/\i.zero=some z):=by
 unfold gI at h
 simp only[vaA,va6]at h
 obtain⟨z,⟨i,hi,hz⟩,rfl⟩:=h
 exact⟨z,by simp[zeroValue,run_typeInfo w hi,hz],rfl,i,hi,hz⟩
theorem FD{z:Value}(j:Nat)(p:PVal)(v:Value)(hp:(z.cells.toList.map absC)[j]? =some p)(hv:z.cells[j]? =some v):VR Γ bs w p v:=by
 simp only[vat,vaJ,hv,vad,vao]at hp
 subst hp;exact .absC v
theorem Hw(h:SR P E Γ bs ow w a st){t:TypeId}{id:Nat}{zs:List PVal}(hid:bs[id]? =some none)(hz:gI P t=some zs):∃v w',(Instr.alloc t true (.tuple #[])).run P w=.ok v w'/\SR P E Γ (bs.set id (some w.heap.size)) ow w' a {st with boxes:=st.boxes.set id (.cells zs (GF P t))}/\
   VR Γ (bs.set id (some w.heap.size)) w' (.bptr id 0) v/\bs.Sub (bs.set id (some w.heap.size))/\Γ.Le w Γ w':=by
 obtain⟨z,hr,rfl,i,hi,hz⟩:=jW (w:=w) hz
 refine⟨.pointer (some ⟨w.heap.size,0,none⟩),w.alloc (.cells z.cells t),?_,?_,.bptr _ _ _ (vaf (aj hid)),fun i b hb=>ug hid hb,
  fun b m hb _=>⟨m,hb,vaq _,fun o' _=>bH (cK w _ (h.lt_of_ghost hb)) o'⟩⟩
 ·simp[Instr.alloc,hr,newVar,newRow]
 ·refine h.alloc_box hid _ _ (fun bs' _=>⟨z.cells,t,fw w _,by simp,fun j p v hp hv=>FD j p v hp hv⟩) fun cs own heq j e hj=>?_
  cases heq
  unfold GF at hj
  split at hj
  ·rename_i z' ts hz' hts
   have:z'=z:=by simp[hi,hz]at hz';exact hz'.symm
   subst this
   simp only[vbE,vbj]at hj
   obtain⟨j',hj',hj''⟩:=hj
   split at hj''
   ·rename_i v' e' hv' he'
    split at hj''
    ·rename_i hn
     cases hj''
     have:v'=.slice none 0 0:=by
      unfold ii at hn
      split at hn
      ·rfl
      ·cases hn
     subst this
     refine⟨_,?_,rfl,0,[],World.ownsRow_nil _ _ _ _,fun b hb=>by simp[Value.ownBlock]at hb⟩
     rw[cell_of_row _ _ _ _ t _ (fw w _)]
     exact hv'
    ·cases hj''
   ·cases hj''
  ·cases hj
theorem Km(h:SR P E Γ bs ow w a st){t:TypeId}{id:Nat}{x:PVal}{vx:Value}{cs:List PVal}(hid:bs[id]? =some none)(hx:VR Γ bs w x vx)(hc:bZ x=some cs):∃v w',(Instr.box t vx).run P w=.ok v w'/\SR P E Γ (bs.set id (some w.heap.size)) ow w' a {st with boxes:=st.boxes.set id (.cells cs [])}/\
   VR Γ (bs.set id (some w.heap.size)) w' (.bptr id 0) v/\bs.Sub (bs.set id (some w.heap.size))/\Γ.Le w Γ w':=by
 obtain⟨k1,k2⟩:=hx.cells hc
 have hle:∀o,Γ.Le w Γ (w.alloc o):=fun o b m hb _=>⟨m,hb,vaq _,fun o' _=>bH (cK w _ (h.lt_of_ghost hb)) o'⟩
 refine⟨.pointer (some ⟨w.heap.size,0,none⟩),w.alloc (.cells vx.cells t),?_,?_,.bptr _ _ _ (vaf (aj hid)),fun i b hb=>ug hid hb,hle _⟩
 ·simp[Instr.box,newVar,newRow]
 ·exact h.alloc_box hid _ _ (fun bs' hs=>⟨vx.cells,t,fw w _,Nat.le_of_eq k1.symm,fun j p v hp hv=>(k2 j p v hp hv).mono (hle _) hs⟩) fun cs own heq j e hj=>by
   cases heq;simp at hj
theorem Fr(h:SR P E Γ bs ow w a st){t:TypeId}{id:Nat}(hid:bs[id]? =some none):∃v w',(Instr.makeMap t none).run P w=.ok v w'/\SR P E Γ (bs.set id (some w.heap.size)) ow w' a {st with boxes:=st.boxes.set id (.map [])}/\
   VR Γ (bs.set id (some w.heap.size)) w' (.mapr id) v/\bs.Sub (bs.set id (some w.heap.size))/\Γ.Le w Γ w':=by
 have hle:∀o,Γ.Le w Γ (w.alloc o):=fun o b m hb _=>⟨m,hb,vaq _,fun o' _=>bH (cK w _ (h.lt_of_ghost hb)) o'⟩
 refine⟨.map (some w.heap.size),w.alloc (.map #[] 0),?_,?_,.mapr _ _ (vaf (aj hid)),fun i b hb=>ug hid hb,hle _⟩
 ·simp[Instr.makeMap]
 ·exact h.alloc_box hid _ _ (fun bs' hs=>⟨#[],0,fw w _,rfl,fun j k u x hp _=>by simp at hp⟩) fun cs own heq=>by cases heq
theorem uI{place place':Nat->Option (Nat×Nat)}(hpl:∀i x,place i=some x->place' i=some x):∀(parts:List (Nat×PVal)) (vs:List (Nat×Value)) (cells:List PVal) (cv:Array Value) {out:List PVal},
  parts.length=vs.length->(∀(j:Nat) p v,parts[j]? =some p->vs[j]? =some v->p.1=v.1/\VR Γ bs w p.2 v.2)->
  cv.size=cells.length->(∀(j:Nat) p v,cells[j]? =some p->cv[j]? =some v->VR Γ bs w p v)->CL place cells parts=some out->
  ∃ov,Instr.fill place' cv vs=some ov/\ov.size=out.length/\∀(j:Nat) p v,out[j]? =some p->ov[j]? =some v->VR Γ bs w p v
 |[],[],cells,cv,out,_,_,hs,hc,ho=>by
  simp only[CL,vao]at ho
  subst ho
  exact⟨cv,rfl,hs,hc⟩
 |[],_::_,_,_,_,hl,_,_,_,_=>by simp at hl
 |_::_,[],_,_,_,hl,_,_,_,_=>by simp at hl
 | (i,p) :: rest,(i',v) :: vs,cells,cv,out,hl,hv,hs,hc,ho => by
  obtain⟨rfl,hpv⟩:=hv 0 (i,p) (i',v) rfl rfl
  simp only[CL]at ho
  split at ho
  ·rename_i off size ps hpi hps
   split at ho
   ·rename_i hh
    obtain⟨h1,h2⟩:=hh
    obtain⟨k1,k2⟩:=VR.cells hpv hps
    replace k1:v.cells.size=ps.length:=k1
    have hfold:∀(l:List Value) (k:Nat) (cv:Array Value),off+k+l.length<=cv.size->
      ((l.zipIdx k).foldl (fun cs (c,j)=>cs.setIfInBounds (off+j) c) cv).toList=cv.toList.take (off+k)++l++cv.toList.drop (off+k+l.length):=by
     intro l
     induction l with
     |nil=>intro k cv _;simp
     | cons u l ih =>
      intro k cv hle
      simp only[List.zipIdx_cons,List.foldl_cons]
      simp only[vaS]at hle
      rw[ih (k+1) _ (by simp;omega)]
      apply va5
      intro j
      rw[show off+(k+1)=off+k+1 from by omega]
      have e1:=gj (cs:=(cv.setIfInBounds (off+k) u).toList) (vs:=l) (off:=off+k+1) (by simp;omega) j
      have e2:=gj (cs:=cv.toList) (vs:=u::l) (off:=off+k) (by simp;omega) j
      simp only[vaS]at e2 ⊢
      rw[e1,e2]
      simp only[Array.toList_setIfInBounds,vbu]
      by_cases c1:j<off+k
      ·rw[var (by omega),var c1,vav (by omega)]
      ·by_cases c2:j=off+k
       ·subst c2
        have a1:off+k<off+k+1:=by omega
        have a2:¬off+k<off+k:=by omega
        have a3:off+k<off+k+(l.length+1):=by omega
        have a4:off+k<cv.size:=by omega
        simp[a1,a3,a4]
       ·rw[vav (by omega),vav c1]
        by_cases c3:j<off+k+1+l.length
        ·rw[var c3,var (by omega),show j - (off+k)=(j - (off+k+1))+1 from by omega];simp
        ·rw[vav c3,vav (by omega),vav (by omega)]
    have hcl:v.cells.toList.length=ps.length:=by simpa using k1
    have hsize:(v.cells.zipIdx.foldl (fun cs (c,j)=>cs.setIfInBounds (off+j) c) cv).size=(cells.take off++ps++cells.drop (off+ps.length)).length:=by
     have:=hfold v.cells.toList 0 cv (by simp;omega)
     have h3:=vbe List.length this
     rw[<-vbY]
     simp only[vbT]
     simp only[Array.length_toList]at h3
     rw[h3]
     simp
     omega
    have hcell:∀(j:Nat) q u,(cells.take off++ps++cells.drop (off+ps.length))[j]? =some q->
      (v.cells.zipIdx.foldl (fun cs (c,j)=>cs.setIfInBounds (off+j) c) cv)[j]? =some u->VR Γ bs w q u:=by
     intro j q u hq hu
     have:=hfold v.cells.toList 0 cv (by simp;omega)
     rw[<-vbY]at hu
     simp only[vbT]at hu
     rw[<-vaJ,this]at hu
     simp only[Nat.add_zero]at hu
     rw[gj (by simp;omega)]at hu
     rw[gj h2]at hq
     simp only[hcl]at hu
     by_cases c1:j<off
     ·rw[var c1]at hq hu;exact hc j q u hq (by simpa using hu)
     ·rw[vav c1]at hq hu
      by_cases c2:j<off+ps.length
      ·rw[var c2]at hq hu;exact k2 _ q u hq (by simpa using hu)
      ·rw[vav c2]at hq hu;exact hc j q u hq (by simpa using hu)
    obtain⟨ov,r1,r2,r3⟩:=uI hpl rest vs _ _ (by simpa using hl) (fun j p v hp hv'=>hv (j+1) p v (by simpa using hp) (by simpa using hv')) hsize hcell ho
    refine⟨ov,?_,r2,r3⟩
    simp only[Instr.fill,hpl _ _ hpi]
    rw[vav (by simp;omega)]
    exact r1
   ·cases ho
  ·cases ho
end
def jy(kd:TypeDesc)(k:PVal):Bool:=match kd,k with|.string,.str _=>true|.int q,.int q' _=>decide (q=q')|_,_=>false
def zS(P:Program)(t:TypeId):Option PVal:=((P.info? t).bind (·.zero)).map absV
def Fq:PVal->PVal->Option Bool
 |.str a,.str b=>some (a==b)
 |.int k a,.int k' b=>if k=k' then some (a==b)else none
 |_,_=>none
def tM(k:PVal):List (PVal×PVal)->Nat->Option (Option (Nat×PVal))
 |[],_=>some none
 |(x,v)::r,i=>match Fq k x with
  |some true=>some (some (i,v))
  |some false=>tM k r (i+1)
  |none=>none
def oS(P:Program)(t:TypeId)(m k:PVal)(ok:Bool)(H:List aw):Option PVal:=
 match P.underlying t,m with
 | some (.map kt e),.mapr i => match H[i]?,P.underlying kt with
  | some (.map es),some kd =>
   if jy kd k then
    match tM k es 0,zS P e with
    |some (some (_,v)),_=>some (if ok then .tuple [v,.bool true]else v)
    |some none,some z=>some (if ok then .tuple [z,.bool false]else z)
    |_,_=>none
   else none
  |_,_=>none
 |_,_=>none
def eJ(P:Program)(t:TypeId)(m k v:PVal)(H:List aw):Option (List aw):=
 match P.underlying t,m with
 | some (.map kt _),.mapr i => match H[i]?,P.underlying kt with
  | some (.map es),some kd =>
   if jy kd k then
    match tM k es 0 with
    |some (some (j,_))=>some (H.set i (.map (es.set j (k,v))))
    |some none=>some (H.set i (.map (es++[(k,v)])))
    |none=>none
   else none
  |_,_=>none
 |_,_=>none
section
variable{P:Program}{E:ma}{Γ:aK}{bs:ba}{ow:Nat->Option iD}{w:World}{a:Array Value}{st:aq}
theorem rx{t:TypeId}{parts:List (Nat×PVal)}{vs:List (Nat×Value)}{p:PVal}(hl:parts.length=vs.length)
  (hv:∀(j:Nat) p v,parts[j]? =some p->vs[j]? =some v->p.1=v.1/\VR Γ bs w p.2 v.2) (h:dc P t parts=some p):
  ∃v,(Instr.build t vs.toArray).run P w=.ok v w/\VR Γ bs w p v:=by
 unfold dc at h
 split at h
 ·rename_i fs zs ht hz
  obtain⟨z,hr,rfl,i,hi,hz'⟩:=jW (w:=w) hz
  split at h
  ·rename_i hall
   simp only[vaA]at h
   obtain⟨out,ho,rfl⟩:=h
   have hplaces:∀(l:List Field),(∀f∈l,(P.info? f.type).isSome=true)->(l.mapM fun f=>do pure (f.offset,<-sizeOf f.type):Sem (List (Nat×Nat))).run P w=.ok (l.map fun f=>(f.offset,P.cellsOf f.type)) w:=by
    intro l hl
    induction l with
    |nil=>simp
    |cons f l ih=>
     obtain⟨inf,hinf⟩:=vaz.1 (hl f (by simp))
     have:=ih fun g hg=>hl g (by simp[hg])
     simp only[vbK,Sem.run_bind,run_sizeOf w hinf,Result.andThen_ok,this,Sem.run_pure,vaQ]
   have hp:(fs.mapM fun f=>do pure (f.offset,<-sizeOf f.type):Sem (Array (Nat×Nat))).run P w=.ok (fs.map fun f=>(f.offset,P.cellsOf f.type)) w:=by
    rw[vb1]
    simp only[Sem.run_map]
    rw[hplaces fs.toList fun f hf=>by
     have:=vbk.1 hall f (by simpa using hf)
     simpa using this]
    simp only[Result.andThen_ok]
    exact vbe (fun x=>Result.ok x w) (vbv (by simp))
   obtain⟨ov,r1,r2,r3⟩:=uI (place':=((fs.map fun f=>(f.offset,P.cellsOf f.type))[·]?)) (fun i x hx=>by simpa using hx) parts vs _ z.cells hl hv (by simp) (fun j p v hp hv=>FD j p v hp hv) ho
   refine⟨.agg ov,?_,.agg _ _ r2 r3⟩
   simp only[Instr.build,Sem.run_bind,hr,Result.andThen_ok,run_underlying ht,hp]
   rw[r1]
   simp
  ·cases h
 ·rename_i n e zs ht hz
  obtain⟨z,hr,rfl,i,hi,hz'⟩:=jW (w:=w) hz
  split at h
  ·rename_i hinf
   obtain⟨inf,hinf⟩:=vaz.1 hinf
   simp only[vaA]at h
   obtain⟨out,ho,rfl⟩:=h
   obtain⟨ov,r1,r2,r3⟩:=uI (fun i x hx=>hx) parts vs _ z.cells hl hv (by simp) (fun j p v hp hv=>FD j p v hp hv) ho
   refine⟨.agg ov,?_,.agg _ _ r2 r3⟩
   simp only[Instr.build,Sem.run_bind,hr,Result.andThen_ok,run_underlying ht,run_sizeOf w hinf]
   simp[r1]
  ·cases h
 ·cases h
theorem Kv(h:SR P E Γ bs ow w a st){t ty:TypeId}{x p:PVal}{vx:Value}(hx:VR Γ bs w x vx)(hp:wV P t x st.boxes=some p):∃v,(Builtin.len_ #[t] ty #[vx]).run P w=.ok v w/\VR Γ bs w p v:=by
 unfold wV at hp
 split at hp
 ·rename_i s ht
  cases hp;cases hx
  have hsz:(ByteArray.mk s.toArray).size=s.length:=by show s.toArray.size=_;simp
  exact⟨.int .i64 s.length,by simp[Builtin.len_,run_underlying ht,goInt,hsz],.int _ _⟩
 ·rename_i e es ht
  cases hp
  cases hx with
  |sliceNil=>exact⟨.int .i64 0,by simp[Builtin.len_,run_underlying ht,goInt],.int _ _⟩
  |sliceE a cap=>exact⟨.int .i64 0,by simp[Builtin.len_,run_underlying ht,goInt],.int _ _⟩
  |slice es b off cap n sz vals hz0 hcap hg hn hsz hc hv=>exact⟨.int .i64 es.length,by simp[Builtin.len_,run_underlying ht,goInt],.int _ _⟩
 ·rename_i e bx off n ht
  cases hp
  cases hx with
  |bsl _ _ _ x cap hcap hnil hxb=>exact⟨.int .i64 n,by simp[Builtin.len_,run_underlying ht,goInt],.int _ _⟩
 ·rename_i n e ht
  cases hp
  exact⟨.int .i64 n,by simp[Builtin.len_,run_underlying ht,goInt],.int _ _⟩
 ·rename_i k e i ht
  split at hp
  ·rename_i es hB
   cases hp
   cases hx with
   |mapr i b hi=>
    obtain⟨_,_,ents,clock,h1,h2,_⟩:=h.bx i b _ hi hB
    refine⟨.int .i64 es.length,?_,.int _ _⟩
    have hg:(getObj b).run P w=.ok (.map ents clock) w:=by simp[getObj,Sem.run,h1]
    simp[Builtin.len_,run_underlying ht,hg,goInt,h2]
  ·cases hp
 ·cases hp
theorem Jc{x y p:PVal}{vx vy:Value}(hx:VR Γ bs w x vx)(hy:VR Γ bs w y vy)(h:Il x y=some p):∃v,(Builtin.max2 vx vy).run P w=.ok v w/\VR Γ bs w p v:=by
 unfold Il at h
 split at h
 ·cases h;cases hx;cases hy
  exact⟨_,by simp[Builtin.max2],.int _ _⟩
 ·cases h
theorem Jd{x y p:PVal}{vx vy:Value}(hx:VR Γ bs w x vx)(hy:VR Γ bs w y vy)(h:Im x y=some p):∃v,(Builtin.min2 vx vy).run P w=.ok v w/\VR Γ bs w p v:=by
 unfold Im at h
 split at h
 ·cases h;cases hx;cases hy
  exact⟨_,by simp[Builtin.min2],.int _ _⟩
 ·cases h
theorem zK{f:PVal->PVal->Option PVal}{g:Value->Value->Sem Value}(hfg:∀{x y p:PVal} {vx vy:Value},VR Γ bs w x vx->VR Γ bs w y vy->f x y=some p->∃v,(g vx vy).run P w=.ok v w/\VR Γ bs w p v):∀(l:List PVal) (vs:List Value) (x:PVal) (vx:Value) {p:PVal},l.length=vs.length->VR Γ bs w x vx->(∀(j:Nat) p v,l[j]? =some p->vs[j]? =some v->VR Γ bs w p v)->Ay f x l=some p->
  ∃v,(vs.foldlM g vx).run P w=.ok v w/\VR Γ bs w p v
 |[],[],x,vx,p,_,hx,_,h=>by simp only[Ay,vao]at h;subst h;exact⟨vx,by simp,hx⟩
 |[],_::_,_,_,_,hl,_,_,_=>by simp at hl
 |_::_,[],_,_,_,hl,_,_,_=>by simp at hl
 | y :: l,vy :: vs,x,vx,p,hl,hx,hv,h => by
  simp only[Ay]at h
  split at h
  ·rename_i z hz
   obtain⟨vz,r1,r2⟩:=hfg hx (hv 0 y vy rfl rfl) hz
   obtain⟨v,r3,r4⟩:=zK hfg l vs z vz (by simpa using hl) r2 (fun j p v hp hv'=>hv (j+1) p v (by simpa using hp) (by simpa using hv')) h
   exact⟨v,by simp[r1,r3],r4⟩
  ·cases h
end
section
variable{P:Program}{E:ma}{Γ:aK}{bs:ba}{ow:Nat->Option iD}{w:World}{a:Array Value}{st:aq}
theorem CJ{sz:Nat}:∀(parts:List (Nat×PVal)) (k:Nat) {es:List (List PVal)},tL sz k parts=some es->
  es.length=parts.length/\(∀(i:Nat) e,es[i]? =some e->e.length=sz)/\∀(i:Nat) x,parts[i]? =some x->x.1=k+i/\bZ x.2=es[i]?
 |[],k,es,h=>by
  simp only[tL,vao]at h;subst h
  exact⟨rfl,by simp,by simp⟩
 | (i,v) :: rest,k,es,h => by
  simp only[tL]at h
  split at h
  ·rename_i vs r hvs hr
   split at h
   ·rename_i hh
    obtain⟨rfl,hsz⟩:=hh
    cases h
    obtain⟨h1,h2,h3⟩:=CJ rest (i+1) hr
    refine⟨by simp[h1],fun j e hj=>?_,fun j x hj=>?_⟩
    ·cases j with
     |zero=>simp at hj;subst hj;exact hsz
     |succ j=>exact h2 j e (by simpa using hj)
    ·cases j with
     |zero=>simp at hj;subst hj;simp[hvs]
     |succ j=>
      obtain⟨a1,a2⟩:=h3 j x (by simpa using hj)
      exact⟨by omega,by simpa using a2⟩
   ·cases h
  ·cases h
theorem Cg{sz:Nat}:∀(parts:List (Nat×Value)) (k:Nat) (cv:Array Value),(∀(i:Nat) x,parts[i]? =some x->x.1=k+i/\x.2.cells.size=sz)->(k+parts.length) * sz<=cv.size->
  ∃ov,Instr.fill (fun i=>some (i * sz,sz)) cv parts=some ov/\ov.size=cv.size/\(∀(o:Nat),o<k * sz->ov[o]? =cv[o]?)/\
   ∀(i:Nat) x (j:Nat),parts[i]? =some x->j<sz->ov[(k+i) * sz+j]? =x.2.cells[j]?
 |[],k,cv,_,_=>⟨cv,rfl,rfl,fun _ _=>rfl,by simp⟩
 | (i0,v) :: rest,k,cv,hp,hl => by
  obtain⟨h1,h2⟩:=hp 0 (i0,v) rfl
  simp only[Nat.add_zero]at h1
  subst h1
  simp only[vaS]at hl
  have hl':(i0+1+rest.length) * sz<=cv.size:=by rw[show i0+1+rest.length=i0+(rest.length+1)from by omega];exact hl
  have hkk:(i0+1) * sz<=(i0+1+rest.length) * sz:=vaG sz (by omega)
  rw[vaN i0 1,vbi]at hkk
  have hfold:∀(l:List Value) (m:Nat) (cv:Array Value),i0 * sz+m+l.length<=cv.size->
    ((l.zipIdx m).foldl (fun cs (c,j)=>cs.setIfInBounds (i0 * sz+j) c) cv).size=cv.size/\
    ∀o,((l.zipIdx m).foldl (fun cs (c,j)=>cs.setIfInBounds (i0 * sz+j) c) cv)[o]? =if i0 * sz+m<=o/\o<i0 * sz+m+l.length then l[o - (i0 * sz+m)]? else cv[o]?:=by
   intro l
   induction l with
   |nil=>intro m cv _;refine⟨by simp,fun o=>?_⟩;rw[vav (by simp)];simp
   | cons u l ih =>
    intro m cv hle
    simp only[vaS]at hle
    simp only[List.zipIdx_cons,List.foldl_cons]
    obtain⟨e1,e2⟩:=ih (m+1) (cv.setIfInBounds (i0 * sz+m) u) (by simp;omega)
    refine⟨by rw[e1];simp,fun o=>?_⟩
    rw[e2 o]
    simp only[vaS]
    by_cases c1:o=i0 * sz+m
    ·subst c1
     rw[vav (by omega),var (by omega)]
     have a4:i0 * sz+m<cv.size:=by omega
     simp[a4]
    ·have hne:(cv.setIfInBounds (i0 * sz+m) u)[o]? =cv[o]?:=vaF (fun e=>c1 e.symm)
     rw[hne]
     by_cases c2:i0 * sz+(m+1)<=o/\o<i0 * sz+(m+1)+l.length
     ·rw[var c2,var (by omega),show o - (i0 * sz+m)=(o - (i0 * sz+(m+1)))+1 from by omega];simp
     ·rw[vav c2,vav (by omega)]
  have hcl:v.cells.toList.length=sz:=by simpa using h2
  obtain⟨f1,f2⟩:=hfold v.cells.toList 0 cv (by omega)
  have hconv:(v.cells.zipIdx.foldl (fun cs (c,j)=>cs.setIfInBounds (i0 * sz+j) c) cv)=(v.cells.toList.zipIdx.foldl (fun cs (c,j)=>cs.setIfInBounds (i0 * sz+j) c) cv):=by
   rw[<-vbY];simp only[vbT]
  rw[<-hconv]at f1 f2
  obtain⟨ov,r1,r2,r3,r4⟩:=Cg rest (i0+1) (v.cells.zipIdx.foldl (fun cs (c,j)=>cs.setIfInBounds (i0 * sz+j) c) cv)
   (fun i x hx=>by
    have:=hp (i+1) x (by simpa using hx)
    exact⟨by omega,this.2⟩) (by rw[f1];exact hl')
  refine⟨ov,?_,r2.trans f1,fun o ho=>?_,fun i x j hx hj=>?_⟩
  ·have h2':v.cells.size=sz:=h2
   simp only[Instr.fill]
   rw[vav (by simp;omega)]
   exact r1
  ·rw[r3 o (by rw[vaN,vbi];omega),f2 o,vav (by omega)]
  ·cases i with
   |zero=>
    simp at hx;subst hx
    rw[Nat.add_zero,r3 _ (by rw[vaN,vbi];omega),f2,var (by omega)]
    simp
   |succ i=>
    have:=r4 i x j (by simpa using hx) hj
    rwa[show i0+1+i=i0+(i+1)from by omega]at this
theorem rY (h:SR P E Γ bs ow w a st) {t:TypeId} {len:Nat} {parts:List (Nat×PVal)} {vs:List (Nat×Value)} {p:PVal} (hl:parts.length = vs.length)
    (hv:∀(j:Nat) p v,parts[j]? =some p->vs[j]? =some v->p.1=v.1/\VR Γ bs w p.2 v.2) (hp:dR P t len parts=some p):
    ∃ v w' Γ',(Instr.buildSlice t len vs.toArray).run P w = .ok v w'∧SR P E Γ' bs ow w' a st∧Γ.Le w Γ' w'∧VR Γ' bs w' p v ∧
      (∀e,P.underlying t=some (.slice e)->fA P Γ' w' v e)/\∀b,v.ownBlock=some b->b=w.heap.size:=by
  unfold dR at hp
  split at hp
  · rename_i e ht
    split at hp
    · rename_i es hes
      split at hp
      · rename_i hh
        obtain⟨h1,h2,h3,h4,h5⟩:=hh
        cases hp
        obtain⟨zs,hz⟩:=vaz.1 h2
        obtain⟨z,hr,rfl,i,hi,hz'⟩:=jW (w:=w) hz
        have hzsz:z.cells.size=P.cellsOf e:=by rw[hz]at h5;simpa using h5
        obtain⟨g1,g2,g3⟩:=CJ parts 0 hes
        have hlen:parts.length=len:=by omega
        have hparts:∀(i:Nat) x,vs[i]? =some x->x.1=0+i/\x.2.cells.size=P.cellsOf e:=by
          intro i x hx
          have hi':i<parts.length:=by rw[hl];exact aj hx
          obtain⟨k1,k2⟩:=hv i _ x (vaa hi') hx
          obtain⟨k3,k4⟩:=g3 i _ (vaa hi')
          have hei:i<es.length:=by omega
          rw[vaa hei]at k4
          have:=(VR.cells k2 k4).1
          rw[g2 i _ (vaa hei)]at this
          exact⟨by rw[<-k1];exact k3,this⟩
        let c0:Array Value:=(Array.range (len * P.cellsOf e)).map (z.cells[·% z.cells.size]!)
        have hc0:c0.size=len * P.cellsOf e:=by simp[c0]
        obtain⟨ov,r1,r2,r3,r4⟩:=Cg vs 0 c0 hparts (by rw[hc0,vaB];exact vaG _ (by omega))
        have hosz:ov.size=len * P.cellsOf e:=r2.trans hc0
        obtain⟨hSR,hle⟩:=h.alloc_imm ov e ov.size (vaq _)
        have hcell:∀o,(w.alloc (.cells ov e)).cell? ⟨w.heap.size,o,none⟩=ov[o]?:=fun o=>cell_of_row _ _ o ov e _ (fw w _)
        refine⟨.slice (some ⟨w.heap.size,0,none⟩) len len,w.alloc (.cells ov e),_,?_,hSR,hle,?_,fun e' he'=>?_,fun b hb=>by simp[Value.ownBlock]at hb;exact hb.symm⟩
        · have hne:¬ (len * P.cellsOf e > 16777216):=by omega
          by_cases hz0:len * P.cellsOf e=0
          · have hlz:len = 0:=by
              rcases Nat.mul_eq_zero.1 hz0 with h0|h0
              ·exact h0
              ·omega
            subst hlz
            have hc:c0=#[]:=by apply vaO;rw[hc0];exact hz0
            rw[hc]at r1
            have hc':∀f:Nat->Value,(Array.range (0 * P.cellsOf e)).map f=#[]:=fun f=>by simp
            simp only[Instr.buildSlice,Sem.run_bind,run_underlying ht,Result.andThen_ok,run_sizeOf w hi]
            simp only[show(2:Nat) ^ 24=16777216 from rfl,vav hne,var hz0,Sem.run_bind,Result.andThen_ok,Sem.run_pure,hc']
            rw[r1]
            simp[newRow]
          · simp only [Instr.buildSlice,Sem.run_bind,run_underlying ht,Result.andThen_ok,run_sizeOf w hi]
            simp only[show(2:Nat) ^ 24=16777216 from rfl,vav hne,vav hz0,Sem.run_bind,hr,Result.andThen_ok,Sem.run_pure]
            rw[show((Array.range (len * P.cellsOf e)).map (z.cells[·% z.cells.size]!))=c0 from rfl,r1]
            simp[newRow]
        · subst h1
          refine .slice es w.heap.size 0 es.length ov.size (P.cellsOf e) (fun i k=>(vs.getD i (0,undef)).2.cells.getD k undef) (by omega) (vaq _) (Γ.put_same _ _) (by rw[hosz];omega) g2 (fun i x k q hx hq=>?_) (fun i x k q hx hq=>?_)
          all_goals
            have hil:i<vs.length:=by have:=aj hx;omega
            have hip:i<parts.length:=by omega
            have hvi:vs[i]? =some vs[i]:=vaa hil
            have hkl:k<P.cellsOf e:=by have:=aj hq;rw[g2 i x hx]at this;exact this
            have hks:k<(vs[i]).2.cells.size:=by rw[(hparts i _ hvi).2];exact hkl
          · rw [hcell,vaB]
            have:=r4 i _ k hvi hkl
            rw[vaB]at this
            rw[this]
            simp[vag,hil,vas,hks]
          · obtain ⟨k1,k2⟩:=hv i _ _ (vaa hip) hvi
            obtain⟨k3,k4⟩:=g3 i _ (vaa hip)
            rw[hx]at k4
            have:=(VR.cells k2 k4).2 k q ((vs[i]).2.cells[k]) hq (by simp[hks])
            have hfin:=this.mono hle (.refl _)
            simpa[vag,hil,vas,hks]using hfin
        · have:e' = e:=by rw [ht] at he'; cases he'; rfl
          subst this
          refine⟨len,ov.toList,⟨by simp[hosz],.inr ⟨w.heap.size,len,ov,rfl,vaL _,fw w _,vaq _,?_,hosz,by rw[<-hosz,<-Array.length_toList,vbQ]⟩⟩,fun b hb=>?_⟩
          · have:len * 1 ≤ len * P.cellsOf e':=vbB _ h3
            unfold maxLen;omega
          · simp [Value.ownBlock] at hb
            subst hb
            rw[Γ.put_same,hosz]
      ·cases hp
    ·cases hp
  ·cases hp
end
def di:Nat:=1073741824
def iz(P:Program)(t:TypeId)(es ns:List (List PVal)):Option PVal:=
 match P.underlying t with
 |some (.slice e)=>if es.length+ns.length<=di/\P.bytesOf e<=65536/\0<P.cellsOf e/\(gI P e).map (·.length)=some (P.cellsOf e)/\(∀x∈es,x.length=P.cellsOf e)/\(∀x∈ns,x.length=P.cellsOf e/\∀q∈x,q.one=true)then some (.slice (es++ns))else none
 |_=>none
section
variable{P:Program}{E:ma}{Γ:aK}{bs:ba}{ow:Nat->Option iD}{w:World}{a:Array Value}{st:aq}
theorem xE{t ty e:TypeId}{i:TypeInfo}{z:Value}{size:Nat}(ht:P.underlying t=some (.slice e))(hi:P.info? e=some i)(hz:i.zero=some z)
    (hsize:i.size=size) (hzs:z.cells.size=size) (hsz:0<size) {v:Value} {n:Nat} {xs:List Value} (hown:w.ownsRow 0 e size v n xs)
    {x:Value} {m:Nat} {news:List Value} (hx:(x=.slice none 0 0/\m=0)\/∃a c,x=.slice (some a) m c/\∀(j:Nat) u,news[j]? =some u->w.cell? (a.add j)=some u)
    (hl:news.length=m * size) (h1:∀u∈news,u.oneCell'=true) (h63:n+m<=maxLen) (hbytes:(n+m) * i.bytes<=140737488355328):
    ∃ v' w',(Builtin.append_ #[t,t] ty #[v,x]).run P w = .ok v' w' ∧
      ((v'=v/\w'=w/\m=0)\/
       (∃ g cap cur,v = .slice (some ⟨g,0,none⟩) n cap∧w.heap[g]? = some (.cells cur e (0,0))∧cur.size = cap * size∧cap ≤ maxLen∧cur.toList.take (n * size) = xs∧n + m ≤ cap ∧
          v'=.slice (some ⟨g,0,none⟩) (n+m) cap/\w'=w.setRow g (cur.toList.take (n * size)++news++cur.toList.drop (n * size+news.length)).toArray)\/
       (∃cap rest,n+m<=cap/\cap<=maxLen/\rest.length=(cap - (n+m)) * size/\v'=.slice (some ⟨w.heap.size,0,none⟩) (n+m) cap/\w'=w.drew.alloc (.cells (xs++news++rest).toArray e))):=by
  subst hsize
  have hsmall:n+m<=9223372036854775807:=by simp only[maxLen]at h63;omega
  rcases hx with⟨rfl,rfl⟩|⟨a,c,rfl,hnews⟩
  · refine ⟨v,w,?_,.inl ⟨rfl,rfl,rfl⟩⟩
    rcases hown.2 with⟨rfl,rfl⟩|⟨g,cap,cur,rfl,_,hg,hnc,hcm,hcs,htake⟩
    ·simp[Builtin.append_,run_underlying ht,sizeOf,typeInfo,hi,Builtin.lenOf,Builtin.firstCells]
    ·simp[Builtin.append_,run_underlying ht,sizeOf,typeInfo,hi,Builtin.lenOf,Builtin.firstCells,hnc,storeCells]
  · have hgrow:∀ old,n + m ≤ grownCap w (n + m) old e∧grownCap w (n + m) old e ≤ maxLen∧(Builtin.zeroCells z.cells (grownCap w (n + m) old e - (n + m))).toList.length = (grownCap w (n + m) old e - (n + m)) * i.size:=fun old =>
      ⟨grownCap_ge w (n+m) old e,grownCap_le_maxLen w (n+m) old e h63,by simp[size_zeroCells,hzs]⟩
    rcases hown.2 with⟨rfl,rfl⟩|⟨g,cap,cur,rfl,_,hg,hnc,hcm,hcs,htake⟩
    · have hxs:xs = []:=vai (by simpa using hown.1)
      subst hxs
      by_cases hm:m=0
      · subst hm
        have hn:news=[]:=vai (by simpa using hl)
        subst hn
        refine⟨.slice none 0 0,w,?_,.inl ⟨rfl,rfl,rfl⟩⟩
        simp[Builtin.append_,run_underlying ht,sizeOf,typeInfo,hi,Builtin.lenOf,Builtin.firstCells,loadCells,loadCellsFrom]
      · have hr:=run_append_nil (P:=P) w t ty e i z ht hi hz a m c news hl hnews (by omega) (by omega) (by rw [vaB] at hbytes; omega)
        obtain⟨g1,g2,g3⟩:=hgrow 0
        rw[vaB]at g1 g2 g3
        refine⟨_,_,hr,.inr (.inr ⟨_,(Builtin.zeroCells z.cells (grownCap w m 0 e - m)).toList,by rw[vaB];exact g1,g2,by rw[vaB];exact g3,by rw[vaB],?_⟩)⟩
        congr 2
        apply vbv;simp
    · by_cases hroom:n + m ≤ cap
      · have hfit:n * i.size + news.length ≤ cur.size:=by rw [hl,hcs,← vaN]; exact vaG _ hroom
        have hr:=run_append_room (P:=P) w t ty e i ht hi g n cap cur hg a m c news hl hnews h1 hroom hfit
        exact⟨_,_,hr,.inr (.inl ⟨g,cap,cur,rfl,hg,hcs,hcm,htake,hroom,rfl,rfl⟩)⟩
      · have holds:∀ (j:Nat) u,xs[j]? = some u→w.cell? ((⟨g,0,none⟩:Addr).add j) = some u:=hown.cells (g:=g) rfl
        have hr:=run_append_grow (P:=P) w t ty e i z ht hi hz ⟨g,0,none⟩ n cap xs hown.1 holds a m c news hl hnews (by omega) (by omega) (growslice_fits (by omega) hbytes)
        obtain⟨g1,g2,g3⟩:=hgrow cap
        refine⟨_,_,hr,.inr (.inr ⟨_,(Builtin.zeroCells z.cells (grownCap w (n+m) cap e - (n+m))).toList,g1,g2,g3,rfl,?_⟩)⟩
        congr 2
        apply vbv;simp
theorem zu{sz q:Nat}(h:0<sz):q=q / sz * sz+q % sz/\q % sz<sz:=⟨by rw[vce];exact(Nat.div_add_mod q sz).symm,Nat.mod_lt _ h⟩
theorem rQ{es:List (List PVal)}{b cap N size:Nat}{cur:Array Value}{e:TypeId}{fr:Nat×Nat}(hb:w.heap[b]? =some (.cells cur e fr))(hg:Γ b=some N)(hN:es.length * size<=N)(hs0:0<size)(hcap:es.length<=cap)
  (hsz:∀(i:Nat) x,es[i]? =some x->x.length=size)
  (hc:∀(i:Nat) x (k:Nat) q,es[i]? =some x->x[k]? =some q->∃u,cur[i * size+k]? =some u/\VR Γ bs w q u):
  VR Γ bs w (.slice es) (.slice (some ⟨b,0,none⟩) es.length cap):=by
 refine .slice es b 0 cap N size (fun i k=>cur.getD (i * size+k) undef) hs0 hcap hg (by omega) hsz (fun i x k q hx hq=>?_) (fun i x k q hx hq=>?_)
 all_goals
  obtain⟨u,h1,h2⟩:=hc i x k q hx hq
  have hu:cur.getD (i * size+k) undef=u:=by rw[vas,h1];rfl
  rw[hu]
 ·rw[vaB,cell_of_row w b _ cur e fr hb,h1]
 ·exact h2
theorem Gq(h:SR P E Γ bs ow w a st){t ty e:TypeId}{es ns:List (List PVal)}{p:PVal}{v x:Value}(ht:P.underlying t=some (.slice e))(hv:VR Γ bs w (.slice es) v)(hx:VR Γ bs w (.slice ns) x)
  (ho:fA P Γ w v e) (hfree:∀b,v.ownBlock=some b->ow b=none/\(E.T b\/E.w.heap.size<=b)) (hp:iz P t es ns=some p):
  ∃v' w' Γ',(Builtin.append_ #[t,t] ty #[v,x]).run P w=.ok v' w'/\SR P E Γ' bs ow w' a st/\Γ.Le w Γ' w'/\VR Γ' bs w' p v'/\fA P Γ' w' v' e/\
   ∀b,v'.ownBlock=some b->ow b=none/\(E.T b\/E.w.heap.size<=b):=by
 unfold iz at hp
 rw[ht]at hp
 simp only at hp
 split at hp
 case isFalse=>cases hp
 rename_i hh
 obtain⟨hlen,hby,hsz0,hzl,hes1,hns1⟩:=hh
 cases hp
 have hz:∃zs,gI P e=some zs/\zs.length=P.cellsOf e:=by simpa using hzl
 obtain⟨zs,hz,hzl⟩:=hz
 obtain⟨z,hr,rfl,i,hi,hz'⟩:=jW (w:=w) hz
 have hisz:i.size=P.cellsOf e:=by simp[Program.cellsOf,hi]
 have hiby:i.bytes=P.bytesOf e:=by simp[Program.bytesOf,hi]
 obtain⟨n,xs,hown,hgh⟩:=ho
 have hxsl:xs.length=n * P.cellsOf e:=hown.1
 have hesz:∀(i:Nat) x,es[i]? =some x->x.length=P.cellsOf e:=fun i x hx=>hes1 x (vaw hx)
 have hnsz:∀(i:Nat) x,ns[i]? =some x->x.length=P.cellsOf e:=fun i x hx=>(hns1 x (vaw hx)).1
 have hes:es.length=n/\∀(i:Nat) x (k:Nat) q,es[i]? =some x->x[k]? =some q->∃u,xs[i * P.cellsOf e+k]? =some u/\VR Γ bs w q u:=by
  rcases hown.2 with⟨rfl,rfl⟩|⟨g,cap,cur,rfl,_,hg,hnc,hcm,hcs,htake⟩
  ·cases hv
   exact⟨rfl,by simp⟩
  ·cases hv with
   |sliceE a cap=>exact⟨rfl,by simp⟩
   | slice es b off cap n' sz vals hz0 hcap hgg hn hsz hc hvv =>
    refine⟨rfl,fun i x k q hx hq=>⟨vals i k,?_,hvv i x k q hx hq⟩⟩
    have hsz':sz=P.cellsOf e:=by rw[<-hsz i x hx];exact hesz i x hx
    subst hsz'
    have hcell:=hc i x k q hx hq
    rw[vaB,cell_of_row w g _ cur e _ hg]at hcell
    rw[<-htake,vak]
    ·simpa using hcell
    ·have:=Fe (aj hx) (show k<P.cellsOf e by have:=aj hq;rw[hesz i x hx]at this;exact this)
     exact this
 have hnew:∃news:List Value,((x=.slice none 0 0/\ns.length=0)\/∃a c,x=.slice (some a) ns.length c/\∀(j:Nat) u,news[j]? =some u->w.cell? (a.add j)=some u)/\
   news.length=ns.length * P.cellsOf e/\(∀u∈news,u.oneCell'=true)/\
   ∀(i:Nat) x (k:Nat) q,ns[i]? =some x->x[k]? =some q->∃u,news[i * P.cellsOf e+k]? =some u/\VR Γ bs w q u:=by
  cases hx with
  |sliceNil=>exact⟨[],.inl ⟨rfl,rfl⟩,by simp,by simp,by simp⟩
  |sliceE a cap=>exact⟨[],.inr ⟨a,cap,rfl,by simp⟩,by simp,by simp,by simp⟩
  | slice ns b off cap n' sz vals hz0 hcap hgg hn hsz hc hvv =>
   have hcell:∀(i:Nat) x (k:Nat) q,ns[i]? =some x->x[k]? =some q->w.cell? ⟨b,off+(i * P.cellsOf e+k),none⟩=some (vals i k):=by
    intro i x k q hx hq
    have hsz':sz=P.cellsOf e:=by rw[<-hsz i x hx];exact hnsz i x hx
    subst hsz'
    rw[<-vbR];exact hc i x k q hx hq
   have hpos:∀o,o<ns.length * P.cellsOf e->∃x q,ns[o / P.cellsOf e]? =some x/\x[o % P.cellsOf e]? =some q/\o=o / P.cellsOf e * P.cellsOf e+o % P.cellsOf e:=by
    intro o ho
    obtain⟨m1,m2⟩:=zu (q:=o) hsz0
    have hlt:o / P.cellsOf e<ns.length:=(vcf hsz0).2 ho
    have hxl:=hnsz _ _ (vaa hlt)
    exact⟨_,_,vaa hlt,vaa (by rw[hxl];exact m2),m1⟩
   refine⟨(List.range (ns.length * P.cellsOf e)).map fun o=>vals (o / P.cellsOf e) (o % P.cellsOf e),.inr ⟨⟨b,off,none⟩,cap,rfl,fun j u hu=>?_⟩,by simp,fun u hu=>?_,fun i x k q hx hq=>⟨vals i k,?_,hvv i x k q hx hq⟩⟩
   ·rw[vat]at hu
    have hj:j<ns.length * P.cellsOf e:=by
     by_cases hj:j<ns.length * P.cellsOf e
     ·exact hj
     ·rw[vax (by simp;omega)]at hu;cases hu
    rw[vbg hj]at hu
    simp only[vad,vao]at hu
    subst hu
    obtain⟨x,q,k1,k2,k3⟩:=hpos j hj
    have:=hcell _ _ _ _ k1 k2
    rw[<-k3]at this
    rw[Addr.add_lit];exact this
   ·simp only[van,vbj]at hu
    obtain⟨o,ho,rfl⟩:=hu
    obtain⟨x,q,k1,k2,k3⟩:=hpos o ho
    exact VR.one (hvv _ _ _ _ k1 k2) ((hns1 x (vaw k1)).2 q (vaw k2))
   ·have hk:k<P.cellsOf e:=by have:=aj hq;rw[hnsz i x hx]at this;exact this
    have hlt:=Fe (aj hx) hk
    rw[vat,vbg hlt]
    simp only[vad,vao]
    rw[vce i,Nat.mul_add_div hsz0,vb9 hk,Nat.mul_add_mod,vca hk,Nat.add_zero]
 obtain⟨hesn,hesv⟩:=hes
 obtain⟨news,hnx,hnl,hn1,hnv⟩:=hnew
 have happ:(n+ns.length) * P.cellsOf e=n * P.cellsOf e+ns.length * P.cellsOf e:=vaN _ _ _
 have fin:∀{Γ':aK} {w':World} {b cap:Nat} {cur:Array Value} {fr:Nat×Nat},w'.heap[b]? =some (.cells cur e fr)->Γ' b=some ((n+ns.length) * P.cellsOf e)->n+ns.length<=cap->
   cur.toList.take ((n+ns.length) * P.cellsOf e)=xs++news->Γ.Le w Γ' w'->VR Γ' bs w' (.slice (es++ns)) (.slice (some ⟨b,0,none⟩) (n+ns.length) cap):=by
  intro Γ' w' b cap cur fr hb hg hcap htk hle
  have hl:(es++ns).length=n+ns.length:=by rw[vaY,hesn]
  rw[<-hl]
  have hget:∀(o:Nat) u,(xs++news)[o]? =some u->cur[o]? =some u:=by
   intro o u hu
   rw[<-htk]at hu
   have ho:o<(n+ns.length) * P.cellsOf e:=by have:=aj hu;simp at this;omega
   rw[vak ho]at hu
   simpa using hu
  refine rQ hb hg (by rw[hl];exact vaq _) hsz0 (by omega) (fun i x hx=>?_) (fun i x k q hx hq=>?_)
  ·rcases vaR.1 (vaw hx)with hm|hm
   ·exact hes1 x hm
   ·exact(hns1 x hm).1
  ·by_cases hi:i<es.length
   ·rw[vac hi]at hx
    obtain⟨u,k1,k2⟩:=hesv i x k q hx hq
    refine⟨u,hget _ _ ?_,k2.mono hle (.refl _)⟩
    rw[vac (aj k1)];exact k1
   ·rw[vae (by omega)]at hx
    obtain⟨u,k1,k2⟩:=hnv _ x k q hx hq
    refine⟨u,hget _ _ ?_,k2.mono hle (.refl _)⟩
    have:i * P.cellsOf e+k=n * P.cellsOf e+((i - es.length) * P.cellsOf e+k):=by
     rw[<-vbR,<-vaN];congr 2;omega
    rw[vae (by omega),show i * P.cellsOf e+k - xs.length=(i - es.length) * P.cellsOf e+k from by omega]
    exact k1
 have hmax:n+ns.length<=maxLen:=by unfold maxLen;unfold di at hlen;omega
 have hbytes:(n+ns.length) * i.bytes<=140737488355328:=by
  rw[hiby]
  have:(n+ns.length) * P.bytesOf e<=1073741824 * 65536:=vbL (by unfold di at hlen;omega) hby
  omega
 obtain⟨v',w',hrun,hcase⟩:=xE (ty:=ty) ht hi hz' hisz (by simpa using hzl) hsz0 hown hnx hnl hn1 hmax hbytes
 rcases hcase with⟨rfl,rfl,hm0⟩|⟨g,cap,cur,rfl,hg,hcs,hcm,htake,hroom,rfl,rfl⟩|⟨cap,rest,g1,g2,g3,rfl,rfl⟩
 ·have hns0:ns=[]:=vai hm0
  subst hns0
  exact⟨v',w',Γ,hrun,h,.refl _ _,by simpa using hv,⟨n,xs,hown,hgh⟩,hfree⟩
 ·
  have hgn:Γ g=some (n * P.cellsOf e):=hgh g rfl
  have hfit:n * P.cellsOf e+news.length<=cur.toList.length:=by
   have hcl:cur.toList.length=cur.size:=by simp
   rw[hcl,hcs,hnl,<-vaN];exact vaG _ hroom
  have hheap:=pl w g cur (cur.toList.take (n * P.cellsOf e)++news++cur.toList.drop (n * P.cellsOf e+news.length)).toArray e (0,0) hg
  have hsame:∀o,o<n * P.cellsOf e->(w.setRow g (cur.toList.take (n * P.cellsOf e)++news++cur.toList.drop (n * P.cellsOf e+news.length)).toArray).cell? ⟨g,o,none⟩=w.cell? ⟨g,o,none⟩:=by
   intro o ho
   rw[cell_of_row _ g o _ e _ hheap,cell_of_row w g o cur e _ hg]
   simp only[vbc]
   rw[gj hfit,var ho]
   simp
  have hle:Γ.Le w (Γ.put g ((n+ns.length) * P.cellsOf e)) (w.setRow g (cur.toList.take (n * P.cellsOf e)++news++cur.toList.drop (n * P.cellsOf e+news.length)).toArray):=by
   intro b m hb _
   by_cases hbg:b=g
   ·subst hbg
    rw[hgn]at hb;cases hb
    exact⟨_,Γ.put_same _ _,by omega,hsame⟩
   ·exact⟨m,(Γ.put_other hbg).trans hb,vaq _,fun o _=>bH (setRow_other w g b _ hbg) o⟩
  have hsz1:((cur.toList.take (n * P.cellsOf e)++news++cur.toList.drop (n * P.cellsOf e+news.length)).toArray).size=cur.size:=by
   simp only[vbH,vaY,vbf,vbz,Array.length_toList]at hfit ⊢;omega
  have htk:((cur.toList.take (n * P.cellsOf e)++news++cur.toList.drop (n * P.cellsOf e+news.length)).toArray).toList.take ((n+ns.length) * P.cellsOf e)=xs++news:=by
   rw[htake,happ,<-hnl,<-hxsl,<-vaY]
   exact vb2
  have hSR:=h.world (fun b=>b=g) hle (fun b m hb=>?_) rfl rfl rfl (by simp) (fun b _ hbg=>⟨setRow_other w g b _ hbg,Γ.put_other hbg⟩) (fun b hb=>by subst hb;exact(hfree b rfl).2)
   (fun i b hb hbg=>?_) (fun b L hL hbg=>by subst hbg;rw[(hfree b rfl).1]at hL;cases hL)
  ·refine⟨_,_,_,hrun,hSR,hle,fin hheap (Γ.put_same _ _) hroom htk hle,⟨n+ns.length,xs++news,⟨by rw[vaY,hxsl,hnl,happ],.inr ⟨g,cap,_,rfl,vaL _,hheap,hroom,hcm,by rw[hsz1,hcs],htk⟩⟩,fun b hb=>?_⟩,fun b hb=>?_⟩
   ·simp[Value.ownBlock]at hb;subst hb;exact Γ.put_same _ _
   ·exact hfree b (by simpa[Value.ownBlock]using hb)
  ·by_cases hbg:b=g
   ·subst hbg
    rw[Γ.put_same]at hb;cases hb
    refine⟨_,_,_,hheap,?_⟩
    rw[hsz1,hcs];exact vaG _ hroom
   ·rw[Γ.put_other hbg]at hb
    obtain⟨c,t',fr,k1,k2⟩:=h.wi b m hb
    exact⟨c,t',fr,(setRow_other w g b _ hbg).trans k1,k2⟩
  ·subst hbg
   have:=(h.bx i b (st.boxes[i]'(by rw[<-h.bl];exact aj hb)) hb (by simp)).1
   rw[hgn]at this;cases this
 ·
  have hcs:(xs++news++rest).toArray.size=cap * P.cellsOf e:=by
   simp only[vbH,vaY,hxsl,hnl,g3,<-vaN];congr 1;omega
  obtain⟨hSR,hle⟩:=h.drew.alloc_imm (xs++news++rest).toArray e ((n+ns.length) * P.cellsOf e) (by rw[hcs];exact vaG _ g1)
  have hle':Γ.Le w (Γ.put w.heap.size ((n+ns.length) * P.cellsOf e)) (w.drew.alloc (.cells (xs++news++rest).toArray e)):=hle
  have hheap:(w.drew.alloc (.cells (xs++news++rest).toArray e)).heap[w.heap.size]? =some (.cells (xs++news++rest).toArray e (0,0)):=fw w.drew _
  have htk:((xs++news++rest).toArray).toList.take ((n+ns.length) * P.cellsOf e)=xs++news:=by
   rw[happ,<-hnl,<-hxsl,<-vaY]
   exact vb2
  refine⟨_,_,_,hrun,hSR,hle',fin hheap (Γ.put_same _ _) g1 htk hle',⟨n+ns.length,xs++news,⟨by rw[vaY,hxsl,hnl,happ],.inr ⟨w.heap.size,cap,_,rfl,vaL _,hheap,g1,g2,hcs,htk⟩⟩,fun b hb=>?_⟩,fun b hb=>?_⟩
  ·simp[Value.ownBlock]at hb;subst hb;exact Γ.put_same _ _
  ·simp[Value.ownBlock]at hb;subst hb
   refine⟨?_,.inr h.step.size⟩
   cases hL:ow w.heap.size with
   |none=>rfl
   |some L=>exact absurd (h.on _ L hL).1 (vbD _)
end
section
variable{P:Program}{E:ma}{Γ:aK}{bs:ba}{ow:Nat->Option iD}{w:World}{a:Array Value}{st:aq}
theorem IA(a b:List UInt8):((ByteArray.mk a.toArray)==(ByteArray.mk b.toArray))=(a==b):=by
 show(a.toArray==b.toArray)=_
 simp
theorem Dh{kd:TypeDesc}{k x:PVal}{vk vx:Value}{t:Bool}(hk:VR Γ bs w k vk)(hx:VR Γ bs w x vx)(hkd:jy kd k=true)(h:Fq k x=some t):Instr.sameNow kd vk vx=some t:=by
 unfold Fq at h
 split at h
 ·cases h;cases hk;cases hx
  cases kd<;>simp[jy]at hkd
  simp only[Instr.sameNow,IA]
 ·split at h
  ·rename_i hkk;subst hkk
   cases h;cases hk;cases hx
   cases kd<;>simp[jy]at hkd
   simp[Instr.sameNow]
  ·cases h
 ·cases h
theorem nC{kd:TypeDesc}{k:PVal}{vk:Value}(hk:VR Γ bs w k vk)(hkd:jy kd k=true):∀(es:List (PVal×PVal)) (ents:List MapEntry) (i:Nat) {r:Option (Nat×PVal)},es.length=ents.length->
  (∀(j:Nat) kx u x,es[j]? =some (kx,u)->ents[j]? =some x->VR Γ bs w kx x.key/\VR Γ bs w u x.val)->tM k es i=some r->
  match r with
  |none=>Instr.findNow kd vk ents i=some none
  |some (j,u)=>∃v x,Instr.findNow kd vk ents i=some (some (j,v))/\VR Γ bs w u v/\i<=j/\ents[j - i]? =some x/\x.val=v/\Instr.sameNow kd vk x.key=some true/\j - i<es.length
 |[],[],i,r,_,_,h=>by simp only[tM,vao]at h;subst h;rfl
 |[],_::_,_,_,hl,_,_=>by simp at hl
 |_::_,[],_,_,hl,_,_=>by simp at hl
 | (kx,u) :: es,x :: ents,i,r,hl,hv,h => by
  obtain⟨h1,h2⟩:=hv 0 kx u x rfl rfl
  simp only[tM]at h
  split at h
  ·rename_i hq
   cases h
   have:=Dh hk h1 hkd hq
   exact⟨x.val,x,by simp[Instr.findNow,this],h2,vaq _,by simp,rfl,this,by simp⟩
  ·rename_i hq
   have hs:=Dh hk h1 hkd hq
   have ih:=nC hk hkd es ents (i+1) (by simpa using hl) (fun j kx u x hj hx=>hv (j+1) kx u x (by simpa using hj) (by simpa using hx)) h
   cases r with
   |none=>simpa[Instr.findNow,hs]using ih
   |some ju=>
    obtain⟨j,u'⟩:=ju
    obtain⟨v,x',k1,k2,k3,k4,k5,k6,k7⟩:=ih
    refine⟨v,x',by simpa[Instr.findNow,hs]using k1,k2,by omega,?_,k5,k6,by simp;omega⟩
    rw[show j - i=(j - (i+1))+1 from by omega];simpa using k4
  ·cases h
theorem yW{kt:TypeId}{kd:TypeDesc}{k:PVal}{vk:Value}(hkt:P.underlying kt=some kd)(hkd:jy kd k=true)(hk:VR Γ bs w k vk)(em:Bool):(Instr.checkKey em 10000 kt vk).run P w=.ok () w:=by
 show(Instr.checkKey em (9999+1) kt vk).run P w=_
 rw[Instr.checkKey]
 cases kd<;>simp[jy]at hkd<;>cases k<;>simp at hkd<;>cases hk<;>simp[run_underlying hkt]
theorem kG{b:Nat}{ents:Array MapEntry}{clock:Nat}(h:w.heap[b]? =some (.map ents clock)):(getObj b).run P w=.ok (.map ents clock) w:=by simp[getObj,Sem.run,h]
theorem Fx{t:TypeId}{z:PVal}(h:zS P t=some z):∃v,(zeroValue t).run P w=.ok v w/\VR Γ bs w z v:=by
 unfold zS at h
 simp only[vaA,va6]at h
 obtain⟨v,⟨i,hi,hz⟩,rfl⟩:=h
 exact⟨v,by simp[zeroValue,run_typeInfo w hi,hz],.absV v⟩
theorem Gv(h:SR P E Γ bs ow w a st){t:TypeId}{m k p:PVal}{vm vk:Value}{ok:Bool}(hm:VR Γ bs w m vm)(hk:VR Γ bs w k vk)(hp:oS P t m k ok st.boxes=some p):∃v,(Instr.lookup t vm vk ok).run P w=.ok v w/\VR Γ bs w p v:=by
 unfold oS at hp
 split at hp
 ·rename_i kt e i ht
  split at hp
  ·rename_i es kd hB hkt
   split at hp
   ·rename_i hkd
    cases hm with
    | mapr i b hi =>
     obtain⟨_,_,ents,clock,h1,h2,h3⟩:=h.bx i b _ hi hB
     have hch:=yW (P:=P) (w:=w) hkt hkd hk ents.toList.isEmpty
     have hch':(Instr.checkKey ents.isEmpty 10000 kt vk).run P w=.ok () w:=by rw[show ents.isEmpty=ents.toList.isEmpty from by simp];exact hch
     split at hp
     ·rename_i j u zs hf
      cases hp
      obtain⟨v,x,k1,k2,_⟩:=nC hk hkd es ents.toList 0 (by simp[h2]) (fun j kx u x hj hx=>h3 j kx u x hj (by simpa using hx)) hf
      refine⟨if ok then .tuple #[v,.bool true]else v,?_,?_⟩
      ·simp[Instr.lookup,run_underlying ht,kG h1,hch',Instr.findKey,run_underlying hkt,k1]
      ·cases ok
       ·exact k2
       ·refine .tuple _ _ rfl fun q p' v' hq hv'=>?_
        match q,hq,hv' with
        |0,hq,hv'=>simp at hq hv';subst hq;subst hv';exact k2
        |1,hq,hv'=>simp at hq hv';subst hq;subst hv';exact .bool _
        |q+2,hq,_=>simp at hq
     ·rename_i z hf hz
      cases hp
      obtain⟨z',hr,hvz⟩:=Fx (Γ:=Γ) (bs:=bs) (w:=w) hz
      have hfn:=nC hk hkd es ents.toList 0 (by simp[h2]) (fun j kx u x hj hx=>h3 j kx u x hj (by simpa using hx)) hf
      refine⟨if ok then .tuple #[z',.bool false]else z',?_,?_⟩
      ·simp only at hfn
       simp[Instr.lookup,run_underlying ht,kG h1,hch',Instr.findKey,run_underlying hkt,hfn,hr]
      ·cases ok
       ·exact hvz
       ·refine .tuple _ _ rfl fun q p' v' hq hv'=>?_
        match q,hq,hv' with
        |0,hq,hv'=>simp at hq hv';subst hq;subst hv';exact hvz
        |1,hq,hv'=>simp at hq hv';subst hq;subst hv';exact .bool _
        |q+2,hq,_=>simp at hq
     ·cases hp
   ·cases hp
  ·cases hp
 ·cases hp
theorem GM{kd:TypeDesc}{vk x:Value}(h:Instr.sameNow kd vk x=some true):Instr.sameBits 10000 x vk=true:=by
 unfold Instr.sameNow at h
 split at h
 ·split at h
  ·rename_i hk
   subst hk
   simp only[vao,vaP]at h
   subst h
   simp[Instr.sameBits]
  ·cases h
 ·rename_i p q
  have h':(p.data==q.data)=true:=vbd h
  show(q.data==p.data)=true
  rw[vaP]at h' ⊢
  exact h'.symm
 ·simp only[vao,vaP]at h
  subst h
  simp[Instr.sameBits]
 ·cases h
theorem CP(h:SR P E Γ bs ow w a st){t:TypeId}{m k u:PVal}{vm vk vu:Value}{H:List aw}(hm:VR Γ bs w m vm)(hk:VR Γ bs w k vk)(hu:VR Γ bs w u vu)(hp:eJ P t m k u st.boxes=some H):∃w',(Instr.mapUpdate t vm vk vu).run P w=.ok () w'/\SR P E Γ bs ow w' a {st with boxes:=H}/\Γ.Le w Γ w':=by
 unfold eJ at hp
 split at hp
 ·rename_i kt e i ht
  split at hp
  ·rename_i es kd hB hkt
   split at hp
   ·rename_i hkd
    cases hm with
    | mapr i b hi =>
     obtain⟨hgb,hlt,ents,clock,h1,h2,h3⟩:=h.bx i b _ hi hB
     have hch:=yW (P:=P) (w:=w) hkt hkd hk false
     have hset:∀o,(setObj b o).run P w=.ok () {w with heap:=w.heap.setIfInBounds b o}:=by
      intro o;simp[setObj,Sem.run,h1]
     have hheap:∀o,({w with heap:=w.heap.setIfInBounds b o}:World).heap[b]? =some o:=by
      intro o;simp[hlt]
     have hother:∀o b',b'≠b->({w with heap:=w.heap.setIfInBounds b o}:World).heap[b']? =w.heap[b']?:=by
      intro o b' hb';exact vaF (fun e=>hb' e.symm)
     have hle:∀o,Γ.Le w Γ ({w with heap:=w.heap.setIfInBounds b o}:World):=fun o b' m hb' _=>
      ⟨m,hb',vaq _,fun o' _=>bH (hother o b' (fun e=>by subst e;rw[hgb]at hb';cases hb')) o'⟩
     have hbox:∀{o:Obj} {B:aw},BR Γ bs ({w with heap:=w.heap.setIfInBounds b o}:World) B b->(∀cs own,B≠.cells cs own)->
       SR P E Γ bs ow ({w with heap:=w.heap.setIfInBounds b o}:World) a {st with boxes:=st.boxes.set i B}:=fun{o B} hB hne=>
      h.box_write hi rfl rfl rfl (by simp) (hother o) hB (fun b' L hL _=>hL) h.on (fun cs own he=>absurd he (hne cs own))
     split at hp
     ·rename_i j u0 hf
      cases hp
      obtain⟨v,x,k1,k2,k3,k4,k5,k6,k7⟩:=nC hk hkd es ents.toList 0 (by simp[h2]) (fun j kx u x hj hx=>h3 j kx u x hj (by simpa using hx)) hf
      simp only[Nat.sub_zero,vaJ]at k4 k7
      have hsame:=GM k6
      refine⟨{w with heap:=w.heap.setIfInBounds b (.map (ents.modify j fun e=>{e with key:=vk,val:=vu}) clock)},?_,hbox ⟨_,clock,hheap _,by simp[h2],fun q kx ux y hq hy=>?_⟩ (by simp),hle _⟩
      ·simp[Instr.mapUpdate,run_underlying ht,kG h1,hch,Instr.findKey,run_underlying hkt,k1,k4,Instr.keyThatStays,hsame,hset]
      ·rw[vbM]at hy
       by_cases hqj:q=j
       ·subst hqj
        rw[vaf k7]at hq
        simp[k4]at hy
        cases hq;subst hy
        exact⟨hk.mono (hle _) (.refl _),hu.mono (hle _) (.refl _)⟩
       ·rw[vaj (fun e=>hqj e.symm)]at hq
        rw[vav (fun e=>hqj e.symm)]at hy
        exact⟨(h3 q kx ux y hq hy).1.mono (hle _) (.refl _),(h3 q kx ux y hq hy).2.mono (hle _) (.refl _)⟩
     ·rename_i hf
      cases hp
      have hfn:=nC hk hkd es ents.toList 0 (by simp[h2]) (fun j kx u x hj hx=>h3 j kx u x hj (by simpa using hx)) hf
      simp only at hfn
      refine⟨{w with heap:=w.heap.setIfInBounds b (.map (ents.push {key:=vk,val:=vu,born:=clock}) (clock+1))},?_,hbox ⟨_,_,hheap _,by simp[h2],fun q kx ux y hq hy=>?_⟩ (by simp),hle _⟩
      ·simp[Instr.mapUpdate,run_underlying ht,kG h1,hch,Instr.findKey,run_underlying hkt,hfn,hset]
      ·rw[vcr]at hy
       by_cases hql:q=ents.size
       ·subst hql
        rw[vae (by omega),<-h2,vbC]at hq
        simp at hq hy
        obtain⟨rfl,rfl⟩:=hq
        subst hy
        exact⟨hk.mono (hle _) (.refl _),hu.mono (hle _) (.refl _)⟩
       ·rw[vav hql]at hy
        have hlt2:q<es.length:=by rw[<-h2];exact(vam.1 hy).1
        rw[vac hlt2]at hq
        exact⟨(h3 q kx ux y hq hy).1.mono (hle _) (.refl _),(h3 q kx ux y hq hy).2.mono (hle _) (.refl _)⟩
     ·cases hp
   ·cases hp
  ·cases hp
 ·cases hp
end
section
variable{P:Program}{E:ma}{Γ:aK}{bs:ba}{ow:Nat->Option iD}{w:World}{a:Array Value}{st:aq}
def fy(d:Nat)(f:Nat×Nat->Nat×Nat)(own:List ((Nat×Nat)×TypeId)):List ((Nat×Nat)×TypeId):=(bI d own).map fun x=>(f x.1,x.2)
def GG(d:Nat)(f:Nat×Nat->Nat×Nat)(ow:Nat->Option iD):Nat->Option iD:=fun b=>
 match ow b with
 |some (.tmp t k)=>if t=d then none else some (.tmp (f (t,k)).1 (f (t,k)).2)
 |x=>x
theorem SR.setRen(h:SR P E Γ bs ow w a st){d:Nat}{p:PVal}{v:Value}(hv:VR Γ bs w p v)(f:Nat×Nat->Nat×Nat)(hd:d<a.size)
  (hf:∀t k e,((t,k),e)∈st.own->t≠d->f (t,k)=(t,k)\/∃k',f (t,k)=(d,k')/\∀u v',a[t]? =some u->gB u k=some v'->fA P Γ w v' e->gB v k'=some v'):
  SR P E Γ bs (GG d f ow) w (a.setIfInBounds d v) {st with tmps:=st.tmps.set d p,own:=fy d f st.own}:=by
 have hs:=h.set (d:=d) (p:=p) hv
 exact{hs with
  on:=fun b L hL=>by
   unfold GG at hL
   split at hL
   ·rename_i t k hb
    exact h.on b _ hb
   ·exact h.on b L hL
  ot:=fun t' k' e he=>by
   simp only[fy,van]at he
   obtain⟨⟨⟨t,k⟩,e0⟩,hx,he⟩:=he
   simp only[Prod.mk.injEq]at he
   obtain⟨he,rfl⟩:=he
   obtain⟨hx,htd⟩:=cV hx
   obtain⟨u,v',h1,h2,h3,h4⟩:=h.ot t k e0 hx
   have how:∀b,v'.ownBlock=some b->GG d f ow b=some (.tmp t' k'):=fun b hb=>by
    have:=h4 b hb
    simp only[GG,this]
    rw[vav htd,he]
   rcases hf t k e0 hx htd with hk|⟨k2,hk,hp⟩
   ·rw[hk]at he;cases he
    exact⟨u,v',by rw[vaF (fun e=>htd e.symm)];exact h1,h2,h3,how⟩
   ·rw[hk]at he;cases he
    exact⟨v,v',by simp[hd],hp u v' h1 h2 h3,h3,how⟩
  ob:=fun i j e cs own b hB hj hb=>by
   obtain⟨v',h1,h3,h4⟩:=h.ob i j e cs own b hB hj hb
   exact⟨v',h1,h3,fun b' hb'=>by have:=h4 b' hb';simp only[GG,this]⟩}
theorem SR.freeB(h:SR P E Γ bs ow w a st){i j:Nat}{cs:List PVal}{own:List (Nat×TypeId)}(hB:st.boxes[i]? =some (.cells cs own)):SR P E Γ bs (fun b=>if ow b=some (.box i j)then none else ow b) w a {st with boxes:=st.boxes.set i (.cells cs (own.filter fun x=>x.1 !=j))}:=by
 have hilt:i<bs.length:=by rw[h.bl];exact aj hB
 cases hb:bs[i]'hilt with
 | none =>
  have hi:bs[i]? =some none:=by rw[vaa hilt,hb]
  have hbox:∀{k:Nat} {B:aw},k≠i->(st.boxes.set i (.cells cs (own.filter fun x=>x.1 !=j)))[k]? =some B->st.boxes[k]? =some B:=by
   intro k B hk hB'
   rwa[vaj (fun e=>hk e.symm)]at hB'
  have hne:∀{k b:Nat},bs[k]? =some (some b)->k≠i:=fun hk e=>by subst e;rw[hi]at hk;cases hk
  exact{h with
   bl:=by simp[h.bl]
   bx:=fun k b B hk hB'=>h.bx k b B hk (hbox (hne hk) hB')
   on:=fun b L hL=>by
    split at hL
    ·cases hL
    ·exact h.on b L hL
   ot:=fun t k e he=>by
    obtain⟨u,v,h1,h2,h3,h4⟩:=h.ot t k e he
    exact⟨u,v,h1,h2,h3,fun b hb'=>by rw[vav (by rw[h4 b hb'];intro hx;cases hx)];exact h4 b hb'⟩
   ob:=fun k q e cs' own' b hB' hj hk=>by
    obtain⟨v,h1,h3,h4⟩:=h.ob k q e cs' own' b (hbox (hne hk) hB') hj hk
    exact⟨v,h1,h3,fun b' hb'=>by rw[vav (by rw[h4 b' hb'];intro hx;cases hx;exact hne hk rfl)];exact h4 b' hb'⟩}
 | some b =>
  have hi:bs[i]? =some (some b):=by rw[vaa hilt,hb]
  refine h.box_write hi rfl rfl rfl rfl (fun _ _=>rfl) ?_ (fun b' L hL hne=>?_) (fun b' L hL=>?_) (fun cs' own' he q e hq=>?_)
  ·obtain⟨_,_,c,t,h1,h2,h3⟩:=h.bx i b _ hi hB
   exact⟨c,t,h1,h2,h3⟩
  ·rw[vav (by rw[hL];intro hx;cases hx;exact hne j rfl)];exact hL
  ·split at hL
   ·cases hL
   ·exact h.on b' L hL
  ·cases he
   obtain⟨hq,hqj⟩:=bX hq
   obtain⟨v,h1,h3,h4⟩:=h.ob i q e cs own b hB hq hi
   refine⟨v,h1,h3,fun b' hb'=>?_⟩
   rw[vav (by rw[h4 b' hb'];intro hx;cases hx;simp at hqj)]
   exact h4 b' hb'
theorem SR.addOwnB(h:SR P E Γ bs ow w a st){i b j:Nat}{e:TypeId}{v:Value}{cs:List PVal}{own:List (Nat×TypeId)}(hi:bs[i]? =some (some b))(hB:st.boxes[i]? =some (.cells cs own))
  (hv:w.cell? ⟨b,j,none⟩=some v) (ho:fA P Γ w v e) (hf:∀b',v.ownBlock=some b'->ow b'=none/\(E.T b'\/E.w.heap.size<=b')):
  SR P E Γ bs (fun b'=>if v.ownBlock=some b' then some (.box i j)else ow b') w a {st with boxes:=st.boxes.set i (.cells cs ((j,e)::own))}:=by
 refine h.box_write hi rfl rfl rfl rfl (fun _ _=>rfl) ?_ (fun b' L hL hne=>?_) (fun b' L hL=>?_) (fun cs' own' he q e' hq=>?_)
 ·obtain⟨_,_,c,t,h1,h2,h3⟩:=h.bx i b _ hi hB
  exact⟨c,t,h1,h2,h3⟩
 ·rw[vav (fun hx=>by have:=(hf b' hx).1;rw[this]at hL;cases hL)];exact hL
 ·by_cases hx:v.ownBlock=some b'
  ·exact⟨ho.lt hx,(hf b' hx).2⟩
  ·rw[vav hx]at hL;exact h.on b' L hL
 ·cases he
  rcases vaD.1 hq with hq|hq
  ·cases hq
   exact⟨v,hv,ho,fun b' hb'=>by rw[var hb']⟩
  ·obtain⟨v',h1,h3,h4⟩:=h.ob i q e' cs own b hB hq hi
   refine⟨v',h1,h3,fun b' hb'=>?_⟩
   rw[vav (fun hx=>by have:=(hf b' hx).1;rw[h4 b' hb']at this;cases this)]
   exact h4 b' hb'
theorem SR.moveOwn(h:SR P E Γ bs ow w a st){i b t k off:Nat}{e:TypeId}{u v:Value}{cs:List PVal}{own:List (Nat×TypeId)}(hi:bs[i]? =some (some b))(hB:st.boxes[i]? =some (.cells cs own))
  (hm:((t,k),e)∈st.own) (hu:a[t]? =some u) (hp:gB u k=some v) (hc:w.cell? ⟨b,off,none⟩=some v):
  ∃ow',SR P E Γ bs ow' w a {st with own:=st.own.filter fun x=>x.1 !=(t,k),boxes:=st.boxes.set i (.cells cs ((off,e)::own))}:=by
 obtain⟨u',v',h1,h2,h3,h4⟩:=h.ot t k e hm
 rw[hu]at h1
 cases h1
 rw[hp]at h2
 cases h2
 exact⟨_,(h.freeT t k).addOwnB (i:=i) (b:=b) (j:=off) (e:=e) (v:=v) hi hB hc h3 (fun b' hb'=>⟨by simp[h4 b' hb'],(h.on b' _ (h4 b' hb')).2⟩)⟩
theorem SR.moveOwns{i b t off:Nat}{u:Value}{cs:List PVal}(hi:bs[i]? =some (some b))(hu:a[t]? =some u):∀(L:List (Nat×TypeId)) {ow:Nat->Option iD} {st:aq} {own:List (Nat×TypeId)},SR P E Γ bs ow w a st->st.boxes[i]? =some (.cells cs own)->
  (∀x∈L,((t,x.1),x.2)∈st.own)->(L.map (·.1)).Nodup->(∀x∈L,∃v,gB u x.1=some v/\w.cell? ⟨b,off+x.1,none⟩=some v)->
  ∃ow',SR P E Γ bs ow' w a ⟨st.tmps,st.boxes.set i (.cells cs ((L.map fun x=>(off+x.1,x.2)).reverse++own)),st.own.filter fun x=>!L.any fun y=>x.1==(t,y.1)⟩
 | [],ow,st,own,h,hB,_,_,_ => by
  refine⟨ow,?_⟩
  have e1:st.boxes.set i (.cells cs ((([]:List (Nat×TypeId)).map fun x=>(off+x.1,x.2)).reverse++own))=st.boxes:=by
   apply va5
   intro j
   by_cases hj:i=j
   ·subst hj
    rw[vaf (aj hB),hB]
    rfl
   ·rw[vaj hj]
  have e2:(st.own.filter fun x=>!([]:List (Nat×TypeId)).any fun y=>x.1==(t,y.1))=st.own:=by
   apply vcs.2
   intro x _
   rfl
  rw[e1,e2]
  exact h
 | x :: L,ow,st,own,h,hB,hm,hn,hc => by
  rw[vaQ,vbU]at hn
  obtain⟨v,hv1,hv2⟩:=hc x (by simp)
  obtain⟨ow1,h1⟩:=h.moveOwn hi hB (hm x (by simp)) hu hv1 hv2
  obtain⟨ow2,h2⟩:=SR.moveOwns hi hu L h1 (vaf (aj hB)) (fun y hy=>by
   refine vaT.2 ⟨hm y (by simp[hy]),?_⟩
   simp only[bne_iff_ne,ne_eq,Prod.mk.injEq,vcn]
   exact fun e=>hn.1 (van.2 ⟨y,hy,e⟩)) hn.2 (fun y hy=>hc y (by simp[hy]))
  refine⟨ow2,?_⟩
  simp only[vbN,vct]at h2
  have e1:((x::L).map fun x=>(off+x.1,x.2)).reverse++own=(L.map fun x=>(off+x.1,x.2)).reverse++(off+x.1,x.2)::own:=by simp
  have e2:(st.own.filter fun z=>!(x::L).any fun y=>z.1==(t,y.1))=st.own.filter fun z=>(!L.any fun y=>z.1==(t,y.1))&&(z.1 !=(t,x.1)):=by
   congr 1
   funext z
   rw[List.any_cons]
   cases(L.any fun y=>z.1==(t,y.1))<;>cases hz:(z.1==(t,x.1))<;>simp[bne,hz]
  rw[e1,e2]
  exact h2
end
def lX(P:Program)(op:Op)(id:Nat)(v:Operand->PVal)(H:List aw):Option (PVal×List aw):=
 match op with
 |.move x=>some (v x,H)
 |.assign x=>some (v x,H)
 |.pick c x y=>match v c with
  |.bool true=>some (v x,H)
  |.bool false=>some (v y,H)
  |_=>none
 |.alloc t=>(gI P t).map fun zs=>(.bptr id 0,H.set id (.cells zs (GF P t)))
 |.box _ x=>(bZ (v x)).map fun cs=>(.bptr id 0,H.set id (.cells cs []))
 |.makeMap _ none=>some (.mapr id,H.set id (.map []))
 |.build t parts=>(dc P t (parts.toList.map fun x=>(x.1,v x.2))).map fun p=>(p,H)
 |.buildSlice t len parts=>(dR P t len (parts.toList.map fun x=>(x.1,v x.2))).map fun p=>(p,H)
 |.load t x=>(kP P t (v x) H).map fun p=>(p,H)
 |.store t x y=>(cH P t (v x) (v y) H).map fun H'=>(.val undef,H')
 |.nilCheck x=>match v x with
  |.eptr cs=>some (.eptr cs,H)
  |.bptr i off=>some (.bptr i off,H)
  |.func (.func f) first cap=>some (.func (.func f) first cap,H)
  |_=>none
 |.binOp op T x y _=>(Hx P op T (v x) (v y)).map fun p=>(p,H)
 |.unOp op _ x=>(Oy op (v x)).map fun p=>(p,H)
 |.convert s d x=>(Ik P s d (v x)).map fun p=>(p,H)
 |.makeFunc fn first cap=>some (.func fn (first.toList.map v) (cap.toList.map v),H)
 |.slice t x lo hi none=>(tT P t (v x) (lo.map v) (hi.map v) none).map fun p=>(p,H)
 |.fieldAddr s x f=>(cE P s (v x) f).map fun p=>(p,H)
 |.field t x f=>(Fp P t (v x) f).map fun p=>(p,H)
 |.indexAddr t x i=>(il P t (v x) (v i)).map fun p=>(p,H)
 |.index t x i=>(ry P t (v x) (v i)).map fun p=>(p,H)
 |.lookup t m k ok=>(oS P t (v m) (v k) ok H).map fun p=>(p,H)
 |.mapUpdate t m k x=>(eJ P t (v m) (v k) (v x) H).map fun H'=>(.val undef,H')
 |.extract t i=>(nG (v t) i).map fun p=>(p,H)
 |.call {callee:=.builtin .len,args:=⟨[x]⟩,argTypes:=⟨[t]⟩}=>(wV P t (v x) H).map fun p=>(p,H)
 |.call {callee:=.builtin .max,args:=⟨x::r⟩,..}=>(Ay Il (v x) (r.map v)).map fun p=>(p,H)
 |.call {callee:=.builtin .min,args:=⟨x::r⟩,..}=>(Ay Im (v x) (r.map v)).map fun p=>(p,H)
 |_=>none
def au:Op->Bool
 |.alloc _|.box .. |.makeMap .. =>true
 |_=>false
section
variable{P:Program}{E:ma}{Γ:aK}{bs:ba}{ow:Nat->Option iD}{w:World}{a:Array Value}{st:aq}
def GZ(P:Program)(E:ma)(Γ:aK)(bs:ba)(ow:Nat->Option iD)(w:World)(a:Array Value)(st:aq)(id:Nat)(mk:Bool)(s:Sem Next)(p:PVal)(H:List aw):Prop:=
 ∃r v w' Γ' bs',s.run P w=.ok r w'/\(r=.value v\/(r=.skip/\v=undef))/\SR P E Γ' bs' ow w' a {st with boxes:=H}/\VR Γ' bs' w' p v/\
  Γ.Le w Γ' w'/\(bs'=bs\/(mk=true/\bs'=bs.set id (some w.heap.size)))/\bs.Sub bs'
theorem GZ.quiet(h:SR P E Γ bs ow w a st){id:Nat}{mk:Bool}{s:Sem Next}{p:PVal}(hs:∃v,s.run P w=.ok (.value v) w/\VR Γ bs w p v):GZ P E Γ bs ow w a st id mk s p st.boxes:=by
 obtain⟨v,h1,h2⟩:=hs
 exact⟨_,v,w,Γ,bs,h1,.inl rfl,h,h2,.refl _ _,.inl rfl,.refl _⟩
theorem cP{α β:Type}{f:α->β}{x:Option α}{y:β}(h:x.map f=some y):∃z,x=some z/\f z=y:=by simpa using h
theorem ql{ρ:Operand->Value}{v:Operand->PVal}(hρ:∀x,VR Γ bs w (v x) (ρ x))(parts:List (Nat×Operand)):(parts.map fun x=>(x.1,v x.2)).length=(parts.map fun x=>(x.1,ρ x.2)).length/\
  ∀(j:Nat) p u,(parts.map fun x=>(x.1,v x.2))[j]? =some p->(parts.map fun x=>(x.1,ρ x.2))[j]? =some u->p.1=u.1/\VR Γ bs w p.2 u.2:=by
 refine⟨by simp,fun j p u hp hu=>?_⟩
 simp only[vat]at hp hu
 cases hx:parts[j]? with
 |none=>simp[hx]at hp
 |some x=>
  simp only[hx,vad,vao]at hp hu
  subst hp;subst hu
  exact⟨rfl,hρ _⟩
theorem uA{ρ:Operand->Value}{v:Operand->PVal}(hρ:∀x,VR Γ bs w (v x) (ρ x))(l:List Operand)(j:Nat)(p:PVal)(u:Value)(hp:(l.map v)[j]? =some p)(hu:(l.map ρ)[j]? =some u):VR Γ bs w p u:=by
 simp only[vat]at hp hu
 cases hx:l[j]? with
 |none=>simp[hx]at hp
 |some x=>
  simp only[hx,vad,vao]at hp hu
  subst hp;subst hu
  exact hρ _
theorem I9(h:SR P E Γ bs ow w a st)(ds:List Deferred){o:Oper}{id:Nat}{p:PVal}{H:List aw}(hid:au o.op=true->bs[id]? =some none)
  (hp:lX P o.op id (opv E.GE st.tmps) st.boxes=some (p,H)):GZ P E Γ bs ow w a st id (au o.op) (execOp (Act.mk a ds).eval o) p H:=by
 have hρ:∀x,VR Γ bs w (opv E.GE st.tmps x) ((Act.mk a ds).eval x):=fun x=>h.opv ds x
 unfold lX at hp
 split at hp
 case h_1 x ho=>cases hp;exact .quiet h ⟨_,by simp[execOp,ho],hρ x⟩
 case h_2 x ho=>cases hp;exact .quiet h ⟨_,by simp[execOp,ho],hρ x⟩
 case h_3 c x y ho=>
  have hc:=hρ c
  split at hp
  ·rename_i hb;rw[hb]at hc;cases hp
   generalize hv:(Act.mk a ds).eval c=vc at hc
   cases hc
   exact .quiet h ⟨_,by simp[execOp,ho,hv,asBool],hρ x⟩
  ·rename_i hb;rw[hb]at hc;cases hp
   generalize hv:(Act.mk a ds).eval c=vc at hc
   cases hc
   exact .quiet h ⟨_,by simp[execOp,ho,hv,asBool],hρ y⟩
  ·cases hp
 case h_4 t ho=>
  obtain⟨zs,hz,he⟩:=cP hp
  cases he
  obtain⟨v,w',h1,h2,h3,h4,h5⟩:=Hw h (hid (by simp[ho,au])) hz
  exact⟨_,v,w',Γ,_,by simp[execOp,ho,h1],.inl rfl,h2,h3,h5,.inr ⟨by simp[ho,au],rfl⟩,h4⟩
 case h_5 t x ho=>
  obtain⟨cs,hc,he⟩:=cP hp
  cases he
  obtain⟨v,w',h1,h2,h3,h4,h5⟩:=Km (t:=t) h (hid (by simp[ho,au])) (hρ x) hc
  exact⟨_,v,w',Γ,_,by simp[execOp,ho,h1],.inl rfl,h2,h3,h5,.inr ⟨by simp[ho,au],rfl⟩,h4⟩
 case h_6 t ho=>
  cases hp
  obtain⟨v,w',h1,h2,h3,h4,h5⟩:=Fr (t:=t) h (hid (by simp[ho,au]))
  exact⟨_,v,w',Γ,_,by simp[execOp,ho,h1],.inl rfl,h2,h3,h5,.inr ⟨by simp[ho,au],rfl⟩,h4⟩
 case h_7 t parts ho=>
  obtain⟨q,hq,he⟩:=cP hp
  cases he
  obtain⟨k1,k2⟩:=ql hρ parts.toList
  obtain⟨v,h1,h2⟩:=rx k1 k2 hq
  refine .quiet h ⟨v,?_,h2⟩
  have:(parts.map fun x=>(x.1,(Act.mk a ds).eval x.2))=(parts.toList.map fun x=>(x.1,(Act.mk a ds).eval x.2)).toArray:=by apply vbv;simp
  simp only[execOp,ho]
  rw[this]
  simp[h1]
 case h_8 t len parts ho=>
  obtain⟨q,hq,he⟩:=cP hp
  cases he
  obtain⟨k1,k2⟩:=ql hρ parts.toList
  obtain⟨v,w',Γ',h1,h2,h3,h4,_,_⟩:=rY h k1 k2 hq
  refine⟨_,v,w',Γ',bs,?_,.inl rfl,h2,h4,h3,.inl rfl,.refl _⟩
  have:(parts.map fun x=>(x.1,(Act.mk a ds).eval x.2))=(parts.toList.map fun x=>(x.1,(Act.mk a ds).eval x.2)).toArray:=by apply vbv;simp
  simp only[execOp,ho]
  rw[this]
  simp[h1]
 case h_9 t x ho=>
  obtain⟨q,hq,he⟩:=cP hp
  cases he
  obtain⟨v,h1,h2⟩:=zM h (hρ x) hq
  exact .quiet h ⟨v,by simp[execOp,ho,h1],h2⟩
 case h_10 t x y ho=>
  obtain⟨q,hq,he⟩:=cP hp
  cases he
  obtain⟨w',h1,h2,h3⟩:=C8 h (hρ x) (hρ y) hq
  exact⟨.skip,undef,w',Γ,bs,by simp[execOp,ho,h1],.inr ⟨rfl,rfl⟩,h2,.val _,h3,.inl rfl,.refl _⟩
 case h_11 x ho=>
  have hx:=hρ x
  split at hp
  ·rename_i cs hc;rw[hc]at hx;cases hp
   generalize hv:(Act.mk a ds).eval x=vx at hx
   refine .quiet h ⟨vx,?_,hx⟩
   cases hx<;>simp[execOp,ho,hv]
  ·rename_i i off hc;rw[hc]at hx;cases hp
   generalize hv:(Act.mk a ds).eval x=vx at hx
   refine .quiet h ⟨vx,?_,hx⟩
   cases hx;simp[execOp,ho,hv]
  ·rename_i f first cap hc;rw[hc]at hx;cases hp
   generalize hv:(Act.mk a ds).eval x=vx at hx
   refine .quiet h ⟨vx,?_,hx⟩
   cases hx;simp[execOp,ho,hv]
  ·cases hp
 case h_12 op T x y yT ho=>
  obtain⟨q,hq,he⟩:=cP hp
  cases he
  obtain⟨v,h1,h2⟩:=Kl (P:=P) (hρ x) (hρ y) x y hq
  refine .quiet h ⟨v,?_,h2⟩
  simp only[execOp,ho,Sem.run_bind]at h1 ⊢
  rw[h1];rfl
 case h_13 op T x ho=>
  obtain⟨q,hq,he⟩:=cP hp
  cases he
  obtain⟨v,h1,h2⟩:=LA (P:=P) (hρ x) hq
  exact .quiet h ⟨v,by simp[execOp,ho,h1],h2⟩
 case h_14 s d x ho=>
  obtain⟨q,hq,he⟩:=cP hp
  cases he
  obtain⟨v,h1,h2⟩:=I7 (P:=P) (hρ x) hq
  exact .quiet h ⟨v,by simp[execOp,ho,h1],h2⟩
 case h_15 fn first cap ho=>
  cases hp
  refine .quiet h ⟨.func fn (first.map (Act.mk a ds).eval) (cap.map (Act.mk a ds).eval),by simp[execOp,ho,Instr.makeFunc],.func fn _ _ _ _ (by simp) (by simp) (fun i p v hp hv=>?_) (fun i p v hp hv=>?_)⟩
  ·exact uA hρ first.toList i p v hp (by simpa using hv)
  ·exact uA hρ cap.toList i p v hp (by simpa using hv)
 case h_16 t x lo hi ho=>
  obtain⟨q,hq,he⟩:=cP hp
  cases he
  obtain⟨v,h1,h2⟩:=HD (P:=P) (hρ x) (lo:=lo.map (opv E.GE st.tmps)) (hi:=hi.map (opv E.GE st.tmps)) (vlo:=lo.map (Act.mk a ds).eval) (vhi:=hi.map (Act.mk a ds).eval)
   (fun p hp=>by cases lo<;>simp at hp;subst hp;exact⟨_,rfl,hρ _⟩) (fun hn=>by cases lo<;>simp at hn ⊢) (fun p hp=>by cases hi<;>simp at hp;subst hp;exact⟨_,rfl,hρ _⟩) (fun hn=>by cases hi<;>simp at hn ⊢) hq
  exact .quiet h ⟨v,by simp[execOp,ho,h1],h2⟩
 case h_17 s x f ho=>
  obtain⟨q,hq,he⟩:=cP hp
  cases he
  obtain⟨v,h1,h2⟩:=CK (P:=P) (hρ x) hq
  exact .quiet h ⟨v,by simp[execOp,ho,h1],h2⟩
 case h_18 t x f ho=>
  obtain⟨q,hq,he⟩:=cP hp
  cases he
  obtain⟨v,h1,h2⟩:=Hy (P:=P) (hρ x) hq
  exact .quiet h ⟨v,by simp[execOp,ho,h1],h2⟩
 case h_19 t x i ho=>
  obtain⟨q,hq,he⟩:=cP hp
  cases he
  obtain⟨v,h1,h2⟩:=CM (P:=P) (hρ x) (hρ i) hq
  exact .quiet h ⟨v,by simp[execOp,ho,h1],h2⟩
 case h_20 t x i ho=>
  obtain⟨q,hq,he⟩:=cP hp
  cases he
  obtain⟨v,h1,h2⟩:=Hz (P:=P) (hρ x) (hρ i) hq
  exact .quiet h ⟨v,by simp[execOp,ho,h1],h2⟩
 case h_21 t m k ok ho=>
  obtain⟨q,hq,he⟩:=cP hp
  cases he
  obtain⟨v,h1,h2⟩:=Gv h (hρ m) (hρ k) hq
  exact .quiet h ⟨v,by simp[execOp,ho,h1],h2⟩
 case h_22 t m k x ho=>
  obtain⟨q,hq,he⟩:=cP hp
  cases he
  obtain⟨w',h1,h2,h3⟩:=CP h (hρ m) (hρ k) (hρ x) hq
  exact⟨.skip,undef,w',Γ,bs,by simp[execOp,ho,h1],.inr ⟨rfl,rfl⟩,h2,.val _,h3,.inl rfl,.refl _⟩
 case h_23 t i ho=>
  obtain⟨q,hq,he⟩:=cP hp
  cases he
  obtain⟨v,h1,h2⟩:=yg (P:=P) (hρ t) hq
  exact .quiet h ⟨v,by simp[execOp,ho,h1],h2⟩
 case h_24 x t ho=>
  obtain⟨q,hq,he⟩:=cP hp
  cases he
  obtain⟨v,h1,h2⟩:=Kv (ty:=o.type) h (hρ x) hq
  exact .quiet h ⟨v,by simp[execOp,ho,resolve,invoke,builtin,h1],h2⟩
 case h_25 x r tys ho=>
  obtain⟨q,hq,he⟩:=cP hp
  cases he
  obtain⟨v,h1,h2⟩:=zK (P:=P) Jc (r.map (opv E.GE st.tmps)) (r.map (Act.mk a ds).eval) _ _ (by simp) (hρ x) (uA hρ r) hq
  exact .quiet h ⟨v,by simp[execOp,ho,resolve,invoke,builtin,Builtin.max_,h1],h2⟩
 case h_26 x r tys ho=>
  obtain⟨q,hq,he⟩:=cP hp
  cases he
  obtain⟨v,h1,h2⟩:=zK (P:=P) Jd (r.map (opv E.GE st.tmps)) (r.map (Act.mk a ds).eval) _ _ (by simp) (hρ x) (uA hρ r) hq
  exact .quiet h ⟨v,by simp[execOp,ho,resolve,invoke,builtin,Builtin.min_,h1],h2⟩
 case h_27=>cases hp
end
def bJ(bs:ba)(ow:Nat->Option iD)(b:Nat):Prop:=(∃i:Nat,bs[i]? =some (some b))\/ow b≠none
def C(P:Program)(GE:List (Nat×List PVal))(f:FuncId)(args:List PVal)(oa:List ((Nat×Nat)×TypeId))(H:List aw)(r:PVal)(ro:List (Nat×TypeId))(H':List aw):Prop:=
 (∀vs w,(callFunc f vs).run P w=.ok (.enter f vs) w)/\
 ∀(Γ:aK) (bs:ba) (ow:Nat->Option iD) (w:World) (vs:Array Value),
  SR P ⟨GE,Γ,w,bJ bs ow⟩ Γ bs ow w vs ⟨args,H,oa⟩->
  Calls P f vs w fun e w'=>∃v Γ' ow',e=.returned v/\SR P ⟨GE,Γ,w,bJ bs ow⟩ Γ' bs ow' w' #[v] ⟨[r],H',ro.map fun x=>((0,x.1),x.2)⟩
section
variable{P:Program}{E:ma}{Γ:aK}{bs:ba}{ow:Nat->Option iD}{w:World}{a:Array Value}{st:aq}
theorem Mq.refl(GE:List (Nat×List PVal))(Γ:aK)(w:World)(T:Nat->Prop):Mq ⟨GE,Γ,w,T⟩ Γ w:=
 ⟨rfl,rfl,rfl,vaq _,fun _ _ _=>⟨rfl,rfl⟩,.refl _ _⟩
def Es(d:Nat)(owC ow:Nat->Option iD):Nat->Option iD:=fun b=>
 match owC b with
 |some (.tmp _ k)=>some (.tmp d k)
 |_=>ow b
theorem SR.setResult(h:SR P E Γ bs ow w a st){d:Nat}{r:PVal}{v:Value}(hd:d<a.size)(hv:VR Γ bs w r v){owC:Nat->Option iD}{ro:List (Nat×TypeId)}
  (hro:∀k e,(k,e)∈ro->∃v',gB v k=some v'/\fA P Γ w v' e/\∀b,v'.ownBlock=some b->owC b=some (.tmp 0 k))
  (hfree:∀b t k,owC b=some (.tmp t k)->ow b=none/\b<w.heap.size/\(E.T b\/E.w.heap.size<=b)):
  SR P E Γ bs (Es d owC ow) w (a.setIfInBounds d v) {st with tmps:=st.tmps.set d r,own:=(ro.map fun x=>((d,x.1),x.2))++bI d st.own}:=by
 have hs:=h.set (d:=d) (p:=r) hv
 have hkeep:∀b L,ow b=some L->Es d owC ow b=some L:=fun b L hL=>by
  unfold Es
  split
  ·rename_i t k hb;rw[(hfree b _ _ hb).1]at hL;cases hL
  ·exact hL
 exact{hs with
  on:=fun b L hL=>by
   unfold Es at hL
   split at hL
   ·rename_i t k hb;exact(hfree b _ _ hb).2
   ·exact h.on b L hL
  ot:=fun t k e he=>by
   rcases vaR.1 he with he|he
   ·simp only[van,Prod.mk.injEq]at he
    obtain⟨⟨k',e'⟩,hm,⟨rfl,rfl⟩,rfl⟩:=he
    obtain⟨v',h1,h2,h3⟩:=hro k' e' hm
    refine⟨v,v',by simp[hd],h1,h2,fun b hb=>?_⟩
    have:=h3 b hb
    simp[Es,this]
   ·obtain⟨u,v',h1,h2,h3,h4⟩:=hs.ot t k e he
    exact⟨u,v',h1,h2,h3,fun b hb=>hkeep b _ (h4 b hb)⟩
  ob:=fun i j e cs own b hB hj hb=>by
   obtain⟨v',h1,h3,h4⟩:=h.ob i j e cs own b hB hj hb
   exact⟨v',h1,h3,fun b' hb'=>hkeep b' _ (h4 b' hb')⟩}
theorem IB(h:SR P E Γ bs ow w a st){g:FuncId}{args:List PVal}{r:PVal}{ro:List (Nat×TypeId)}{vs:Array Value}{d:Nat}(hd:d<a.size)(hC:C P E.GE g args [] [] r ro [])
  (hl:vs.size=args.length) (hv:∀(i:Nat) p v,args[i]? =some p->vs[i]? =some v->VR Γ bs w p v) (hcl:hX 0 args):
  Calls P g vs w fun e w'=>∃v Γ' ow',e=.returned v/\SR P E Γ' bs ow' w' (a.setIfInBounds d v) {st with tmps:=st.tmps.set d r,own:=(ro.map fun x=>((d,x.1),x.2))++bI d st.own}/\Γ.Le w Γ' w':=by
 have hpre:SR P ⟨E.GE,Γ,w,bJ [] fun _=>none⟩ Γ [] (fun _=>none) w vs ⟨args,[],[]⟩:={
  wi:=h.wi
  sz:=hl
  tm:=fun t p v hp hv'=>(hv t p v hp hv').restrict (n:=0) (kg hcl hp) (fun i b hi _=>absurd hi (vaK _))
  bl:=rfl
  bx:=fun i b B hb=>by simp at hb
  inj:=fun i j b hb=>by simp at hb
  bn:=fun i b hb=>by simp at hb
  on:=fun b L hL=>by cases hL
  ot:=fun t k e he=>by simp at he
  ob:=fun i j e cs own b hB=>by simp at hB
  gl:=fun g cs hg=>(h.gl g cs hg).restrict (n:=0) (by simp only[PVal.cl];exact h.gc g cs hg) (fun i b hi _=>absurd hi (vaK _))
  gc:=h.gc
  gx:=fun g cs hg=>by
   obtain⟨k1,_,_,k4⟩:=h.gnow hg
   exact⟨k1,fun hT=>hT.elim (fun hx=>by obtain⟨i,hi⟩:=hx;simp at hi) (fun hx=>hx rfl),k4⟩
  step:=.refl _ _ _ _}
 refine(hC.2 Γ [] (fun _=>none) w vs hpre).mono fun e w' he=>?_
 obtain⟨v,Γ',owC,rfl,hS⟩:=he
 have hT:∀b,¬bJ [] (fun _=>none) b:=fun b hb=>by
  rcases hb with⟨i,hi⟩|hb
  ·simp at hi
  ·exact hb rfl
 have hle:Γ.Le w Γ' w':=hS.step.le
 have hw:=h.world (fun _=>False) hle hS.wi hS.step.os hS.step.tape hS.step.output hS.step.size (fun b hb _=>hS.step.keep b hb (hT b)) (fun _ hx=>hx.elim) (fun _ _ _ hx=>hx) (fun _ _ _ hx=>hx)
 have hr:VR Γ' bs w' r v:=(hS.tm 0 r v rfl rfl).mono (.refl _ _) (fun i b hb=>by simp at hb)
 refine⟨v,Γ',Es d owC ow,rfl,hw.setResult hd hr (fun k e hm=>?_) (fun b t k hb=>?_),hle⟩
 ·obtain⟨u,v',h1,h2,h3,h4⟩:=hS.ot 0 k e (van.2 ⟨(k,e),hm,rfl⟩)
  simp at h1;subst h1
  exact⟨v',h2,h3,h4⟩
 ·obtain⟨k1,k2⟩:=hS.on b _ hb
  have hge:w.heap.size<=b:=k2.resolve_left (hT b)
  refine⟨?_,k1,.inr (vaI h.step.size hge)⟩
  cases hL:ow b with
  |none=>rfl
  |some L=>have:=(h.on b L hL).1;omega
end
end Go.Proofs.YtggeppllafbidaaGreatDoor
