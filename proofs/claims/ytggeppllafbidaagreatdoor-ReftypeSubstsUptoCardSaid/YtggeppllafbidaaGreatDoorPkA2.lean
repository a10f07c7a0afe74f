/- PROVED: parts of the proof (AbsG AbsH AbsI AbsJ AbsK AbsL). Conditions: none. -/
import Derived.Test.YtggeppllafbidaaGreatDoorPkA1
noncomputable section
namespace Go.Proofs.YtggeppllafbidaaGreatDoor
open Go
def jm(P:Program)(t:TypeId)(x:PVal)(H:List ax):Option PVal:=
 match x with
 |.eptr cs=>ch P t cs
 |.bptr i off=>match H[i]? with
  |some (.cells cs _)=>ch P t (cs.drop off)
  |_=>none
 |_=>none
def cY(P:Program)(t:TypeId)(x v:PVal)(H:List ax):Option (List ax):=
 match x,bR v with
 | .bptr i off,some vs => match H[i]? with
  | some (.cells cs own) =>
   if vs.length=P.cellsOf t/\(P.info? t).isSome/\off+vs.length<=cs.length/\vs.all PVal.one then
    some (H.set i (.cells (cs.take off++vs++cs.drop (off+vs.length)) (own.filter fun y=>y.1<off||off+vs.length<=y.1)))
   else none
  |_=>none
 |_,_=>none
def iV(P:Program)(t:TypeId):Option (List PVal):=((P.info? t).bind (·.zero)).map fun z=>z.cells.toList.map absC
def iQ:Value->Bool
 |.slice none 0 0=>true
 |_=>false
def JV(P:Program)(t:TypeId):List (Nat×TypeId):=
 match(P.info? t).bind (·.zero),P.cellTypes P.depth t with
 | some z,some ts => (List.range z.cells.size).filterMap fun j =>
   match z.cells[j]?,(ts[j]?).bind P.underlying with
   |some v,some (.slice e)=>if iQ v then some (j,e)else none
   |_,_=>none
 |_,_=>[]
section
variable{P:Program}{E:nm}{Γ:aO}{bs:bg}{ow:Nat->Option jk}{w:World}{a:Array Value}{st:av}
theorem SR.box_cells(h:SR P E Γ bs ow w a st){i b:Nat}{cs:List PVal}{own:List (Nat×TypeId)}(hi:bs[i]? =some (some b))(hB:st.boxes[i]? =some (.cells cs own)):
  ∃c t,w.heap[b]? =some (.cells c t (0,0))/\cs.length<=c.size/\(∀(j:Nat) p v,cs[j]? =some p->c[j]? =some v->VR Γ bs w p v)/\∀j,w.cell? ⟨b,j,none⟩=c[j]?:=by
 obtain⟨_,_,c,t,h1,h2,h3⟩:=h.bx i b _ hi hB
 exact⟨c,t,h1,h2,h3,fun j=>cell_of_row w b j c t _ h1⟩
theorem BW(h:SR P E Γ bs ow w a st){t:TypeId}{x p:PVal}{vx:Value}(hx:VR Γ bs w x vx)(hp:jm P t x st.boxes=some p):
  ∃v,(Instr.loadAt t vx).run P w=.ok v w/\VR Γ bs w p v:=by
 unfold jm at hp
 split at hp
 ·cases hx with
  |eptrE b off=>
   obtain⟨v,hr,hv'⟩:=iY (w:=w) (Γ:=Γ) (bs:=bs) (b:=b) (off:=off) (vals:=fun _=>undef) hp (by simp) (by simp)
   exact⟨v,by simp[Instr.loadAt,Instr.sureAddr,hr],hv'⟩
  |eptr cs b off n vals hg hn hc hv=>
   obtain⟨v,hr,hv'⟩:=iY hp hc hv
   exact⟨v,by simp[Instr.loadAt,Instr.sureAddr,hr],hv'⟩
 ·rename_i i off
  split at hp
  ·rename_i cs own hB
   cases hx with
   | bptr i off b hi =>
    obtain⟨c,t',h1,h2,h3,h4⟩:=h.box_cells hi hB
    have hval:∀(k:Nat) q,(cs.drop off)[k]? =some q->w.cell? ⟨b,off+k,none⟩=some (c.getD (off+k) undef)/\VR Γ bs w q (c.getD (off+k) undef):=by
     intro k q hq
     rw[va8]at hq
     have hlt:off+k<c.size:=vaF (ak hq) h2
     have hc:c[off+k]? =some (c.getD (off+k) undef):=by simp[vav,hlt]
     exact⟨(h4 _).trans hc,h3 _ _ _ hq hc⟩
    obtain⟨v,hr,hv'⟩:=iY hp (vals:=fun k=>c.getD (off+k) undef) (fun k q hq=>(hval k q hq).1) (fun k q hq=>(hval k q hq).2)
    exact⟨v,by simp[Instr.loadAt,Instr.sureAddr,hr],hv'⟩
  ·cases hp
 ·cases hp
theorem gy{α:Type}{cs vs:List α}{off:Nat}(h:off+vs.length<=cs.length)(j:Nat):
  (cs.take off++vs++cs.drop (off+vs.length))[j]? =if j<off then cs[j]? else if j<off+vs.length then vs[j - off]? else cs[j]?:=by
 have hlen:(cs.take off).length=off:=by simp;omega
 by_cases h1:j<off
 ·rw[vbi,vac (by omega),vak h1,vaj h1]
 ·rw[van h1]
  by_cases h2:j<off+vs.length
  ·rw[vaj h2,vac (by simp;omega),vad (by omega),hlen]
  ·rw[van h2,vad (by simp;omega),va8]
   congr 1
   simp
   omega
theorem qA(w:World)(g:Nat)(cur cs:Array Value)(t:TypeId)(fr:Nat×Nat)(h:w.heap[g]? =some (.cells cur t fr)):(w.setRow g cs).heap[g]? =some (.cells cs t fr):=setRow_heap w g cur cs t fr h
theorem vQ(h:SR P E Γ bs ow w a st){t:TypeId}{x v:PVal}{vx vv:Value}{H:List ax}(hx:VR Γ bs w x vx)(hv:VR Γ bs w v vv)(hp:cY P t x v st.boxes=some H):
  ∃w',(Instr.storeAt t vx vv).run P w=.ok () w'/\SR P E Γ bs ow w' a {st with boxes:=H}/\Γ.Le w Γ w'/\
   ∀i off b,x=.bptr i off->bs[i]? =some (some b)->(∀(j:Nat) u,vv.cells[j]? =some u->w'.cell? ⟨b,off+j,none⟩=some u)/\∀b',b'≠b->w'.heap[b']? =w.heap[b']?:=by
 unfold cY at hp
 split at hp
 ·rename_i i off vs hvs
  split at hp
  ·rename_i cs own hB
   split at hp
   ·rename_i hc
    obtain⟨h1,hinf,h2,h3⟩:=hc
    obtain⟨inf,hinf⟩:=vaE.1 hinf
    cases hp
    cases hx with
    | bptr i off b hi =>
     obtain⟨c,t',e1,e2,e3,e4⟩:=h.box_cells hi hB
     obtain⟨k1,k2⟩:=hv.cells hvs
     have hone:∀u∈vv.cells.toList,u.oneCell'=true:=by
      intro u hu
      obtain⟨j,hj⟩:=vbe.1 hu
      have hj':vv.cells[j]? =some u:=by simpa using hj
      have hlt:j<vs.length:=by rw[<-k1];exact(vao.1 hj').1
      exact VR.one (k2 j _ u (vab hlt) hj') (vau.1 h3 _ (vaw hlt))
     have hst:=run_storeCells_at P b off t' vv.cells.toList 0 c w e1 (by simp;omega) hone
     simp only[Nat.add_zero,Array.length_toList]at hst
     have hsz:vv.cells.size=P.cellsOf t:=by omega
     refine⟨w.setRow b (c.toList.take off++vv.cells.toList++c.toList.drop (off+vv.cells.size)).toArray,?_,?_,?_,?_⟩
     ·simp[Instr.storeAt,Instr.sureAddr,storeVar,run_sizeOf w hinf,hsz,hst]
     ·have hheap:=qA w b c (c.toList.take off++vv.cells.toList++c.toList.drop (off+vv.cells.size)).toArray t' (0,0) e1
      refine h.box_write hi rfl rfl rfl (by simp) (fun b' hb'=>setRow_other w b b' _ hb') ?_ (fun b' L hL _=>hL) h.on ?_
      ·refine⟨_,t',hheap,?_,fun j p u hp hu=>?_⟩
       ·simp only[vbS,vas,vaR,vbL,Array.length_toList];omega
       ·have hu':(c.toList.take off++vv.cells.toList++c.toList.drop (off+vv.cells.toList.length))[j]? =some u:=by simpa using hu
        rw[gy h2]at hp
        rw[gy (by simp;omega)]at hu'
        have hmono:∀{q u},VR Γ bs w q u->VR Γ bs (w.setRow b (c.toList.take off++vv.cells.toList++c.toList.drop (off+vv.cells.size)).toArray) q u:=fun hq=>
         hq.mono (fun b' m hb' _=>⟨m,hb',var _,fun o _=>bF (setRow_other w b b' _ (fun e=>by subst e;have:=(h.bx i b' _ hi hB).1;rw[this]at hb';cases hb')) o⟩) (.refl _)
        by_cases hj:j<off
        ·rw[vaj hj]at hp hu'
         exact hmono (e3 j p u hp (by simpa using hu'))
        ·rw[van hj]at hp hu'
         by_cases hj2:j<off+vs.length
         ·rw[vaj hj2]at hp
          rw[vaj (by simp;omega)]at hu'
          exact hmono (k2 _ p u hp (by simpa using hu'))
         ·rw[van hj2]at hp
          rw[van (by simp;omega)]at hu'
          exact hmono (e3 j p u hp (by simpa using hu'))
      ·intro cs' own' heq j e hj
       cases heq
       obtain⟨hj,hj2⟩:=bY hj
       simp only[va4,vai]at hj2
       obtain⟨v',r1,r2,r3⟩:=h.ob i j e cs own b hB hj hi
       refine⟨v',?_,r2.same fun b' hb'=>⟨setRow_other w b b' _ (fun e=>?_),rfl⟩,r3⟩
       ·rw[cell_of_row _ b j _ t' _ hheap]
        have:=gy (cs:=c.toList) (vs:=vv.cells.toList) (off:=off) (by simp;omega) j
        simp only[Array.length_toList]at this
        simp only[vbn]
        rw[this]
        rw[e4]at r1
        split
        ·simpa using r1
        ·rw[van (by omega)];simpa using r1
       ·subst e
        obtain⟨n,xs,o1,o2⟩:=r2
        have:=(h.bx i b' _ hi hB).1
        rw[o2 b' hb']at this;cases this
     ·exact fun b' m hb' _=>⟨m,hb',var _,fun o _=>bF (setRow_other w b b' _ (fun e=>by subst e;have:=(h.bx i b' _ hi hB).1;rw[this]at hb';cases hb')) o⟩
     ·intro i2 off2 b2 hx2 hb2
      cases hx2
      have hbb:b2=b:=by rw[hi]at hb2;cases hb2;rfl
      subst hbb
      have hheap:=qA w b2 c (c.toList.take off++vv.cells.toList++c.toList.drop (off+vv.cells.size)).toArray t' (0,0) e1
      refine⟨fun j u hu=>?_,fun b' hb'=>setRow_other w b2 b' _ hb'⟩
      have hj:j<vv.cells.size:=(vao.1 hu).1
      rw[cell_of_row _ b2 (off+j) _ t' _ hheap]
      have:=gy (cs:=c.toList) (vs:=vv.cells.toList) (off:=off) (by simp;omega) (off+j)
      simp only[Array.length_toList]at this
      simp only[vbn]
      rw[this,van (by omega),vaj (by omega),show off+j - off=j by omega]
      simpa using hu
   ·cases hp
  ·cases hp
 ·cases hp
theorem FF(h:SR P E Γ bs ow w a st){t:TypeId}{x v:PVal}{vx vv:Value}{H:List ax}(hx:VR Γ bs w x vx)(hv:VR Γ bs w v vv)(hp:cY P t x v st.boxes=some H):
  ∃w',(Instr.storeAt t vx vv).run P w=.ok () w'/\SR P E Γ bs ow w' a {st with boxes:=H}/\Γ.Le w Γ w':=by
 obtain⟨w',r1,r2,r3,_⟩:=vQ h hx hv hp
 exact⟨w',r1,r2,r3⟩
end
def Fd(place:Nat->Option (Nat×Nat))(cells:List PVal):List (Nat×PVal)->Option (List PVal)
 |[]=>some cells
 |(i,v)::rest=>
  match place i,bR v with
  |some (off,size),some vs=>if vs.length=size/\off+vs.length<=cells.length then Fd place (cells.take off++vs++cells.drop (off+vs.length)) rest else none
  |_,_=>none
def df(P:Program)(t:TypeId)(parts:List (Nat×PVal)):Option PVal:=
 match P.underlying t,iV P t with
 |some (.struct fs),some zs=>if fs.all (fun f=>(P.info? f.type).isSome)then(Fd (fun i=>(fs[i]?).map fun f=>(f.offset,P.cellsOf f.type)) zs parts).map .agg else none
 |some (.array _ e),some zs=>if(P.info? e).isSome then(Fd (fun i=>some (i * P.cellsOf e,P.cellsOf e)) zs parts).map .agg else none
 |_,_=>none
def vG(sz:Nat):Nat->List (Nat×PVal)->Option (List (List PVal))
 |_,[]=>some []
 |k,(i,v)::rest=>
  match bR v,vG sz (k+1) rest with
  |some vs,some r=>if i=k/\vs.length=sz then some (vs::r)else none
  |_,_=>none
def d6(P:Program)(t:TypeId)(len:Nat)(parts:List (Nat×PVal)):Option PVal:=
 match P.underlying t with
 |some (.slice e)=>match vG (P.cellsOf e) 0 parts with
  |some es=>if es.length=len/\(iV P e).isSome/\0<P.cellsOf e/\len * P.cellsOf e<=16777216/\((iV P e).map (·.length))=some (P.cellsOf e)then some (.slice es)else none
  |none=>none
 |_=>none
def vI(P:Program)(t:TypeId)(x:PVal)(H:List ax):Option PVal:=
 match P.underlying t,x with
 |some .string,.str s=>some (.int .i64 s.length)
 |some (.slice _),.slice es=>some (.int .i64 es.length)
 |some (.slice _),.bsl _ _ n=>some (.int .i64 n)
 |some (.array n _),_=>some (.int .i64 n)
 |some (.map _ _),.mapr i=>match H[i]? with
  |some (.map es)=>some (.int .i64 es.length)
  |_=>none
 |_,_=>none
def LN:PVal->PVal->Option PVal
 |.int k x,.int _ y=>some (.int k (if y>x then y else x))
 |_,_=>none
def LO:PVal->PVal->Option PVal
 |.int k x,.int _ y=>some (.int k (if y<x then y else x))
 |_,_=>none
def CG(f:PVal->PVal->Option PVal):PVal->List PVal->Option PVal
 |x,[]=>some x
 |x,y::r=>match f x y with
  |some z=>CG f z r
  |none=>none
section
variable{P:Program}{E:nm}{Γ:aO}{bs:bg}{ow:Nat->Option jk}{w:World}{a:Array Value}{st:av}
theorem kJ{t:TypeId}{zs:List PVal}(h:iV P t=some zs):∃z,(zeroValue t).run P w=.ok z w/\zs=z.cells.toList.map absC/\(∃i,P.info? t=some i/\i.zero=some z):=by
 unfold iV at h
 simp only[vaI,vbg]at h
 obtain⟨z,⟨i,hi,hz⟩,rfl⟩:=h
 exact⟨z,by simp[zeroValue,run_typeInfo w hi,hz],rfl,i,hi,hz⟩
theorem IV{z:Value}(j:Nat)(p:PVal)(v:Value)(hp:(z.cells.toList.map absC)[j]? =some p)(hv:z.cells[j]? =some v):VR Γ bs w p v:=by
 simp only[vax,vaT,hv,vaf,vat]at hp
 subst hp;exact .absC v
theorem KT(h:SR P E Γ bs ow w a st){t:TypeId}{id:Nat}{zs:List PVal}(hid:bs[id]? =some none)(hz:iV P t=some zs):
  ∃v w',(Instr.alloc t true (.tuple #[])).run P w=.ok v w'/\SR P E Γ (bs.set id (some w.heap.size)) ow w' a {st with boxes:=st.boxes.set id (.cells zs (JV P t))}/\
   VR Γ (bs.set id (some w.heap.size)) w' (.bptr id 0) v/\bs.Sub (bs.set id (some w.heap.size))/\Γ.Le w Γ w':=by
 obtain⟨z,hr,rfl,i,hi,hz⟩:=kJ (w:=w) hz
 refine⟨.pointer (some ⟨w.heap.size,0,none⟩),w.alloc (.cells z.cells t),?_,?_,.bptr _ _ _ (vag (ak hid)),fun i b hb=>vY hid hb,
  fun b m hb _=>⟨m,hb,var _,fun o' _=>bF (da w _ (h.lt_of_ghost hb)) o'⟩⟩
 ·simp[Instr.alloc,hr,newVar,newRow]
 ·refine h.alloc_box hid _ _ (fun bs' _=>⟨z.cells,t,fJ w _,by simp,fun j p v hp hv=>IV j p v hp hv⟩) fun cs own heq j e hj=>?_
  cases heq
  unfold JV at hj
  split at hj
  ·rename_i z' ts hz' hts
   have:z'=z:=by simp[hi,hz]at hz';exact hz'.symm
   subst this
   simp only[vbO,vbs]at hj
   obtain⟨j',hj',hj''⟩:=hj
   split at hj''
   ·rename_i v' e' hv' he'
    split at hj''
    ·rename_i hn
     cases hj''
     have:v'=.slice none 0 0:=by
      unfold iQ at hn
      split at hn
      ·rfl
      ·cases hn
     subst this
     refine⟨_,?_,rfl,0,[],World.ownsRow_nil _ _ _ _,fun b hb=>by simp[Value.ownBlock]at hb⟩
     rw[cell_of_row _ _ _ _ t _ (fJ w _)]
     exact hv'
    ·cases hj''
   ·cases hj''
  ·cases hj
theorem Oa(h:SR P E Γ bs ow w a st){t:TypeId}{id:Nat}{x:PVal}{vx:Value}{cs:List PVal}(hid:bs[id]? =some none)(hx:VR Γ bs w x vx)(hc:bR x=some cs):
  ∃v w',(Instr.box t vx).run P w=.ok v w'/\SR P E Γ (bs.set id (some w.heap.size)) ow w' a {st with boxes:=st.boxes.set id (.cells cs [])}/\
   VR Γ (bs.set id (some w.heap.size)) w' (.bptr id 0) v/\bs.Sub (bs.set id (some w.heap.size))/\Γ.Le w Γ w':=by
 obtain⟨k1,k2⟩:=hx.cells hc
 have hle:∀o,Γ.Le w Γ (w.alloc o):=fun o b m hb _=>⟨m,hb,var _,fun o' _=>bF (da w _ (h.lt_of_ghost hb)) o'⟩
 refine⟨.pointer (some ⟨w.heap.size,0,none⟩),w.alloc (.cells vx.cells t),?_,?_,.bptr _ _ _ (vag (ak hid)),fun i b hb=>vY hid hb,hle _⟩
 ·simp[Instr.box,newVar,newRow]
 ·exact h.alloc_box hid _ _ (fun bs' hs=>⟨vx.cells,t,fJ w _,Nat.le_of_eq k1.symm,fun j p v hp hv=>(k2 j p v hp hv).mono (hle _) hs⟩) fun cs own heq j e hj=>by
   cases heq;simp at hj
theorem IC(h:SR P E Γ bs ow w a st){t:TypeId}{id:Nat}(hid:bs[id]? =some none):
  ∃v w',(Instr.makeMap t none).run P w=.ok v w'/\SR P E Γ (bs.set id (some w.heap.size)) ow w' a {st with boxes:=st.boxes.set id (.map [])}/\
   VR Γ (bs.set id (some w.heap.size)) w' (.mapr id) v/\bs.Sub (bs.set id (some w.heap.size))/\Γ.Le w Γ w':=by
 have hle:∀o,Γ.Le w Γ (w.alloc o):=fun o b m hb _=>⟨m,hb,var _,fun o' _=>bF (da w _ (h.lt_of_ghost hb)) o'⟩
 refine⟨.map (some w.heap.size),w.alloc (.map #[] 0),?_,?_,.mapr _ _ (vag (ak hid)),fun i b hb=>vY hid hb,hle _⟩
 ·simp[Instr.makeMap]
 ·exact h.alloc_box hid _ _ (fun bs' hs=>⟨#[],0,fJ w _,rfl,fun j k u x hp _=>by simp at hp⟩) fun cs own heq=>by cases heq
theorem wJ{place place':Nat->Option (Nat×Nat)}(hpl:∀i x,place i=some x->place' i=some x):∀(parts:List (Nat×PVal)) (vs:List (Nat×Value)) (cells:List PVal) (cv:Array Value) {out:List PVal},
  parts.length=vs.length->(∀(j:Nat) p v,parts[j]? =some p->vs[j]? =some v->p.1=v.1/\VR Γ bs w p.2 v.2)->
  cv.size=cells.length->(∀(j:Nat) p v,cells[j]? =some p->cv[j]? =some v->VR Γ bs w p v)->Fd place cells parts=some out->
  ∃ov,Instr.fill place' cv vs=some ov/\ov.size=out.length/\∀(j:Nat) p v,out[j]? =some p->ov[j]? =some v->VR Γ bs w p v
 |[],[],cells,cv,out,_,_,hs,hc,ho=>by
  simp only[Fd,vat]at ho
  subst ho
  exact⟨cv,rfl,hs,hc⟩
 |[],_::_,_,_,_,hl,_,_,_,_=>by simp at hl
 |_::_,[],_,_,_,hl,_,_,_,_=>by simp at hl
 | (i,p) :: rest,(i',v) :: vs,cells,cv,out,hl,hv,hs,hc,ho => by
  obtain⟨rfl,hpv⟩:=hv 0 (i,p) (i',v) rfl rfl
  simp only[Fd]at ho
  split at ho
  ·rename_i off size ps hpi hps
   split at ho
   ·rename_i hh
    obtain⟨h1,h2⟩:=hh
    obtain⟨k1,k2⟩:=VR.cells hpv hps
    replace k1:v.cells.size=ps.length:=k1
    have hfold:∀(l:List Value) (k:Nat) (cv:Array Value),off+k+l.length<=cv.size->
      ((l.zipIdx k).foldl (fun cs (c,j)=>cs.setIfInBounds (off+j) c) cv).toList=cv.toList.take (off+k)++l++cv.toList.drop (off+k+l.length):=by
     intro l
     induction l with
     |nil=>intro k cv _;simp
     | cons u l ih =>
      intro k cv hle
      simp only[List.zipIdx_cons,List.foldl_cons]
      simp only[vaS]at hle
      rw[ih (k+1) _ (by simp;omega)]
      apply vbc
      intro j
      rw[show off+(k+1)=off+k+1 from by omega]
      have e1:=gy (cs:=(cv.setIfInBounds (off+k) u).toList) (vs:=l) (off:=off+k+1) (by simp;omega) j
      have e2:=gy (cs:=cv.toList) (vs:=u::l) (off:=off+k) (by simp;omega) j
      simp only[vaS]at e2 ⊢
      rw[e1,e2]
      simp only[Array.toList_setIfInBounds,vbI]
      by_cases c1:j<off+k
      ·rw[vaj (by omega),vaj c1,van (by omega)]
      ·by_cases c2:j=off+k
       ·subst c2
        have a1:off+k<off+k+1:=by omega
        have a2:¬off+k<off+k:=by omega
        have a3:off+k<off+k+(l.length+1):=by omega
        have a4:off+k<cv.size:=by omega
        simp[a1,a3,a4]
       ·rw[van (by omega),van c1]
        by_cases c3:j<off+k+1+l.length
        ·rw[vaj c3,vaj (by omega),show j - (off+k)=(j - (off+k+1))+1 from by omega];simp
        ·rw[van c3,van (by omega),van (by omega)]
    have hcl:v.cells.toList.length=ps.length:=by simpa using k1
    have hsize:(v.cells.zipIdx.foldl (fun cs (c,j)=>cs.setIfInBounds (off+j) c) cv).size=(cells.take off++ps++cells.drop (off+ps.length)).length:=by
     have:=hfold v.cells.toList 0 cv (by simp;omega)
     have h3:=vbr List.length this
     rw[<-vcb]
     simp only[vb5]
     simp only[Array.length_toList]at h3
     rw[h3]
     simp
     omega
    have hcell:∀(j:Nat) q u,(cells.take off++ps++cells.drop (off+ps.length))[j]? =some q->
      (v.cells.zipIdx.foldl (fun cs (c,j)=>cs.setIfInBounds (off+j) c) cv)[j]? =some u->VR Γ bs w q u:=by
     intro j q u hq hu
     have:=hfold v.cells.toList 0 cv (by simp;omega)
     rw[<-vcb]at hu
     simp only[vb5]at hu
     rw[<-vaT,this]at hu
     simp only[Nat.add_zero]at hu
     rw[gy (by simp;omega)]at hu
     rw[gy h2]at hq
     simp only[hcl]at hu
     by_cases c1:j<off
     ·rw[vaj c1]at hq hu;exact hc j q u hq (by simpa using hu)
     ·rw[van c1]at hq hu
      by_cases c2:j<off+ps.length
      ·rw[vaj c2]at hq hu;exact k2 _ q u hq (by simpa using hu)
      ·rw[van c2]at hq hu;exact hc j q u hq (by simpa using hu)
    obtain⟨ov,r1,r2,r3⟩:=wJ hpl rest vs _ _ (by simpa using hl) (fun j p v hp hv'=>hv (j+1) p v (by simpa using hp) (by simpa using hv')) hsize hcell ho
    refine⟨ov,?_,r2,r3⟩
    simp only[Instr.fill,hpl _ _ hpi]
    rw[van (by simp;omega)]
    exact r1
   ·cases ho
  ·cases ho
end
def j6(kd:TypeDesc)(k:PVal):Bool:=match kd,k with|.string,.str _=>true|.int q,.int q' _=>decide (q=q')|_,_=>false
def B4(P:Program)(t:TypeId):Option PVal:=((P.info? t).bind (·.zero)).map absV
def IB:PVal->PVal->Option Bool
 |.str a,.str b=>some (a==b)
 |.int k a,.int k' b=>if k=k' then some (a==b)else none
 |_,_=>none
def vH(k:PVal):List (PVal×PVal)->Nat->Option (Option (Nat×PVal))
 |[],_=>some none
 |(x,v)::r,i=>match IB k x with
  |some true=>some (some (i,v))
  |some false=>vH k r (i+1)
  |none=>none
def qp(P:Program)(t:TypeId)(m k:PVal)(ok:Bool)(H:List ax):Option PVal:=
 match P.underlying t,m with
 | some (.map kt e),.mapr i => match H[i]?,P.underlying kt with
  | some (.map es),some kd =>
   if j6 kd k then
    match vH k es 0,B4 P e with
    |some (some (_,v)),_=>some (if ok then .tuple [v,.bool true]else v)
    |some none,some z=>some (if ok then .tuple [z,.bool false]else z)
    |_,_=>none
   else none
  |_,_=>none
 |_,_=>none
def eV(P:Program)(t:TypeId)(m k v:PVal)(H:List ax):Option (List ax):=
 match P.underlying t,m with
 | some (.map kt _),.mapr i => match H[i]?,P.underlying kt with
  | some (.map es),some kd =>
   if j6 kd k then
    match vH k es 0 with
    |some (some (j,_))=>some (H.set i (.map (es.set j (k,v))))
    |some none=>some (H.set i (.map (es++[(k,v)])))
    |none=>none
   else none
  |_,_=>none
 |_,_=>none
section
variable{P:Program}{E:nm}{Γ:aO}{bs:bg}{ow:Nat->Option jk}{w:World}{a:Array Value}{st:av}
theorem tF{t:TypeId}{parts:List (Nat×PVal)}{vs:List (Nat×Value)}{p:PVal}(hl:parts.length=vs.length)
  (hv:∀(j:Nat) p v,parts[j]? =some p->vs[j]? =some v->p.1=v.1/\VR Γ bs w p.2 v.2) (h:df P t parts=some p):
  ∃v,(Instr.build t vs.toArray).run P w=.ok v w/\VR Γ bs w p v:=by
 unfold df at h
 split at h
 ·rename_i fs zs ht hz
  obtain⟨z,hr,rfl,i,hi,hz'⟩:=kJ (w:=w) hz
  split at h
  ·rename_i hall
   simp only[vaI]at h
   obtain⟨out,ho,rfl⟩:=h
   have hplaces:∀(l:List Field),(∀f∈l,(P.info? f.type).isSome=true)->(l.mapM fun f=>do pure (f.offset,<-sizeOf f.type):Sem (List (Nat×Nat))).run P w=.ok (l.map fun f=>(f.offset,P.cellsOf f.type)) w:=by
    intro l hl
    induction l with
    |nil=>simp
    |cons f l ih=>
     obtain⟨inf,hinf⟩:=vaE.1 (hl f (by simp))
     have:=ih fun g hg=>hl g (by simp[hg])
     simp only[vbU,Sem.run_bind,run_sizeOf w hinf,Result.andThen_ok,this,Sem.run_pure,vaz]
   have hp:(fs.mapM fun f=>do pure (f.offset,<-sizeOf f.type):Sem (Array (Nat×Nat))).run P w=.ok (fs.map fun f=>(f.offset,P.cellsOf f.type)) w:=by
    rw[vce]
    simp only[Sem.run_map]
    rw[hplaces fs.toList fun f hf=>by
     have:=vbA.1 hall f (by simpa using hf)
     simpa using this]
    simp only[Result.andThen_ok]
    exact vbr (fun x=>Result.ok x w) (vbJ (by simp))
   obtain⟨ov,r1,r2,r3⟩:=wJ (place':=((fs.map fun f=>(f.offset,P.cellsOf f.type))[·]?)) (fun i x hx=>by simpa using hx) parts vs _ z.cells hl hv (by simp) (fun j p v hp hv=>IV j p v hp hv) ho
   refine⟨.agg ov,?_,.agg _ _ r2 r3⟩
   simp only[Instr.build,Sem.run_bind,hr,Result.andThen_ok,run_underlying ht,hp]
   rw[r1]
   simp
  ·cases h
 ·rename_i n e zs ht hz
  obtain⟨z,hr,rfl,i,hi,hz'⟩:=kJ (w:=w) hz
  split at h
  ·rename_i hinf
   obtain⟨inf,hinf⟩:=vaE.1 hinf
   simp only[vaI]at h
   obtain⟨out,ho,rfl⟩:=h
   obtain⟨ov,r1,r2,r3⟩:=wJ (fun i x hx=>hx) parts vs _ z.cells hl hv (by simp) (fun j p v hp hv=>IV j p v hp hv) ho
   refine⟨.agg ov,?_,.agg _ _ r2 r3⟩
   simp only[Instr.build,Sem.run_bind,hr,Result.andThen_ok,run_underlying ht,run_sizeOf w hinf]
   simp[r1]
  ·cases h
 ·cases h
theorem Ok(h:SR P E Γ bs ow w a st){t ty:TypeId}{x p:PVal}{vx:Value}(hx:VR Γ bs w x vx)(hp:vI P t x st.boxes=some p):
  ∃v,(Builtin.len_ #[t] ty #[vx]).run P w=.ok v w/\VR Γ bs w p v:=by
 unfold vI at hp
 split at hp
 ·rename_i s ht
  cases hp;cases hx
  have hsz:(ByteArray.mk s.toArray).size=s.length:=by show s.toArray.size=_;simp
  exact⟨.int .i64 s.length,by simp[Builtin.len_,run_underlying ht,goInt,hsz],.int _ _⟩
 ·rename_i e es ht
  cases hp
  cases hx with
  |sliceNil=>exact⟨.int .i64 0,by simp[Builtin.len_,run_underlying ht,goInt],.int _ _⟩
  |sliceE a cap=>exact⟨.int .i64 0,by simp[Builtin.len_,run_underlying ht,goInt],.int _ _⟩
  |slice es b off cap n sz vals hz0 hcap hg hn hsz hc hv=>exact⟨.int .i64 es.length,by simp[Builtin.len_,run_underlying ht,goInt],.int _ _⟩
 ·rename_i e bx off n ht
  cases hp
  cases hx with
  |bsl _ _ _ x cap hcap hnil hxb=>exact⟨.int .i64 n,by simp[Builtin.len_,run_underlying ht,goInt],.int _ _⟩
 ·rename_i n e ht
  cases hp
  exact⟨.int .i64 n,by simp[Builtin.len_,run_underlying ht,goInt],.int _ _⟩
 ·rename_i k e i ht
  split at hp
  ·rename_i es hB
   cases hp
   cases hx with
   |mapr i b hi=>
    obtain⟨_,_,ents,clock,h1,h2,_⟩:=h.bx i b _ hi hB
    refine⟨.int .i64 es.length,?_,.int _ _⟩
    have hg:(getObj b).run P w=.ok (.map ents clock) w:=by simp[getObj,Sem.run,h1]
    simp[Builtin.len_,run_underlying ht,hg,goInt,h2]
  ·cases hp
 ·cases hp
theorem MN{x y p:PVal}{vx vy:Value}(hx:VR Γ bs w x vx)(hy:VR Γ bs w y vy)(h:LN x y=some p):∃v,(Builtin.max2 vx vy).run P w=.ok v w/\VR Γ bs w p v:=by
 unfold LN at h
 split at h
 ·cases h;cases hx;cases hy
  exact⟨_,by simp[Builtin.max2],.int _ _⟩
 ·cases h
theorem MO{x y p:PVal}{vx vy:Value}(hx:VR Γ bs w x vx)(hy:VR Γ bs w y vy)(h:LO x y=some p):∃v,(Builtin.min2 vx vy).run P w=.ok v w/\VR Γ bs w p v:=by
 unfold LO at h
 split at h
 ·cases h;cases hx;cases hy
  exact⟨_,by simp[Builtin.min2],.int _ _⟩
 ·cases h
theorem BU{f:PVal->PVal->Option PVal}{g:Value->Value->Sem Value}(hfg:∀{x y p:PVal} {vx vy:Value},VR Γ bs w x vx->VR Γ bs w y vy->f x y=some p->∃v,(g vx vy).run P w=.ok v w/\VR Γ bs w p v):
  ∀(l:List PVal) (vs:List Value) (x:PVal) (vx:Value) {p:PVal},l.length=vs.length->VR Γ bs w x vx->(∀(j:Nat) p v,l[j]? =some p->vs[j]? =some v->VR Γ bs w p v)->CG f x l=some p->
  ∃v,(vs.foldlM g vx).run P w=.ok v w/\VR Γ bs w p v
 |[],[],x,vx,p,_,hx,_,h=>by simp only[CG,vat]at h;subst h;exact⟨vx,by simp,hx⟩
 |[],_::_,_,_,_,hl,_,_,_=>by simp at hl
 |_::_,[],_,_,_,hl,_,_,_=>by simp at hl
 | y :: l,vy :: vs,x,vx,p,hl,hx,hv,h => by
  simp only[CG]at h
  split at h
  ·rename_i z hz
   obtain⟨vz,r1,r2⟩:=hfg hx (hv 0 y vy rfl rfl) hz
   obtain⟨v,r3,r4⟩:=BU hfg l vs z vz (by simpa using hl) r2 (fun j p v hp hv'=>hv (j+1) p v (by simpa using hp) (by simpa using hv')) h
   exact⟨v,by simp[r1,r3],r4⟩
  ·cases h
end
section
variable{P:Program}{E:nm}{Γ:aO}{bs:bg}{ow:Nat->Option jk}{w:World}{a:Array Value}{st:av}
theorem Fb{sz:Nat}:∀(parts:List (Nat×PVal)) (k:Nat) {es:List (List PVal)},vG sz k parts=some es->
  es.length=parts.length/\(∀(i:Nat) e,es[i]? =some e->e.length=sz)/\∀(i:Nat) x,parts[i]? =some x->x.1=k+i/\bR x.2=es[i]?
 |[],k,es,h=>by
  simp only[vG,vat]at h;subst h
  exact⟨rfl,by simp,by simp⟩
 | (i,v) :: rest,k,es,h => by
  simp only[vG]at h
  split at h
  ·rename_i vs r hvs hr
   split at h
   ·rename_i hh
    obtain⟨rfl,hsz⟩:=hh
    cases h
    obtain⟨h1,h2,h3⟩:=Fb rest (i+1) hr
    refine⟨by simp[h1],fun j e hj=>?_,fun j x hj=>?_⟩
    ·cases j with
     |zero=>simp at hj;subst hj;exact hsz
     |succ j=>exact h2 j e (by simpa using hj)
    ·cases j with
     |zero=>simp at hj;subst hj;simp[hvs]
     |succ j=>
      obtain⟨a1,a2⟩:=h3 j x (by simpa using hj)
      exact⟨by omega,by simpa using a2⟩
   ·cases h
  ·cases h
theorem ED{sz:Nat}:∀(parts:List (Nat×Value)) (k:Nat) (cv:Array Value),(∀(i:Nat) x,parts[i]? =some x->x.1=k+i/\x.2.cells.size=sz)->(k+parts.length) * sz<=cv.size->
  ∃ov,Instr.fill (fun i=>some (i * sz,sz)) cv parts=some ov/\ov.size=cv.size/\(∀(o:Nat),o<k * sz->ov[o]? =cv[o]?)/\
   ∀(i:Nat) x (j:Nat),parts[i]? =some x->j<sz->ov[(k+i) * sz+j]? =x.2.cells[j]?
 |[],k,cv,_,_=>⟨cv,rfl,rfl,fun _ _=>rfl,by simp⟩
 | (i0,v) :: rest,k,cv,hp,hl => by
  obtain⟨h1,h2⟩:=hp 0 (i0,v) rfl
  simp only[Nat.add_zero]at h1
  subst h1
  simp only[vaS]at hl
  have hl':(i0+1+rest.length) * sz<=cv.size:=by rw[show i0+1+rest.length=i0+(rest.length+1)from by omega];exact hl
  have hkk:(i0+1) * sz<=(i0+1+rest.length) * sz:=vaM sz (by omega)
  rw[va0 i0 1,vbF]at hkk
  have hfold:∀(l:List Value) (m:Nat) (cv:Array Value),i0 * sz+m+l.length<=cv.size->
    ((l.zipIdx m).foldl (fun cs (c,j)=>cs.setIfInBounds (i0 * sz+j) c) cv).size=cv.size/\
    ∀o,((l.zipIdx m).foldl (fun cs (c,j)=>cs.setIfInBounds (i0 * sz+j) c) cv)[o]? =if i0 * sz+m<=o/\o<i0 * sz+m+l.length then l[o - (i0 * sz+m)]? else cv[o]?:=by
   intro l
   induction l with
   |nil=>intro m cv _;refine⟨by simp,fun o=>?_⟩;rw[van (by simp)];simp
   | cons u l ih =>
    intro m cv hle
    simp only[vaS]at hle
    simp only[List.zipIdx_cons,List.foldl_cons]
    obtain⟨e1,e2⟩:=ih (m+1) (cv.setIfInBounds (i0 * sz+m) u) (by simp;omega)
    refine⟨by rw[e1];simp,fun o=>?_⟩
    rw[e2 o]
    simp only[vaS]
    by_cases c1:o=i0 * sz+m
    ·subst c1
     rw[van (by omega),vaj (by omega)]
     have a4:i0 * sz+m<cv.size:=by omega
     simp[a4]
    ·have hne:(cv.setIfInBounds (i0 * sz+m) u)[o]? =cv[o]?:=vaQ (fun e=>c1 e.symm)
     rw[hne]
     by_cases c2:i0 * sz+(m+1)<=o/\o<i0 * sz+(m+1)+l.length
     ·rw[vaj c2,vaj (by omega),show o - (i0 * sz+m)=(o - (i0 * sz+(m+1)))+1 from by omega];simp
     ·rw[van c2,van (by omega)]
  have hcl:v.cells.toList.length=sz:=by simpa using h2
  obtain⟨f1,f2⟩:=hfold v.cells.toList 0 cv (by omega)
  have hconv:(v.cells.zipIdx.foldl (fun cs (c,j)=>cs.setIfInBounds (i0 * sz+j) c) cv)=(v.cells.toList.zipIdx.foldl (fun cs (c,j)=>cs.setIfInBounds (i0 * sz+j) c) cv):=by
   rw[<-vcb];simp only[vb5]
  rw[<-hconv]at f1 f2
  obtain⟨ov,r1,r2,r3,r4⟩:=ED rest (i0+1) (v.cells.zipIdx.foldl (fun cs (c,j)=>cs.setIfInBounds (i0 * sz+j) c) cv)
   (fun i x hx=>by
    have:=hp (i+1) x (by simpa using hx)
    exact⟨by omega,this.2⟩) (by rw[f1];exact hl')
  refine⟨ov,?_,r2.trans f1,fun o ho=>?_,fun i x j hx hj=>?_⟩
  ·have h2':v.cells.size=sz:=h2
   simp only[Instr.fill]
   rw[van (by simp;omega)]
   exact r1
  ·rw[r3 o (by rw[va0,vbF];omega),f2 o,van (by omega)]
  ·cases i with
   |zero=>
    simp at hx;subst hx
    rw[Nat.add_zero,r3 _ (by rw[va0,vbF];omega),f2,vaj (by omega)]
    simp
   |succ i=>
    have:=r4 i x j (by simpa using hx) hj
    rwa[show i0+1+i=i0+(i+1)from by omega]at this
theorem ua (h:SR P E Γ bs ow w a st) {t:TypeId} {len:Nat} {parts:List (Nat×PVal)} {vs:List (Nat×Value)} {p:PVal} (hl:parts.length = vs.length)
    (hv:∀(j:Nat) p v,parts[j]? =some p->vs[j]? =some v->p.1=v.1/\VR Γ bs w p.2 v.2) (hp:d6 P t len parts=some p):
    ∃ v w' Γ',(Instr.buildSlice t len vs.toArray).run P w = .ok v w'∧SR P E Γ' bs ow w' a st∧Γ.Le w Γ' w'∧VR Γ' bs w' p v ∧
      (∀e,P.underlying t=some (.slice e)->fQ P Γ' w' v e)/\∀b,v.ownBlock=some b->b=w.heap.size:=by
  unfold d6 at hp
  split at hp
  · rename_i e ht
    split at hp
    · rename_i es hes
      split at hp
      · rename_i hh
        obtain⟨h1,h2,h3,h4,h5⟩:=hh
        cases hp
        obtain⟨zs,hz⟩:=vaE.1 h2
        obtain⟨z,hr,rfl,i,hi,hz'⟩:=kJ (w:=w) hz
        have hzsz:z.cells.size=P.cellsOf e:=by rw[hz]at h5;simpa using h5
        obtain⟨g1,g2,g3⟩:=Fb parts 0 hes
        have hlen:parts.length=len:=by omega
        have hparts:∀(i:Nat) x,vs[i]? =some x->x.1=0+i/\x.2.cells.size=P.cellsOf e:=by
          intro i x hx
          have hi':i<parts.length:=by rw[hl];exact ak hx
          obtain⟨k1,k2⟩:=hv i _ x (vab hi') hx
          obtain⟨k3,k4⟩:=g3 i _ (vab hi')
          have hei:i<es.length:=by omega
          rw[vab hei]at k4
          have:=(VR.cells k2 k4).1
          rw[g2 i _ (vab hei)]at this
          exact⟨by rw[<-k1];exact k3,this⟩
        let c0:Array Value:=(Array.range (len * P.cellsOf e)).map (z.cells[·% z.cells.size]!)
        have hc0:c0.size=len * P.cellsOf e:=by simp[c0]
        obtain⟨ov,r1,r2,r3,r4⟩:=ED vs 0 c0 hparts (by rw[hc0,vaD];exact vaM _ (by omega))
        have hosz:ov.size=len * P.cellsOf e:=r2.trans hc0
        obtain⟨hSR,hle⟩:=h.alloc_imm ov e ov.size (var _)
        have hcell:∀o,(w.alloc (.cells ov e)).cell? ⟨w.heap.size,o,none⟩=ov[o]?:=fun o=>cell_of_row _ _ o ov e _ (fJ w _)
        refine⟨.slice (some ⟨w.heap.size,0,none⟩) len len,w.alloc (.cells ov e),_,?_,hSR,hle,?_,fun e' he'=>?_,fun b hb=>by simp[Value.ownBlock]at hb;exact hb.symm⟩
        · have hne:¬ (len * P.cellsOf e > 16777216):=by omega
          by_cases hz0:len * P.cellsOf e=0
          · have hlz:len = 0:=by
              rcases Nat.mul_eq_zero.1 hz0 with h0|h0
              ·exact h0
              ·omega
            subst hlz
            have hc:c0=#[]:=by apply vaY;rw[hc0];exact hz0
            rw[hc]at r1
            have hc':∀f:Nat->Value,(Array.range (0 * P.cellsOf e)).map f=#[]:=fun f=>by simp
            simp only[Instr.buildSlice,Sem.run_bind,run_underlying ht,Result.andThen_ok,run_sizeOf w hi]
            simp only[show(2:Nat) ^ 24=16777216 from rfl,van hne,vaj hz0,Sem.run_bind,Result.andThen_ok,Sem.run_pure,hc']
            rw[r1]
            simp[newRow]
          · simp only [Instr.buildSlice,Sem.run_bind,run_underlying ht,Result.andThen_ok,run_sizeOf w hi]
            simp only[show(2:Nat) ^ 24=16777216 from rfl,van hne,van hz0,Sem.run_bind,hr,Result.andThen_ok,Sem.run_pure]
            rw[show((Array.range (len * P.cellsOf e)).map (z.cells[·% z.cells.size]!))=c0 from rfl,r1]
            simp[newRow]
        · subst h1
          refine .slice es w.heap.size 0 es.length ov.size (P.cellsOf e) (fun i k=>(vs.getD i (0,undef)).2.cells.getD k undef) (by omega) (var _) (Γ.put_same _ _) (by rw[hosz];omega) g2 (fun i x k q hx hq=>?_) (fun i x k q hx hq=>?_)
          all_goals
            have hil:i<vs.length:=by have:=ak hx;omega
            have hip:i<parts.length:=by omega
            have hvi:vs[i]? =some vs[i]:=vab hil
            have hkl:k<P.cellsOf e:=by have:=ak hq;rw[g2 i x hx]at this;exact this
            have hks:k<(vs[i]).2.cells.size:=by rw[(hparts i _ hvi).2];exact hkl
          · rw [hcell,vaD]
            have:=r4 i _ k hvi hkl
            rw[vaD]at this
            rw[this]
            simp[vah,hil,vav,hks]
          · obtain ⟨k1,k2⟩:=hv i _ _ (vab hip) hvi
            obtain⟨k3,k4⟩:=g3 i _ (vab hip)
            rw[hx]at k4
            have:=(VR.cells k2 k4).2 k q ((vs[i]).2.cells[k]) hq (by simp[hks])
            have hfin:=this.mono hle (.refl _)
            simpa[vah,hil,vav,hks]using hfin
        · have:e' = e:=by rw [ht] at he'; cases he'; rfl
          subst this
          refine⟨len,ov.toList,⟨by simp[hosz],.inr ⟨w.heap.size,len,ov,rfl,vaJ _,fJ w _,var _,?_,hosz,by rw[<-hosz,<-Array.length_toList,vb0]⟩⟩,fun b hb=>?_⟩
          · have:len * 1 ≤ len * P.cellsOf e':=vcF _ h3
            unfold maxLen;omega
          · simp [Value.ownBlock] at hb
            subst hb
            rw[Γ.put_same,hosz]
      ·cases hp
    ·cases hp
  ·cases hp
end
def dB:Nat:=1073741824
def iv(P:Program)(t:TypeId)(es ns:List (List PVal)):Option PVal:=
 match P.underlying t with
 |some (.slice e)=>if es.length+ns.length<=dB/\P.bytesOf e<=65536/\0<P.cellsOf e/\(iV P e).map (·.length)=some (P.cellsOf e)/\(∀x∈es,x.length=P.cellsOf e)/\(∀x∈ns,x.length=P.cellsOf e/\∀q∈x,q.one=true)then some (.slice (es++ns))else none
 |_=>none
section
variable{P:Program}{E:nm}{Γ:aO}{bs:bg}{ow:Nat->Option jk}{w:World}{a:Array Value}{st:av}
theorem zK{t ty e:TypeId}{i:TypeInfo}{z:Value}{size:Nat}(ht:P.underlying t=some (.slice e))(hi:P.info? e=some i)(hz:i.zero=some z)
    (hsize:i.size=size) (hzs:z.cells.size=size) (hsz:0<size) {v:Value} {n:Nat} {xs:List Value} (hown:w.ownsRow 0 e size v n xs)
    {x:Value} {m:Nat} {news:List Value} (hx:(x=.slice none 0 0/\m=0)\/∃a c,x=.slice (some a) m c/\∀(j:Nat) u,news[j]? =some u->w.cell? (a.add j)=some u)
    (hl:news.length=m * size) (h1:∀u∈news,u.oneCell'=true) (h63:n+m<=maxLen) (hbytes:(n+m) * i.bytes<=140737488355328):
    ∃ v' w',(Builtin.append_ #[t,t] ty #[v,x]).run P w = .ok v' w' ∧
      ((v'=v/\w'=w/\m=0)\/
       (∃ g cap cur,v = .slice (some ⟨g,0,none⟩) n cap∧w.heap[g]? = some (.cells cur e (0,0))∧cur.size = cap * size∧cap ≤ maxLen∧cur.toList.take (n * size) = xs∧n + m ≤ cap ∧
          v'=.slice (some ⟨g,0,none⟩) (n+m) cap/\w'=w.setRow g (cur.toList.take (n * size)++news++cur.toList.drop (n * size+news.length)).toArray)\/
       (∃cap rest,n+m<=cap/\cap<=maxLen/\rest.length=(cap - (n+m)) * size/\v'=.slice (some ⟨w.heap.size,0,none⟩) (n+m) cap/\w'=w.drew.alloc (.cells (xs++news++rest).toArray e))):=by
  subst hsize
  have hsmall:n+m<=9223372036854775807:=by simp only[maxLen]at h63;omega
  rcases hx with⟨rfl,rfl⟩|⟨a,c,rfl,hnews⟩
  · refine ⟨v,w,?_,.inl ⟨rfl,rfl,rfl⟩⟩
    rcases hown.2 with⟨rfl,rfl⟩|⟨g,cap,cur,rfl,_,hg,hnc,hcm,hcs,htake⟩
    ·simp[Builtin.append_,run_underlying ht,sizeOf,typeInfo,hi,Builtin.lenOf,Builtin.firstCells]
    ·simp[Builtin.append_,run_underlying ht,sizeOf,typeInfo,hi,Builtin.lenOf,Builtin.firstCells,hnc,storeCells]
  · have hgrow:∀ old,n + m ≤ grownCap w (n + m) old e∧grownCap w (n + m) old e ≤ maxLen∧(Builtin.zeroCells z.cells (grownCap w (n + m) old e - (n + m))).toList.length = (grownCap w (n + m) old e - (n + m)) * i.size:=fun old =>
      ⟨grownCap_ge w (n+m) old e,grownCap_le_maxLen w (n+m) old e h63,by simp[size_zeroCells,hzs]⟩
    rcases hown.2 with⟨rfl,rfl⟩|⟨g,cap,cur,rfl,_,hg,hnc,hcm,hcs,htake⟩
    · have hxs:xs = []:=vam (by simpa using hown.1)
      subst hxs
      by_cases hm:m=0
      · subst hm
        have hn:news=[]:=vam (by simpa using hl)
        subst hn
        refine⟨.slice none 0 0,w,?_,.inl ⟨rfl,rfl,rfl⟩⟩
        simp[Builtin.append_,run_underlying ht,sizeOf,typeInfo,hi,Builtin.lenOf,Builtin.firstCells,loadCells,loadCellsFrom]
      · have hr:=run_append_nil (P:=P) w t ty e i z ht hi hz a m c news hl hnews (by omega) (by omega) (by rw [vaD] at hbytes; omega)
        obtain⟨g1,g2,g3⟩:=hgrow 0
        rw[vaD]at g1 g2 g3
        refine⟨_,_,hr,.inr (.inr ⟨_,(Builtin.zeroCells z.cells (grownCap w m 0 e - m)).toList,by rw[vaD];exact g1,g2,by rw[vaD];exact g3,by rw[vaD],?_⟩)⟩
        congr 2
        apply vbJ;simp
    · by_cases hroom:n + m ≤ cap
      · have hfit:n * i.size + news.length ≤ cur.size:=by rw [hl,hcs,← va0]; exact vaM _ hroom
        have hr:=run_append_room (P:=P) w t ty e i ht hi g n cap cur hg a m c news hl hnews h1 hroom hfit
        exact⟨_,_,hr,.inr (.inl ⟨g,cap,cur,rfl,hg,hcs,hcm,htake,hroom,rfl,rfl⟩)⟩
      · have holds:∀ (j:Nat) u,xs[j]? = some u→w.cell? ((⟨g,0,none⟩:Addr).add j) = some u:=hown.cells (g:=g) rfl
        have hr:=run_append_grow (P:=P) w t ty e i z ht hi hz ⟨g,0,none⟩ n cap xs hown.1 holds a m c news hl hnews (by omega) (by omega) (growslice_fits (by omega) hbytes)
        obtain⟨g1,g2,g3⟩:=hgrow cap
        refine⟨_,_,hr,.inr (.inr ⟨_,(Builtin.zeroCells z.cells (grownCap w (n+m) cap e - (n+m))).toList,g1,g2,g3,rfl,?_⟩)⟩
        congr 2
        apply vbJ;simp
theorem BF{sz q:Nat}(h:0<sz):q=q / sz * sz+q % sz/\q % sz<sz:=⟨by rw[vcM];exact(Nat.div_add_mod q sz).symm,Nat.mod_lt _ h⟩
theorem tP{es:List (List PVal)}{b cap N size:Nat}{cur:Array Value}{e:TypeId}{fr:Nat×Nat}(hb:w.heap[b]? =some (.cells cur e fr))(hg:Γ b=some N)(hN:es.length * size<=N)(hs0:0<size)(hcap:es.length<=cap)
  (hsz:∀(i:Nat) x,es[i]? =some x->x.length=size)
  (hc:∀(i:Nat) x (k:Nat) q,es[i]? =some x->x[k]? =some q->∃u,cur[i * size+k]? =some u/\VR Γ bs w q u):
  VR Γ bs w (.slice es) (.slice (some ⟨b,0,none⟩) es.length cap):=by
 refine .slice es b 0 cap N size (fun i k=>cur.getD (i * size+k) undef) hs0 hcap hg (by omega) hsz (fun i x k q hx hq=>?_) (fun i x k q hx hq=>?_)
 all_goals
  obtain⟨u,h1,h2⟩:=hc i x k q hx hq
  have hu:cur.getD (i * size+k) undef=u:=by rw[vav,h1];rfl
  rw[hu]
 ·rw[vaD,cell_of_row w b _ cur e fr hb,h1]
 ·exact h2
theorem JI(h:SR P E Γ bs ow w a st){t ty e:TypeId}{es ns:List (List PVal)}{p:PVal}{v x:Value}(ht:P.underlying t=some (.slice e))(hv:VR Γ bs w (.slice es) v)(hx:VR Γ bs w (.slice ns) x)
  (ho:fQ P Γ w v e) (hfree:∀b,v.ownBlock=some b->ow b=none/\(E.T b\/E.w.heap.size<=b)) (hp:iv P t es ns=some p):
  ∃v' w' Γ',(Builtin.append_ #[t,t] ty #[v,x]).run P w=.ok v' w'/\SR P E Γ' bs ow w' a st/\Γ.Le w Γ' w'/\VR Γ' bs w' p v'/\fQ P Γ' w' v' e/\
   ∀b,v'.ownBlock=some b->ow b=none/\(E.T b\/E.w.heap.size<=b):=by
 unfold iv at hp
 rw[ht]at hp
 simp only at hp
 split at hp
 case isFalse=>cases hp
 rename_i hh
 obtain⟨hlen,hby,hsz0,hzl,hes1,hns1⟩:=hh
 cases hp
 have hz:∃zs,iV P e=some zs/\zs.length=P.cellsOf e:=by simpa using hzl
 obtain⟨zs,hz,hzl⟩:=hz
 obtain⟨z,hr,rfl,i,hi,hz'⟩:=kJ (w:=w) hz
 have hisz:i.size=P.cellsOf e:=by simp[Program.cellsOf,hi]
 have hiby:i.bytes=P.bytesOf e:=by simp[Program.bytesOf,hi]
 obtain⟨n,xs,hown,hgh⟩:=ho
 have hxsl:xs.length=n * P.cellsOf e:=hown.1
 have hesz:∀(i:Nat) x,es[i]? =some x->x.length=P.cellsOf e:=fun i x hx=>hes1 x (vay hx)
 have hnsz:∀(i:Nat) x,ns[i]? =some x->x.length=P.cellsOf e:=fun i x hx=>(hns1 x (vay hx)).1
 have hes:es.length=n/\∀(i:Nat) x (k:Nat) q,es[i]? =some x->x[k]? =some q->∃u,xs[i * P.cellsOf e+k]? =some u/\VR Γ bs w q u:=by
  rcases hown.2 with⟨rfl,rfl⟩|⟨g,cap,cur,rfl,_,hg,hnc,hcm,hcs,htake⟩
  ·cases hv
   exact⟨rfl,by simp⟩
  ·cases hv with
   |sliceE a cap=>exact⟨rfl,by simp⟩
   | slice es b off cap n' sz vals hz0 hcap hgg hn hsz hc hvv =>
    refine⟨rfl,fun i x k q hx hq=>⟨vals i k,?_,hvv i x k q hx hq⟩⟩
    have hsz':sz=P.cellsOf e:=by rw[<-hsz i x hx];exact hesz i x hx
    subst hsz'
    have hcell:=hc i x k q hx hq
    rw[vaD,cell_of_row w g _ cur e _ hg]at hcell
    rw[<-htake,vak]
    ·simpa using hcell
    ·have:=Im (ak hx) (show k<P.cellsOf e by have:=ak hq;rw[hesz i x hx]at this;exact this)
     exact this
 have hnew:∃news:List Value,((x=.slice none 0 0/\ns.length=0)\/∃a c,x=.slice (some a) ns.length c/\∀(j:Nat) u,news[j]? =some u->w.cell? (a.add j)=some u)/\
   news.length=ns.length * P.cellsOf e/\(∀u∈news,u.oneCell'=true)/\
   ∀(i:Nat) x (k:Nat) q,ns[i]? =some x->x[k]? =some q->∃u,news[i * P.cellsOf e+k]? =some u/\VR Γ bs w q u:=by
  cases hx with
  |sliceNil=>exact⟨[],.inl ⟨rfl,rfl⟩,by simp,by simp,by simp⟩
  |sliceE a cap=>exact⟨[],.inr ⟨a,cap,rfl,by simp⟩,by simp,by simp,by simp⟩
  | slice ns b off cap n' sz vals hz0 hcap hgg hn hsz hc hvv =>
   have hcell:∀(i:Nat) x (k:Nat) q,ns[i]? =some x->x[k]? =some q->w.cell? ⟨b,off+(i * P.cellsOf e+k),none⟩=some (vals i k):=by
    intro i x k q hx hq
    have hsz':sz=P.cellsOf e:=by rw[<-hsz i x hx];exact hnsz i x hx
    subst hsz'
    rw[<-vb3];exact hc i x k q hx hq
   have hpos:∀o,o<ns.length * P.cellsOf e->∃x q,ns[o / P.cellsOf e]? =some x/\x[o % P.cellsOf e]? =some q/\o=o / P.cellsOf e * P.cellsOf e+o % P.cellsOf e:=by
    intro o ho
    obtain⟨m1,m2⟩:=BF (q:=o) hsz0
    have hlt:o / P.cellsOf e<ns.length:=(vcu hsz0).2 ho
    have hxl:=hnsz _ _ (vab hlt)
    exact⟨_,_,vab hlt,vab (by rw[hxl];exact m2),m1⟩
   refine⟨(List.range (ns.length * P.cellsOf e)).map fun o=>vals (o / P.cellsOf e) (o % P.cellsOf e),.inr ⟨⟨b,off,none⟩,cap,rfl,fun j u hu=>?_⟩,by simp,fun u hu=>?_,fun i x k q hx hq=>⟨vals i k,?_,hvv i x k q hx hq⟩⟩
   ·rw[vax]at hu
    have hj:j<ns.length * P.cellsOf e:=by
     by_cases hj:j<ns.length * P.cellsOf e
     ·exact hj
     ·rw[vaA (by simp;omega)]at hu;cases hu
    rw[vbt hj]at hu
    simp only[vaf,vat]at hu
    subst hu
    obtain⟨x,q,k1,k2,k3⟩:=hpos j hj
    have:=hcell _ _ _ _ k1 k2
    rw[<-k3]at this
    rw[Addr.add_lit];exact this
   ·simp only[vaq,vbs]at hu
    obtain⟨o,ho,rfl⟩:=hu
    obtain⟨x,q,k1,k2,k3⟩:=hpos o ho
    exact VR.one (hvv _ _ _ _ k1 k2) ((hns1 x (vay k1)).2 q (vay k2))
   ·have hk:k<P.cellsOf e:=by have:=ak hq;rw[hnsz i x hx]at this;exact this
    have hlt:=Im (ak hx) hk
    rw[vax,vbt hlt]
    simp only[vaf,vat]
    rw[vcM i,Nat.mul_add_div hsz0,vcq hk,Nat.mul_add_mod,vb1 hk,Nat.add_zero]
 obtain⟨hesn,hesv⟩:=hes
 obtain⟨news,hnx,hnl,hn1,hnv⟩:=hnew
 have happ:(n+ns.length) * P.cellsOf e=n * P.cellsOf e+ns.length * P.cellsOf e:=va0 _ _ _
 have fin:∀{Γ':aO} {w':World} {b cap:Nat} {cur:Array Value} {fr:Nat×Nat},w'.heap[b]? =some (.cells cur e fr)->Γ' b=some ((n+ns.length) * P.cellsOf e)->n+ns.length<=cap->
   cur.toList.take ((n+ns.length) * P.cellsOf e)=xs++news->Γ.Le w Γ' w'->VR Γ' bs w' (.slice (es++ns)) (.slice (some ⟨b,0,none⟩) (n+ns.length) cap):=by
  intro Γ' w' b cap cur fr hb hg hcap htk hle
  have hl:(es++ns).length=n+ns.length:=by rw[vas,hesn]
  rw[<-hl]
  have hget:∀(o:Nat) u,(xs++news)[o]? =some u->cur[o]? =some u:=by
   intro o u hu
   rw[<-htk]at hu
   have ho:o<(n+ns.length) * P.cellsOf e:=by have:=ak hu;simp at this;omega
   rw[vak ho]at hu
   simpa using hu
  refine tP hb hg (by rw[hl];exact var _) hsz0 (by omega) (fun i x hx=>?_) (fun i x k q hx hq=>?_)
  ·rcases vaB.1 (vay hx)with hm|hm
   ·exact hes1 x hm
   ·exact(hns1 x hm).1
  ·by_cases hi:i<es.length
   ·rw[vac hi]at hx
    obtain⟨u,k1,k2⟩:=hesv i x k q hx hq
    refine⟨u,hget _ _ ?_,k2.mono hle (.refl _)⟩
    rw[vac (ak k1)];exact k1
   ·rw[vad (by omega)]at hx
    obtain⟨u,k1,k2⟩:=hnv _ x k q hx hq
    refine⟨u,hget _ _ ?_,k2.mono hle (.refl _)⟩
    have:i * P.cellsOf e+k=n * P.cellsOf e+((i - es.length) * P.cellsOf e+k):=by
     rw[<-vb3,<-va0];congr 2;omega
    rw[vad (by omega),show i * P.cellsOf e+k - xs.length=(i - es.length) * P.cellsOf e+k from by omega]
    exact k1
 have hmax:n+ns.length<=maxLen:=by unfold maxLen;unfold dB at hlen;omega
 have hbytes:(n+ns.length) * i.bytes<=140737488355328:=by
  rw[hiby]
  have:(n+ns.length) * P.bytesOf e<=1073741824 * 65536:=vcC (by unfold dB at hlen;omega) hby
  omega
 obtain⟨v',w',hrun,hcase⟩:=zK (ty:=ty) ht hi hz' hisz (by simpa using hzl) hsz0 hown hnx hnl hn1 hmax hbytes
 rcases hcase with⟨rfl,rfl,hm0⟩|⟨g,cap,cur,rfl,hg,hcs,hcm,htake,hroom,rfl,rfl⟩|⟨cap,rest,g1,g2,g3,rfl,rfl⟩
 ·have hns0:ns=[]:=vam hm0
  subst hns0
  exact⟨v',w',Γ,hrun,h,.refl _ _,by simpa using hv,⟨n,xs,hown,hgh⟩,hfree⟩
 ·
  have hgn:Γ g=some (n * P.cellsOf e):=hgh g rfl
  have hfit:n * P.cellsOf e+news.length<=cur.toList.length:=by
   have hcl:cur.toList.length=cur.size:=by simp
   rw[hcl,hcs,hnl,<-va0];exact vaM _ hroom
  have hheap:=qA w g cur (cur.toList.take (n * P.cellsOf e)++news++cur.toList.drop (n * P.cellsOf e+news.length)).toArray e (0,0) hg
  have hsame:∀o,o<n * P.cellsOf e->(w.setRow g (cur.toList.take (n * P.cellsOf e)++news++cur.toList.drop (n * P.cellsOf e+news.length)).toArray).cell? ⟨g,o,none⟩=w.cell? ⟨g,o,none⟩:=by
   intro o ho
   rw[cell_of_row _ g o _ e _ hheap,cell_of_row w g o cur e _ hg]
   simp only[vbn]
   rw[gy hfit,vaj ho]
   simp
  have hle:Γ.Le w (Γ.put g ((n+ns.length) * P.cellsOf e)) (w.setRow g (cur.toList.take (n * P.cellsOf e)++news++cur.toList.drop (n * P.cellsOf e+news.length)).toArray):=by
   intro b m hb _
   by_cases hbg:b=g
   ·subst hbg
    rw[hgn]at hb;cases hb
    exact⟨_,Γ.put_same _ _,by omega,hsame⟩
   ·exact⟨m,(Γ.put_other hbg).trans hb,var _,fun o _=>bF (setRow_other w g b _ hbg) o⟩
  have hsz1:((cur.toList.take (n * P.cellsOf e)++news++cur.toList.drop (n * P.cellsOf e+news.length)).toArray).size=cur.size:=by
   simp only[vbS,vas,vaR,vbL,Array.length_toList]at hfit ⊢;omega
  have htk:((cur.toList.take (n * P.cellsOf e)++news++cur.toList.drop (n * P.cellsOf e+news.length)).toArray).toList.take ((n+ns.length) * P.cellsOf e)=xs++news:=by
   rw[htake,happ,<-hnl,<-hxsl,<-vas]
   exact vcf
  have hSR:=h.world (fun b=>b=g) hle (fun b m hb=>?_) rfl rfl rfl (by simp) (fun b _ hbg=>⟨setRow_other w g b _ hbg,Γ.put_other hbg⟩) (fun b hb=>by subst hb;exact(hfree b rfl).2)
   (fun i b hb hbg=>?_) (fun b L hL hbg=>by subst hbg;rw[(hfree b rfl).1]at hL;cases hL)
  ·refine⟨_,_,_,hrun,hSR,hle,fin hheap (Γ.put_same _ _) hroom htk hle,⟨n+ns.length,xs++news,⟨by rw[vas,hxsl,hnl,happ],.inr ⟨g,cap,_,rfl,vaJ _,hheap,hroom,hcm,by rw[hsz1,hcs],htk⟩⟩,fun b hb=>?_⟩,fun b hb=>?_⟩
   ·simp[Value.ownBlock]at hb;subst hb;exact Γ.put_same _ _
   ·exact hfree b (by simpa[Value.ownBlock]using hb)
  ·by_cases hbg:b=g
   ·subst hbg
    rw[Γ.put_same]at hb;cases hb
    refine⟨_,_,_,hheap,?_⟩
    rw[hsz1,hcs];exact vaM _ hroom
   ·rw[Γ.put_other hbg]at hb
    obtain⟨c,t',fr,k1,k2⟩:=h.wi b m hb
    exact⟨c,t',fr,(setRow_other w g b _ hbg).trans k1,k2⟩
  ·subst hbg
   have:=(h.bx i b (st.boxes[i]'(by rw[<-h.bl];exact ak hb)) hb (by simp)).1
   rw[hgn]at this;cases this
 ·
  have hcs:(xs++news++rest).toArray.size=cap * P.cellsOf e:=by
   simp only[vbS,vas,hxsl,hnl,g3,<-va0];congr 1;omega
  obtain⟨hSR,hle⟩:=h.drew.alloc_imm (xs++news++rest).toArray e ((n+ns.length) * P.cellsOf e) (by rw[hcs];exact vaM _ g1)
  have hle':Γ.Le w (Γ.put w.heap.size ((n+ns.length) * P.cellsOf e)) (w.drew.alloc (.cells (xs++news++rest).toArray e)):=hle
  have hheap:(w.drew.alloc (.cells (xs++news++rest).toArray e)).heap[w.heap.size]? =some (.cells (xs++news++rest).toArray e (0,0)):=fJ w.drew _
  have htk:((xs++news++rest).toArray).toList.take ((n+ns.length) * P.cellsOf e)=xs++news:=by
   rw[happ,<-hnl,<-hxsl,<-vas]
   exact vcf
  refine⟨_,_,_,hrun,hSR,hle',fin hheap (Γ.put_same _ _) g1 htk hle',⟨n+ns.length,xs++news,⟨by rw[vas,hxsl,hnl,happ],.inr ⟨w.heap.size,cap,_,rfl,vaJ _,hheap,g1,g2,hcs,htk⟩⟩,fun b hb=>?_⟩,fun b hb=>?_⟩
  ·simp[Value.ownBlock]at hb;subst hb;exact Γ.put_same _ _
  ·simp[Value.ownBlock]at hb;subst hb
   refine⟨?_,.inr h.step.size⟩
   cases hL:ow w.heap.size with
   |none=>rfl
   |some L=>exact absurd (h.on _ L hL).1 (vbN _)
end
section
variable{P:Program}{E:nm}{Γ:aO}{bs:bg}{ow:Nat->Option jk}{w:World}{a:Array Value}{st:av}
theorem Mc(a b:List UInt8):((ByteArray.mk a.toArray)==(ByteArray.mk b.toArray))=(a==b):=by
 show(a.toArray==b.toArray)=_
 simp
theorem FT{kd:TypeDesc}{k x:PVal}{vk vx:Value}{t:Bool}(hk:VR Γ bs w k vk)(hx:VR Γ bs w x vx)(hkd:j6 kd k=true)(h:IB k x=some t):Instr.sameNow kd vk vx=some t:=by
 unfold IB at h
 split at h
 ·cases h;cases hk;cases hx
  cases kd<;>simp[j6]at hkd
  simp only[Instr.sameNow,Mc]
 ·split at h
  ·rename_i hkk;subst hkk
   cases h;cases hk;cases hx
   cases kd<;>simp[j6]at hkd
   simp[Instr.sameNow]
  ·cases h
 ·cases h
theorem ph{kd:TypeDesc}{k:PVal}{vk:Value}(hk:VR Γ bs w k vk)(hkd:j6 kd k=true):∀(es:List (PVal×PVal)) (ents:List MapEntry) (i:Nat) {r:Option (Nat×PVal)},es.length=ents.length->
  (∀(j:Nat) kx u x,es[j]? =some (kx,u)->ents[j]? =some x->VR Γ bs w kx x.key/\VR Γ bs w u x.val)->vH k es i=some r->
  match r with
  |none=>Instr.findNow kd vk ents i=some none
  |some (j,u)=>∃v x,Instr.findNow kd vk ents i=some (some (j,v))/\VR Γ bs w u v/\i<=j/\ents[j - i]? =some x/\x.val=v/\Instr.sameNow kd vk x.key=some true/\j - i<es.length
 |[],[],i,r,_,_,h=>by simp only[vH,vat]at h;subst h;rfl
 |[],_::_,_,_,hl,_,_=>by simp at hl
 |_::_,[],_,_,hl,_,_=>by simp at hl
 | (kx,u) :: es,x :: ents,i,r,hl,hv,h => by
  obtain⟨h1,h2⟩:=hv 0 kx u x rfl rfl
  simp only[vH]at h
  split at h
  ·rename_i hq
   cases h
   have:=FT hk h1 hkd hq
   exact⟨x.val,x,by simp[Instr.findNow,this],h2,var _,by simp,rfl,this,by simp⟩
  ·rename_i hq
   have hs:=FT hk h1 hkd hq
   have ih:=ph hk hkd es ents (i+1) (by simpa using hl) (fun j kx u x hj hx=>hv (j+1) kx u x (by simpa using hj) (by simpa using hx)) h
   cases r with
   |none=>simpa[Instr.findNow,hs]using ih
   |some ju=>
    obtain⟨j,u'⟩:=ju
    obtain⟨v,x',k1,k2,k3,k4,k5,k6,k7⟩:=ih
    refine⟨v,x',by simpa[Instr.findNow,hs]using k1,k2,by omega,?_,k5,k6,by simp;omega⟩
    rw[show j - i=(j - (i+1))+1 from by omega];simpa using k4
  ·cases h
theorem AU{kt:TypeId}{kd:TypeDesc}{k:PVal}{vk:Value}(hkt:P.underlying kt=some kd)(hkd:j6 kd k=true)(hk:VR Γ bs w k vk)(em:Bool):(Instr.checkKey em 10000 kt vk).run P w=.ok () w:=by
 show(Instr.checkKey em (9999+1) kt vk).run P w=_
 rw[Instr.checkKey]
 cases kd<;>simp[j6]at hkd<;>cases k<;>simp at hkd<;>cases hk<;>simp[run_underlying hkt]
theorem lO{b:Nat}{ents:Array MapEntry}{clock:Nat}(h:w.heap[b]? =some (.map ents clock)):(getObj b).run P w=.ok (.map ents clock) w:=by simp[getObj,Sem.run,h]
theorem II{t:TypeId}{z:PVal}(h:B4 P t=some z):∃v,(zeroValue t).run P w=.ok v w/\VR Γ bs w z v:=by
 unfold B4 at h
 simp only[vaI,vbg]at h
 obtain⟨v,⟨i,hi,hz⟩,rfl⟩:=h
 exact⟨v,by simp[zeroValue,run_typeInfo w hi,hz],.absV v⟩
theorem JN(h:SR P E Γ bs ow w a st){t:TypeId}{m k p:PVal}{vm vk:Value}{ok:Bool}(hm:VR Γ bs w m vm)(hk:VR Γ bs w k vk)(hp:qp P t m k ok st.boxes=some p):
  ∃v,(Instr.lookup t vm vk ok).run P w=.ok v w/\VR Γ bs w p v:=by
 unfold qp at hp
 split at hp
 ·rename_i kt e i ht
  split at hp
  ·rename_i es kd hB hkt
   split at hp
   ·rename_i hkd
    cases hm with
    | mapr i b hi =>
     obtain⟨_,_,ents,clock,h1,h2,h3⟩:=h.bx i b _ hi hB
     have hch:=AU (P:=P) (w:=w) hkt hkd hk ents.toList.isEmpty
     have hch':(Instr.checkKey ents.isEmpty 10000 kt vk).run P w=.ok () w:=by rw[show ents.isEmpty=ents.toList.isEmpty from by simp];exact hch
     split at hp
     ·rename_i j u zs hf
      cases hp
      obtain⟨v,x,k1,k2,_⟩:=ph hk hkd es ents.toList 0 (by simp[h2]) (fun j kx u x hj hx=>h3 j kx u x hj (by simpa using hx)) hf
      refine⟨if ok then .tuple #[v,.bool true]else v,?_,?_⟩
      ·simp[Instr.lookup,run_underlying ht,lO h1,hch',Instr.findKey,run_underlying hkt,k1]
      ·cases ok
       ·exact k2
       ·refine .tuple _ _ rfl fun q p' v' hq hv'=>?_
        match q,hq,hv' with
        |0,hq,hv'=>simp at hq hv';subst hq;subst hv';exact k2
        |1,hq,hv'=>simp at hq hv';subst hq;subst hv';exact .bool _
        |q+2,hq,_=>simp at hq
     ·rename_i z hf hz
      cases hp
      obtain⟨z',hr,hvz⟩:=II (Γ:=Γ) (bs:=bs) (w:=w) hz
      have hfn:=ph hk hkd es ents.toList 0 (by simp[h2]) (fun j kx u x hj hx=>h3 j kx u x hj (by simpa using hx)) hf
      refine⟨if ok then .tuple #[z',.bool false]else z',?_,?_⟩
      ·simp only at hfn
       simp[Instr.lookup,run_underlying ht,lO h1,hch',Instr.findKey,run_underlying hkt,hfn,hr]
      ·cases ok
       ·exact hvz
       ·refine .tuple _ _ rfl fun q p' v' hq hv'=>?_
        match q,hq,hv' with
        |0,hq,hv'=>simp at hq hv';subst hq;subst hv';exact hvz
        |1,hq,hv'=>simp at hq hv';subst hq;subst hv';exact .bool _
        |q+2,hq,_=>simp at hq
     ·cases hp
   ·cases hp
  ·cases hp
 ·cases hp
theorem J5{kd:TypeDesc}{vk x:Value}(h:Instr.sameNow kd vk x=some true):Instr.sameBits 10000 x vk=true:=by
 unfold Instr.sameNow at h
 split at h
 ·split at h
  ·rename_i hk
   subst hk
   simp only[vat,vaZ]at h
   subst h
   simp[Instr.sameBits]
  ·cases h
 ·rename_i p q
  have h':(p.data==q.data)=true:=vbo h
  show(q.data==p.data)=true
  rw[vaZ]at h' ⊢
  exact h'.symm
 ·simp only[vat,vaZ]at h
  subst h
  simp[Instr.sameBits]
 ·cases h
theorem Fi(h:SR P E Γ bs ow w a st){t:TypeId}{m k u:PVal}{vm vk vu:Value}{H:List ax}(hm:VR Γ bs w m vm)(hk:VR Γ bs w k vk)(hu:VR Γ bs w u vu)(hp:eV P t m k u st.boxes=some H):
  ∃w',(Instr.mapUpdate t vm vk vu).run P w=.ok () w'/\SR P E Γ bs ow w' a {st with boxes:=H}/\Γ.Le w Γ w':=by
 unfold eV at hp
 split at hp
 ·rename_i kt e i ht
  split at hp
  ·rename_i es kd hB hkt
   split at hp
   ·rename_i hkd
    cases hm with
    | mapr i b hi =>
     obtain⟨hgb,hlt,ents,clock,h1,h2,h3⟩:=h.bx i b _ hi hB
     have hch:=AU (P:=P) (w:=w) hkt hkd hk false
     have hset:∀o,(setObj b o).run P w=.ok () {w with heap:=w.heap.setIfInBounds b o}:=by
      intro o;simp[setObj,Sem.run,h1]
     have hheap:∀o,({w with heap:=w.heap.setIfInBounds b o}:World).heap[b]? =some o:=by
      intro o;simp[hlt]
     have hother:∀o b',b'≠b->({w with heap:=w.heap.setIfInBounds b o}:World).heap[b']? =w.heap[b']?:=by
      intro o b' hb';exact vaQ (fun e=>hb' e.symm)
     have hle:∀o,Γ.Le w Γ ({w with heap:=w.heap.setIfInBounds b o}:World):=fun o b' m hb' _=>
      ⟨m,hb',var _,fun o' _=>bF (hother o b' (fun e=>by subst e;rw[hgb]at hb';cases hb')) o'⟩
     have hbox:∀{o:Obj} {B:ax},BR Γ bs ({w with heap:=w.heap.setIfInBounds b o}:World) B b->(∀cs own,B≠.cells cs own)->
       SR P E Γ bs ow ({w with heap:=w.heap.setIfInBounds b o}:World) a {st with boxes:=st.boxes.set i B}:=fun{o B} hB hne=>
      h.box_write hi rfl rfl rfl (by simp) (hother o) hB (fun b' L hL _=>hL) h.on (fun cs own he=>absurd he (hne cs own))
     split at hp
     ·rename_i j u0 hf
      cases hp
      obtain⟨v,x,k1,k2,k3,k4,k5,k6,k7⟩:=ph hk hkd es ents.toList 0 (by simp[h2]) (fun j kx u x hj hx=>h3 j kx u x hj (by simpa using hx)) hf
      simp only[Nat.sub_zero,vaT]at k4 k7
      have hsame:=J5 k6
      refine⟨{w with heap:=w.heap.setIfInBounds b (.map (ents.modify j fun e=>{e with key:=vk,val:=vu}) clock)},?_,hbox ⟨_,clock,hheap _,by simp[h2],fun q kx ux y hq hy=>?_⟩ (by simp),hle _⟩
      ·simp[Instr.mapUpdate,run_underlying ht,lO h1,hch,Instr.findKey,run_underlying hkt,k1,k4,Instr.keyThatStays,hsame,hset]
      ·rw[vbV]at hy
       by_cases hqj:q=j
       ·subst hqj
        rw[vag k7]at hq
        simp[k4]at hy
        cases hq;subst hy
        exact⟨hk.mono (hle _) (.refl _),hu.mono (hle _) (.refl _)⟩
       ·rw[vap (fun e=>hqj e.symm)]at hq
        rw[van (fun e=>hqj e.symm)]at hy
        exact⟨(h3 q kx ux y hq hy).1.mono (hle _) (.refl _),(h3 q kx ux y hq hy).2.mono (hle _) (.refl _)⟩
     ·rename_i hf
      cases hp
      have hfn:=ph hk hkd es ents.toList 0 (by simp[h2]) (fun j kx u x hj hx=>h3 j kx u x hj (by simpa using hx)) hf
      simp only at hfn
      refine⟨{w with heap:=w.heap.setIfInBounds b (.map (ents.push {key:=vk,val:=vu,born:=clock}) (clock+1))},?_,hbox ⟨_,_,hheap _,by simp[h2],fun q kx ux y hq hy=>?_⟩ (by simp),hle _⟩
      ·simp[Instr.mapUpdate,run_underlying ht,lO h1,hch,Instr.findKey,run_underlying hkt,hfn,hset]
      ·rw[vcE]at hy
       by_cases hql:q=ents.size
       ·subst hql
        rw[vad (by omega),<-h2,vbM]at hq
        simp at hq hy
        obtain⟨rfl,rfl⟩:=hq
        subst hy
        exact⟨hk.mono (hle _) (.refl _),hu.mono (hle _) (.refl _)⟩
       ·rw[van hql]at hy
        have hlt2:q<es.length:=by rw[<-h2];exact(vao.1 hy).1
        rw[vac hlt2]at hq
        exact⟨(h3 q kx ux y hq hy).1.mono (hle _) (.refl _),(h3 q kx ux y hq hy).2.mono (hle _) (.refl _)⟩
     ·cases hp
   ·cases hp
  ·cases hp
 ·cases hp
end
end Go.Proofs.YtggeppllafbidaaGreatDoor
