/- PROVED: a part of the proof. Conditions: none. -/
import Derived.Test.YtibglelmlnfojaaGreatDoorpa3
import Derived.WalkKit
import Derived.RangeFuncNested
import Derived.RangeFuncCalls
import Derived.Sort.LoopGhostIn
import Derived.OrdersIn
set_option linter.unusedSimpArgs false
set_option linter.unusedVariables false
noncomputable section
namespace Go.Proofs.YtibglelmlnfojaaGreatDoor
open Go
abbrev ee:Value:=.slice none 0 0
def qdC(v:Value):PVal:=if rx v then .val ee else absC v
def qat(P:Program)(t:TypeId):Option (List PVal):=((P.info? t).bind (·.zero)).map λz=>z.cells.toList.map qdC
def RA(P:Program)(t:TypeId)(parts:List (Nat×PVal)):Option (List PVal):=
 match P.underlying t,qat P t with
 |some (.struct fs),some zs=>if fs.all (λf=>(P.info? f.type).isSome)then NS (λi=>(fs[i]?).map λf=>(f.offset,P.cellsOf f.type)) zs parts else none
 |_,_=>none
def UQ(cs:List PVal):List (Nat×TypeId)->Prop
 |[]=>True
 |x::r=>cs[x.1]? =some (.val ee)/\UQ cs r
def ui(P:Program)(t:TypeId)(parts:List (Nat×PVal))(L:List (Nat×TypeId)):Prop:=∃cs,RA P t parts=some cs/\UQ cs L
def ownLe(H0 H:List aB):Prop:=H0.length=H.length/\∀(i:Nat) B,H0[i]? =some B->∃B',H[i]? =some B'/\(B=B'\/∃cs own own',B'=.cells cs own/\B=.cells cs own'/\∀x∈own',x∈own)
structure HD(P:Program)(GE:List (Nat×List PVal))(f:Operand)(args:List Operand)(st:aF)(r:PVal)(ro:List (Nat×TypeId))(H':List aB)(oa:List OA):Prop where
 ex:∃(g:FuncId) (first cap argsC:List PVal) (ρ:List Nat) (H0 Hc Hc':List aB) (rc:PVal),opv GE st.tmps f=.func (.func g) first cap/\ρ.Nodup/\C P GE g argsC (oa.map λx=>((x.i,x.k),x.e)) Hc rc ro Hc'/\
  ownLe H0 st.boxes/\Dl ρ H0 Hc/\Dl ρ H' Hc'/\H'.length=st.boxes.length/\(∀j:Nat,j∉ρ->H'[j]? =H0[j]?)/\Bg ρ r rc/\(first++args.map (opv GE st.tmps)++cap).length=argsC.length/\
  (∀(i:Nat) p q,(first++args.map (opv GE st.tmps)++cap)[i]? =some p->argsC[i]? =some q->Bg ρ p q)/\
  (∀x∈oa,∃j,x.i=first.length+j/\((args[j]? =some (.const ee)/\x.k=0)\/(((x.t,x.k),x.e)∈st.own/\args[j]? =some (.tmp x.t))))/\(∀x∈oa,∀y∈oa,x.t=y.t->x.k=y.k->x.i=y.i)
def NZ(P:Program)(GE:List (Nat×List PVal))(o:Oper)(K:aF->Prop)(st:aF):Prop:=
 match o.op,o.dst with
 | .build T parts,some d => ∃ (p:PVal) (L:List (Nat×TypeId)),di P T (parts.toList.map fun x => (x.1,opv GE st.tmps x.2)) = some p∧ui P T (parts.toList.map fun x => (x.1,opv GE st.tmps x.2)) L ∧
   d<st.tmps.length/\K {st with tmps:=st.tmps.set d p,own:=(L.map λx=>((d,x.1),x.2))++bQ d st.own}
 | .store T x (.tmp t),none => ∃ (i off:Nat) (H:List aB) (cs:List PVal) (own L:List (Nat×TypeId)) (l:List PVal),opv GE st.tmps x = .bptr i off∧st.tmps.getD t .undef = .agg l∧eK P T (.bptr i off) (.agg l) st.boxes = some H∧H[i]? = some (.cells cs own) ∧
   (∀y∈L,((t,y.1),y.2)∈st.own)/\(L.map (·.1)).Nodup/\
   K ⟨st.tmps,H.set i (.cells cs ((L.map λy=>(off+y.1,y.2)).reverse++own)),st.own.filter λx=>!L.any λy=>x.1==(t,y.1)⟩
 | .load T x,some d => ∃ (i off:Nat) (cs:List PVal) (own L:List (Nat×TypeId)) (l:List PVal),(∃ fs,P.underlying T = some (.struct fs))∧opv GE st.tmps x = .bptr i off∧st.boxes[i]? = some (.cells cs own)∧bo P T (cs.drop off) = some (.agg l) ∧
   (∀y∈L,(off+y.1,y.2)∈own)/\(L.map (·.1)).Nodup/\(∀y∈L,y.1<l.length)/\d<st.tmps.length/\
   K ⟨st.tmps.set d (.agg l),st.boxes.set i (.cells cs (own.filter λx=>!L.any λy=>x.1==off+y.1)),(L.map λy=>((d,y.1),y.2)).reverse++bQ d st.own⟩
 |.box _ x,some d=>∃vs:List PVal,bZ (opv GE st.tmps x)=some vs/\d<st.tmps.length/\K {st with tmps:=st.tmps.set d (.eptr vs),own:=bQ d st.own}
 | .call { callee := .value f,args,.. },some d => ∃ (r:PVal) (ro:List (Nat×TypeId)) (H':List aB) (oa:List OA),HD P GE f args.toList st r ro H' oa∧d < st.tmps.length ∧
   K ⟨st.tmps.set d r,H',(ro.map λx=>((d,x.1),x.2))++bQ d (st.own.filter λz=>!oa.any λx=>z.1==(x.t,x.k))⟩
 |_,_=>False
def Ew(P:Program)(GE:List (Nat×List PVal))(A:List Nat)(o:Oper)(id:Nat)(K:aF->Prop)(st:aF):Prop:=Lb P GE A o id K st\/NZ P GE o K st\/qca P GE o id K st
def cD(P:Program)(GE:List (Nat×List PVal))(A:List Nat)(ops:Array Oper)(K:aF->Prop):List Oper->Nat->aF->Prop
 |[],_,st=>K st
 | o :: rest,id,st =>
  match o.guard with
  |none=>Ew P GE A o id (cD P GE A ops K rest (id+if aE o.op then 1 else 0)) st
  |some (j,want)=>match xi ops st.tmps j with
   | some x => (x = some want→Ew P GE A o id (cD P GE A ops K rest (id + if aE o.op then 1 else 0)) st) ∧
     (x≠some want->cD P GE A ops K rest (id+if aE o.op then 1 else 0) (zU st o.dst (.val undef) [] st.boxes))
   |none=>False
section
variable{P:Program}{E:tS}{Γ:bp}{bs:bG}{ow:Nat->Option mh}{w:World}
theorem qbe{z:Value}(j:Nat)(p:PVal)(v:Value)(hp:(z.cells.toList.map qdC)[j]? =some p)(hv:z.cells[j]? =some v):VR Γ bs w p v:=by
 simp only[vaA,vbe,hv,vaj,vaz]at hp
 subst hp
 unfold qdC
 split
 ·rename_i hn
  unfold rx at hn
  split at hn
  ·exact .val _
  ·cases hn
 ·exact .absC v
theorem TE{t:TypeId}{parts:List (Nat×PVal)}{vs:List (Nat×Value)}{cs:List PVal}(hl:parts.length=vs.length)
  (hv:∀(j:Nat) p v,parts[j]? =some p->vs[j]? =some v->p.1=v.1/\VR Γ bs w p.2 v.2) (h:RA P t parts=some cs):
  ∃ov,(Instr.build t vs.toArray).run P w=.ok (.agg ov) w/\ov.size=cs.length/\∀(j:Nat) p v,cs[j]? =some p->ov[j]? =some v->VR Γ bs w p v:=by
 unfold RA at h
 split at h
 ·rename_i fs zs ht hz
  unfold qat at hz
  simp only[vaG,vbg]at hz
  obtain⟨z,⟨i,hi,hz'⟩,rfl⟩:=hz
  have hr:(zeroValue t).run P w=.ok z w:=by simp[zeroValue,run_typeInfo w hi,hz']
  split at h
  ·rename_i hall
   have hplaces:∀(l:List Field),(∀f∈l,(P.info? f.type).isSome=true)->(l.mapM λf=>do pure (f.offset,<-sizeOf f.type):Sem (List (Nat×Nat))).run P w=.ok (l.map λf=>(f.offset,P.cellsOf f.type)) w:=by
    intro l hl
    induction l with
    |nil=>simp
    |cons f l ih=>
     obtain⟨inf,hinf⟩:=vaR.1 (hl f (by simp))
     have:=ih λg hg=>hl g (by simp[hg])
     simp only[vb4,Sem.run_bind,run_sizeOf w hinf,Result.andThen_ok,this,Sem.run_pure,vae]
   have hp:(fs.mapM λf=>do pure (f.offset,<-sizeOf f.type):Sem (Array (Nat×Nat))).run P w=.ok (fs.map λf=>(f.offset,P.cellsOf f.type)) w:=by
    rw[vcl]
    simp only[Sem.run_map]
    rw[hplaces fs.toList λf hf=>by
     have:=vbs.1 hall f (by simpa using hf)
     simpa using this]
    simp only[Result.andThen_ok]
    exact va6 (λx=>Result.ok x w) (vbO (by simp))
   obtain⟨ov,r1,r2,r3⟩:=Ff (place':=((fs.map λf=>(f.offset,P.cellsOf f.type))[·]?)) (λi x hx=>by simpa using hx) parts vs _ z.cells hl hv (by simp) (λj p v hp hv=>qbe j p v hp hv) h
   refine⟨ov,?_,r2,r3⟩
   simp only[Instr.build,Sem.run_bind,hr,Result.andThen_ok,run_underlying ht,hp]
   rw[r1]
   simp
  ·cases h
 ·cases h
theorem ND{cs:List PVal}:∀{L:List (Nat×TypeId)},UQ cs L->∀x∈L,cs[x.1]? =some (.val ee)
 |[],_,x,hx=>by cases hx
 | y :: L,h,x,hx => by
  rcases vaF.1 hx with rfl|hx
  ·exact h.1
  ·exact ND h.2 x hx
section
variable{a:Array Value}{st:aF}
theorem SR.ownNils(h:SR P E Γ bs ow w a st){d:Nat}{u:Value}(hu:a[d]? =some u)(L:List (Nat×TypeId))(hL:∀x∈L,mJ u x.1=some ee):SR P E Γ bs ow w a {st with own:=(L.map λx=>((d,x.1),x.2))++st.own}:=
 { h with
  ot:=λt k e he=>by
   rcases vaS.1 he with he|he
   ·simp only[vaq,Prod.mk.injEq]at he
    obtain⟨x,hx,⟨rfl,rfl⟩,rfl⟩:=he
    exact⟨u,ee,hu,hL x hx,⟨0,[],World.ownsRow_nil _ _ _ _,λb hb=>by simp[Value.ownBlock]at hb⟩,λb hb=>by simp[Value.ownBlock]at hb⟩
   ·exact h.ot t k e he}
theorem SR.takeOwn(h:SR P E Γ bs ow w a st){i b d k off:Nat}{e:TypeId}{u v:Value}{cs:List PVal}{own:List (Nat×TypeId)}(hi:bs[i]? =some (some b))(hB:st.boxes[i]? =some (.cells cs own))
  (hm:(off,e)∈own) (hu:a[d]? =some u) (hp:mJ u k=some v) (hc:w.cell? ⟨b,off,none⟩=some v):
  ∃ow',SR P E Γ bs ow' w a {st with own:=((d,k),e)::st.own,boxes:=st.boxes.set i (.cells cs (own.filter λx=>x.1 !=off))}:=by
 obtain⟨v',q1,q2,q3⟩:=h.ob i off e cs own b hB hm hi
 rw[hc]at q1
 cases q1
 exact⟨_,(h.freeB (j:=off) hB).addOwn (d:=d) (k:=k) (e:=e) (u:=u) (v:=v) hu hp q2 (λb' hb'=>⟨by simp[q3 b' hb'],(h.on b' _ (q3 b' hb')).2⟩)⟩
theorem SR.takeOwns{i b d off:Nat}{u:Value}{cs:List PVal}(hi:bs[i]? =some (some b))(hu:a[d]? =some u):∀(L:List (Nat×TypeId)) {ow:Nat->Option mh} {st:aF} {own:List (Nat×TypeId)},SR P E Γ bs ow w a st->st.boxes[i]? =some (.cells cs own)->
  (∀x∈L,(off+x.1,x.2)∈own)->(L.map (·.1)).Nodup->(∀x∈L,∃v,mJ u x.1=some v/\w.cell? ⟨b,off+x.1,none⟩=some v)->
  ∃ow',SR P E Γ bs ow' w a ⟨st.tmps,st.boxes.set i (.cells cs (own.filter λx=>!L.any λy=>x.1==off+y.1)),(L.map λy=>((d,y.1),y.2)).reverse++st.own⟩
 | [],ow,st,own,h,hB,_,_,_ => by
  refine⟨ow,?_⟩
  have e2:(own.filter λx=>!([]:List (Nat×TypeId)).any λy=>x.1==off+y.1)=own:=by
   apply vcN.2
   intro x _
   rfl
  have e1:st.boxes.set i (.cells cs (own.filter λx=>!([]:List (Nat×TypeId)).any λy=>x.1==off+y.1))=st.boxes:=by
   rw[e2]
   apply vbh
   intro j
   by_cases hj:i=j
   ·subst hj
    rw[vai (aq hB),hB]
   ·rw[vat hj]
  rw[e1]
  exact h
 | x :: L,ow,st,own,h,hB,hm,hn,hc => by
  rw[vae,vbZ]at hn
  obtain⟨v,hv1,hv2⟩:=hc x (by simp)
  obtain⟨ow1,h1⟩:=h.takeOwn hi hB (hm x (by simp)) hu hv1 hv2
  obtain⟨ow2,h2⟩:=SR.takeOwns (off:=off) hi hu L h1 (vai (aq hB)) (λy hy=>by
   refine va4.2 ⟨hm y (by simp[hy]),?_⟩
   simp only[bne_iff_ne,ne_eq]
   exact λe=>hn.1 (vaq.2 ⟨y,hy,by omega⟩)) hn.2 (λy hy=>hc y (by simp[hy]))
  refine⟨ow2,?_⟩
  simp only[vbT,vcW]at h2
  have e1:((x::L).map λy=>((d,y.1),y.2)).reverse++st.own=(L.map λy=>((d,y.1),y.2)).reverse++((d,x.1),x.2)::st.own:=by simp
  have e2:(own.filter λz=>!(x::L).any λy=>z.1==off+y.1)=own.filter λz=>(!L.any λy=>z.1==off+y.1)&&(z.1 !=off+x.1):=by
   congr 1
   funext z
   rw[List.any_cons]
   cases(L.any λy=>z.1==off+y.1)<;>cases hz:(z.1==off+x.1)<;>simp[bne,hz]
  rw[e1,e2]
  exact h2
theorem GV(h:SR P E Γ bs ow w a st){T:TypeId}{i off b:Nat}{cs:List PVal}{own:List (Nat×TypeId)}{l:List PVal}(hi:bs[i]? =some (some b))(hB:st.boxes[i]? =some (.cells cs own))(hp:bo P T (cs.drop off)=some (.agg l)):∃v,(loadVar T ⟨b,off,none⟩).run P w=.ok v w/\VR Γ bs w (.agg l) v/\((∃d,P.underlying T=some d/\(match d with|.struct _|.array _ _=>True|_=>False))->∀k,k<l.length->mJ v k=w.cell? ⟨b,off+k,none⟩):=by
 obtain⟨c,t',h1,h2,h3,h4⟩:=h.box_cells hi hB
 have hval:∀(k:Nat) q,(cs.drop off)[k]? =some q->w.cell? ⟨b,off+k,none⟩=some (c.getD (off+k) undef)/\VR Γ bs w q (c.getD (off+k) undef):=by
  intro k q hq
  rw[vbk]at hq
  have hlt:off+k<c.size:=vaU (aq hq) h2
  have hc:c[off+k]? =some (c.getD (off+k) undef):=by simp[vaE,hlt]
  exact⟨(h4 _).trans hc,h3 _ _ _ hq hc⟩
 obtain⟨v,hr,hv⟩:=mc hp (vals:=λk=>c.getD (off+k) undef) (λk q hq=>(hval k q hq).1) (λk q hq=>(hval k q hq).2)
 refine⟨v,hr,hv,λhagg k hk=>?_⟩
 obtain⟨dd,hd,hm⟩:=hagg
 have hlen:P.cellsOf T<=(cs.drop off).length/\l.length=P.cellsOf T:=by
  unfold bo at hp
  rw[hd]at hp
  have key:(if P.cellsOf T<=(cs.drop off).length then some (PVal.agg ((cs.drop off).take (P.cellsOf T)))else none)=some (.agg l):=by
   cases dd<;>simp only at hm<;>exact hp
  split at key
  ·rename_i hh;cases key;exact⟨hh,by rw[vba];omega⟩
  ·cases key
 have hp2:bo P T ((List.range (cs.drop off).length).map λk=>PVal.val (c.getD (off+k) undef))=some (.agg (((List.range (cs.drop off).length).map λk=>PVal.val (c.getD (off+k) undef)).take (P.cellsOf T))):=by
  unfold bo
  rw[hd]
  cases dd<;>simp at hm<;>simp only<;>rw[vad (by simpa using hlen.1)]
 obtain⟨v2,hr2,hv2⟩:=mc (Γ:=Γ) (bs:=bs) hp2 (vals:=λk=>c.getD (off+k) undef) (λk q hq=>by
   have hlt:k<(cs.drop off).length:=by have:=aq hq;simpa using this
   exact(hval k _ (vac hlt)).1) (λk q hq=>by
   have hlt:k<(cs.drop off).length:=by have:=aq hq;simpa using this
   simp only[vaA,vbW hlt,vaj,vaz]at hq
   subst hq
   exact .val _)
 rw[hr]at hr2
 cases hr2
 have hk2:k<(cs.drop off).length:=by omega
 cases hv2 with
 | agg _ vs hl hvv =>
  have hd1:(cs.drop off).length=cs.length - off:=vbC
  have hkv:k<vs.size:=by rw[hl];simp;omega
  have hq:(((List.range (cs.drop off).length).map λk=>PVal.val (c.getD (off+k) undef)).take (P.cellsOf T))[k]? =some (.val (c.getD (off+k) undef)):=by
   rw[vaH (by omega)]
   simp only[vaA,vbW hk2,vaj]
  have:=hvv k _ vs[k] hq (by simp[hkv])
  show vs[k]? =_
  rw[(hval k _ (vac hk2)).1]
  rw[vaW hkv]
  generalize vs[k]=q at this
  generalize c.getD (off+k) undef=q2 at this
  cases this
  rfl
end
variable{a:Act}{st:aF}
theorem DR(h:SR P E Γ bs ow w a.tmps st){o:Oper}{id d:Nat}{T:TypeId}{parts:Array (Nat×Operand)}{p:PVal}{L:List (Nat×TypeId)}{K:aF->Prop}(ho:o.op=.build T parts)(hdst:o.dst=some d)(hd:d<st.tmps.length)
  (hp:di P T (parts.toList.map λx=>(x.1,opv E.GE st.tmps x.2))=some p) (hL:ui P T (parts.toList.map λx=>(x.1,opv E.GE st.tmps x.2)) L)
  (hK:K {st with tmps:=st.tmps.set d p,own:=(L.map λx=>((d,x.1),x.2))++bQ d st.own}) (Q:Exit->Act->World->Prop):
  o.wp P a w (f8 P E bs id (aE o.op) a.defers K) Q:=by
 have hρ:∀x,VR Γ bs w (opv E.GE st.tmps x) (a.eval x):=λx=>h.opv a.defers x
 obtain⟨k1,k2⟩:=IK hρ parts.toList
 obtain⟨v,r1,r2⟩:=NN k1 k2 hp
 obtain⟨cs,hcs,hn⟩:=hL
 obtain⟨ov,s1,s2,s3⟩:=TE k1 k2 hcs
 rw[r1]at s1
 cases s1
 have hrun:(execOp a.eval o).run P w=.ok (.value (.agg ov)) w:=by
  have:(parts.map λx=>(x.1,a.eval x.2))=(parts.toList.map λx=>(x.1,a.eval x.2)).toArray:=by apply vbO;simp
  simp only[execOp,ho]
  rw[this]
  simp[r1]
 unfold Oper.wp
 rw[hrun,Oper.upon_value]
 have hds:d<a.tmps.size:=by rw[h.sz];exact hd
 have g1:=h.set (d:=d) r2
 have g2:=g1.ownNils (d:=d) (u:=.agg ov) (by simp[hds]) L λx hx=>by
  have hq:=ND hn x hx
  have hlt:x.1<ov.size:=by rw[s2];exact aq hq
  have hv:=s3 x.1 _ ov[x.1] hq (by simp[hlt])
  show ov[x.1]? =_
  rw[vaW hlt]
  generalize ov[x.1]=q at hv
  cases hv
  rfl
 have hput:∀v,(a.put o.dst v).tmps=a.tmps.setIfInBounds d v:=λv=>by rw[hdst];rfl
 rw[<-hput]at g2
 exact⟨dX _ _ _,Γ,bs,_,_,g2,hK,.inl rfl⟩
theorem SR.ownLe(h:SR P E Γ bs ow w a.tmps st){H0:List aB}(hs:ownLe H0 st.boxes):SR P E Γ bs ow w a.tmps {st with boxes:=H0}:=
 { h with
  bl:=h.bl.trans hs.1.symm
  bx:=λi b B hb hB=>by
   obtain⟨B',hB',hx⟩:=hs.2 i B hB
   obtain⟨k1,k2,k3⟩:=h.bx i b B' hb hB'
   rcases hx with rfl|⟨cs,own,own',rfl,rfl,_⟩
   ·exact⟨k1,k2,k3⟩
   ·exact⟨k1,k2,k3⟩
  ob:=λi j e cs own b hB hj hb=>by
   obtain⟨B',hB',hx⟩:=hs.2 i _ hB
   rcases hx with rfl|⟨cs1,own1,own2,rfl,e2,hsub⟩
   ·exact h.ob i j e cs own b hB' hj hb
   ·cases e2;exact h.ob i j e _ own1 b hB' (hsub _ hj) hb}
theorem yR(h:SR P E Γ bs ow w a.tmps st){o:Oper}{id d:Nat}{f:Operand}{args:Array Operand}{tys:Array TypeId}{r:PVal}{ro:List (Nat×TypeId)}{H':List aB}{oa:List OA}{K:aF->Prop}(ho:o.op=.call {callee:=.value f,args,argTypes:=tys})(hdst:o.dst=some d)(hd:d<st.tmps.length)
  (hg:HD P E.GE f args.toList st r ro H' oa) (hK:K ⟨st.tmps.set d r,H',(ro.map λx=>((d,x.1),x.2))++bQ d (st.own.filter λz=>!oa.any λx=>z.1==(x.t,x.k))⟩) (Q:Exit->Act->World->Prop):
  o.wp P a w (f8 P E bs id (aE o.op) a.defers K) Q:=by
 obtain⟨g,first,cap,argsC,ρ,H0,Hc,Hc',rc,hfv,hnd,hC,hle,hH,hH',hlen,hsame,hr,hal,ha,ho1,ho3⟩:=hg.ex
 have hρ:∀x,VR Γ bs w (opv E.GE st.tmps x) (a.eval x):=λx=>h.opv a.defers x
 have hf:=hρ f
 rw[hfv]at hf
 generalize hvf:a.eval f=vf at hf
 cases hf with
 |func _ _ _ fs cs hl hl' h1 h2=>
 have hargs:(fs++args.map a.eval++cs).size=(first++args.toList.map (opv E.GE st.tmps)++cap).length:=by simp[hl,hl']
 have hvr:∀(i:Nat) p v,(first++args.toList.map (opv E.GE st.tmps)++cap)[i]? =some p->(fs++args.map a.eval++cs)[i]? =some v->VR Γ bs w p v:=by
  refine EQ (by simp[hl]) (EQ hl h1 λi p v hp hv=>?_) h2
  exact E4 hρ args.toList i p v hp (by simpa using hv)
 have hrun:(execOp a.eval o).run P w=.ok (.enter g (fs++args.map a.eval++cs)) w:=by
  simp[execOp,ho,resolve,hvf,Deferred.ofValue,invoke,hC.1]
 have hds:d<a.tmps.size:=by rw[h.sz];exact hd
 have hw:=h.ownLe hle
 unfold Oper.wp
 rw[hrun,Oper.upon_enter]
 refine(YR hw hds hnd hC (λx hx=>?_) ho3 hH hH' (hlen.trans hle.1.symm) hsame hr hal ha hargs hvr).mono λe w' he=>?_
 ·obtain⟨j,hj,hj2⟩:=ho1 x hx
  have hat:∀{y:Operand},args.toList[j]? =some y->(fs++args.map a.eval++cs)[x.i]? =some (a.eval y):=by
   intro y hy
   have hjl:j<args.size:=by have:=aq hy;simpa using this
   have hja:args[j]? =some y:=by simpa using hy
   rw[hj,<-hl,va7 (by simp;omega),vcf (by omega),vcv]
   simp only[Array.getElem?_map,hja,vaj]
  rcases hj2 with⟨hj2,hk⟩|⟨ht,hj2⟩
  ·exact .inl ⟨hat hj2,hk⟩
  ·obtain⟨u,v,e1,_⟩:=h.ot _ _ _ ht
   exact .inr ⟨ht,by rw[hat hj2,td e1];exact e1.symm⟩
 ·obtain⟨v,Γ',ow',rfl,hS,_⟩:=he
  have hput:(a.put o.dst v).tmps=a.tmps.setIfInBounds d v:=by rw[hdst];rfl
  show f8 P E bs id (aE o.op) a.defers K (a.put o.dst v) w'
  refine⟨dX _ _ _,Γ',bs,ow',_,?_,hK,.inl rfl⟩
  rw[hput];exact hS
theorem G6(h:SR P E Γ bs ow w a.tmps st){o:Oper}{id:Nat}{K:aF->Prop}(hp:NZ P E.GE o K st)(Q:Exit->Act->World->Prop):o.wp P a w (f8 P E bs id (aE o.op) a.defers K) Q:=by
 unfold NZ at hp
 split at hp
 ·rename_i T parts d ho hd
  obtain⟨p,L,h1,h2,h3,h4⟩:=hp
  exact DR h ho hd h3 h1 h2 h4 Q
 ·rename_i T x t ho hd
  obtain⟨i,off,H,cs,own,L,l,hx,ht,hst,hB,hm,hn,hK⟩:=hp
  have htl:t<st.tmps.length:=by
   by_cases hlt:t<st.tmps.length
   ·exact hlt
   ·rw[vap,va0 (vbL hlt)]at ht;cases ht
  have hta:t<a.tmps.size:=by rw[h.sz];exact htl
  have hu:a.tmps[t]? =some a.tmps[t]:=by simp[hta]
  generalize a.tmps[t]=u at hu
  have hvt:=Jo h hu
  rw[ht]at hvt
  have hvx:VR Γ bs w (opv E.GE st.tmps x) (a.eval x):=h.opv a.defers x
  rw[hx]at hvx
  obtain⟨w',r1,r2,_,r4⟩:=Lc h hvx hvt hst
  have hrun:(execOp a.eval o).run P w=.ok .skip w':=by simp[execOp,ho,td hu,r1]
  unfold Oper.wp
  rw[hrun,Oper.upon_skip]
  generalize a.eval x=vx at hvx r1
  cases hvx with
  |bptr _ _ b hb=>
  obtain⟨c1,_⟩:=r4 i off b rfl hb
  obtain⟨ow',g⟩:=SR.moveOwns (off:=off) hb hu L r2 hB hm hn λy hy=>by
   obtain⟨u',v,e1,e2,_,_⟩:=h.ot t y.1 y.2 (hm y hy)
   rw[hu]at e1
   cases e1
   refine⟨v,e2,?_⟩
   cases hvt with
   |agg _ vs _ _=>exact c1 y.1 v e2
  have hput:a.put o.dst undef=a:=by rw[hd];rfl
  rw[hput]
  exact⟨rfl,Γ,bs,ow',_,g,hK,.inl rfl⟩
 ·rename_i T x d ho hd
  obtain⟨i,off,cs,own,L,l,⟨fs,hfs⟩,hx,hB,hp,hm,hn,hll,hdl,hK⟩:=hp
  have hvx:VR Γ bs w (opv E.GE st.tmps x) (a.eval x):=h.opv a.defers x
  rw[hx]at hvx
  generalize hve:a.eval x=vx at hvx
  cases hvx with
  |bptr _ _ b hb=>
  obtain⟨v,r1,r2,r3⟩:=GV h hb hB hp
  have hrun:(execOp a.eval o).run P w=.ok (.value v) w:=by simp[execOp,ho,hve,Instr.loadAt,Instr.sureAddr,r1]
  unfold Oper.wp
  rw[hrun,Oper.upon_value]
  have hds:d<a.tmps.size:=by rw[h.sz];exact hdl
  have g1:=h.set (d:=d) r2
  obtain⟨ow',g2⟩:=SR.takeOwns (off:=off) (d:=d) (u:=v) hb (by simp[hds]) L g1 hB hm hn λy hy=>by
   have:=r3 ⟨_,hfs,vzz⟩ y.1 (hll y hy)
   obtain⟨v',q1,_⟩:=h.ob i (off+y.1) y.2 cs own b hB (hm y hy) hb
   exact⟨v',this.trans q1,q1⟩
  have hput:∀v,(a.put o.dst v).tmps=a.tmps.setIfInBounds d v:=λv=>by rw[hd];rfl
  rw[<-hput]at g2
  exact⟨dX _ _ _,Γ,bs,ow',_,g2,hK,.inl rfl⟩
 ·rename_i T x d ho hd
  obtain⟨vs,hvs,hdl,hK⟩:=hp
  have hvx:VR Γ bs w (opv E.GE st.tmps x) (a.eval x):=h.opv a.defers x
  generalize hve:a.eval x=vx at hvx
  obtain⟨k1,k2⟩:=hvx.cells hvs
  obtain⟨g1,hle⟩:=h.alloc_imm vx.cells T vx.cells.size (vaw _)
  have hrun:(execOp a.eval o).run P w=.ok (.value (.pointer (some ⟨w.heap.size,0,none⟩))) (w.alloc (.cells vx.cells T)):=by simp[execOp,ho,hve,Instr.box,newVar,newRow]
  unfold Oper.wp
  rw[hrun,Oper.upon_value]
  have hcell:∀j,(w.alloc (.cells vx.cells T)).cell? ⟨w.heap.size,j,none⟩=vx.cells[j]?:=λj=>cell_of_row _ _ _ _ _ _ (fX w _)
  have hget:∀{k:Nat} {p:PVal},vs[k]? =some p->vx.cells[k]? =some (vx.cells.getD k undef):=λ{k p} hp=>by
   have hlt:k<vx.cells.size:=by rw[k1];exact aq hp
   simp[vaE,hlt]
  have hvr:VR (Γ.put w.heap.size vx.cells.size) bs (w.alloc (.cells vx.cells T)) (.eptr vs) (.pointer (some ⟨w.heap.size,0,none⟩)):=
   .eptr vs w.heap.size 0 vx.cells.size (λk=>vx.cells.getD k undef) (Γ.put_same _ _) (by omega)
    (λk p hp=>by rw[hcell,vaT];exact hget hp) (λk p hp=>(k2 k p _ hp (hget hp)).mono hle (.refl _))
  have g2:=g1.set (d:=d) hvr
  have hput:∀v,(a.put o.dst v).tmps=a.tmps.setIfInBounds d v:=λv=>by rw[hd];rfl
  rw[<-hput]at g2
  exact⟨dX _ _ _,_,bs,_,_,g2,hK,.inl rfl⟩
 ·rename_i f args tys d ho hd
  obtain⟨r,ro,H',oa,h1,h2,h3⟩:=hp
  exact yR h ho hd h2 h1 h3 Q
 ·exact hp.elim
theorem I2(h:SR P E Γ bs ow w a.tmps st){A:List Nat}{o:Oper}{id:Nat}(hid:aE o.op=true->bs[id]? =some none){K:aF->Prop}(hp:Ew P E.GE A o id K st)(Q:Exit->Act->World->Prop):o.wp P a w (Uj P E bs id (aE o.op) a.defers K) Q:=by
 rcases hp with hp|hp|hp
 ·exact Oper.wp_mono (λ_ _ hA=>hA.to3) (TN h hid hp Q)
 ·exact Oper.wp_mono (λ_ _ hA=>hA.to3) (G6 h hp Q)
 ·exact XO h hid hp Q
theorem B3{bs0:bG}{ds:List Deferred}{A:List Nat}{ops:Array Oper}{K:aF->Prop}{Q:Exit->Act->World->Prop}
  (hQ:∀a w st,a.defers=ds->Sl P E bs0 st a w->K st->Q .normal a w):
  ∀(rest:List Oper) (k id:Nat) (Γ:bp) (bs:bG) (ow:Nat->Option mh) (a:Act) (w:World) (st:aF),(∀j,rest[j]? =ops[k+j]?)->SR P E Γ bs ow w a.tmps st->a.defers=ds->YB bs0 bs->bs0.length<=id->
   (∀m,id<=m->m<id+b8 rest->bs[m]? =some none)->cD P E.GE A ops K rest id st->wpOps P ops Q ((List.range ops.size).drop k) a w
 | [],k,id,Γ,bs,ow,a,w,st,hr,h,hd,hk,_,_,hp => by
  have hsz:ops.size<=k:=by
   have:=hr 0
   simp only[List.getElem?_nil,Nat.add_zero]at this
   exact vci.1 this.symm
  rw[vbP (by simpa using hsz)]
  exact hQ a w st hd ⟨Γ,bs,ow,h,hk⟩ hp
 | o :: rest,k,id,Γ,bs,ow,a,w,st,hr,h,hd,hk,hid,hfree,hp => by
  have hok:ops[k]? =some o:=by have:=hr 0;simpa using this.symm
  have hlt:k<ops.size:=(vao.1 hok).1
  have hcons:(List.range ops.size).drop k=k::(List.range ops.size).drop (k+1):=by
   rw[vaI (by simpa using hlt)];simp
  rw[hcons,wpOps_cons]
  unfold wpOp
  rw[hok]
  simp only
  have hcnt:b8 (o::rest)=(if aE o.op then 1 else 0)+b8 rest:=by
   unfold b8
   simp only[vbM]
   split<;>simp<;>omega
  have hrest:∀j,rest[j]? =ops[k+1+j]?:=λj=>by
   have:=hr (j+1)
   simpa[vcu,vcE 1 j]using this
  have hmk:aE o.op=true->bs[id]? =some none:=λhm=>hfree id (vaw _) (by rw[hcnt,hm];simp;omega)
  have step:Ew P E.GE A o id (cD P E.GE A ops K rest (id+if aE o.op then 1 else 0)) st->o.wp P a w (wpOps P ops Q ((List.range ops.size).drop (k+1))) Q:=by
   intro hs
   refine Oper.wp_mono (λa' w' hA=>?_) (I2 h hmk hs Q)
   obtain⟨hd',Γ',bs',ow',st',h1,h2,h3⟩:=hA
   refine B3 hQ rest (k+1) _ Γ' bs' ow' a' w' st' hrest h1 (hd'.trans hd) ?_ (by omega) ?_ h2
   ·rcases h3 with rfl|⟨hm,b,rfl⟩|⟨x,rfl⟩
    ·exact hk
    ·intro i hi
     rw[vat (by omega)]
     exact hk i hi
    ·intro i hi
     have hki:=hk i hi
     have hlt:i<bs.length:=by
      have h1:bs0[i]? =some bs0[i]:=vac hi
      rw[h1]at hki
      exact aq hki
     rw[van hlt]
     exact hki
   ·intro m hm1 hm2
    have hb:=hfree m (by omega) (by rw[hcnt];omega)
    rcases h3 with rfl|⟨hm,b,rfl⟩|⟨x,rfl⟩
    ·exact hb
    ·rw[hm]at hm1
     simp only[if_true]at hm1
     rw[vat (by omega)]
     exact hb
    ·rw[van (aq hb)]
     exact hb
  have skip:cD P E.GE A ops K rest (id+if aE o.op then 1 else 0) (zU st o.dst (.val undef) [] st.boxes)->wpOps P ops Q ((List.range ops.size).drop (k+1)) (a.put o.dst undef) w:=by
   intro hs
   refine B3 hQ rest (k+1) _ Γ bs ow (a.put o.dst undef) w _ hrest (h.putv_nil (.val undef) o.dst rfl) ((dX _ _ _).trans hd) hk (by omega) (λm hm1 hm2=>hfree m (by omega) (by rw[hcnt];omega)) hs
  simp only[cD]at hp
  have hgo:(Region.wanted o (yielded ops a.tmps)=true->o.wp P a w (wpOps P ops Q ((List.range ops.size).drop (k+1))) Q)/\(¬Region.wanted o (yielded ops a.tmps)=true->wpOps P ops Q ((List.range ops.size).drop (k+1)) (a.put o.dst undef) w):=by
   split at hp
   ·rename_i hg
    exact⟨λ_=>step hp,λhn=>absurd (by simp[Region.wanted,hg]) hn⟩
   ·rename_i j want hg
    split at hp
    ·rename_i x hx
     have hw:Region.wanted o (yielded ops a.tmps)=(x==some want):=by simp[Region.wanted,hg,K9 h hx]
     rw[hw]
     exact⟨λhx=>step (hp.1 (by simpa using hx)),λhx=>skip (hp.2 (by simpa using hx))⟩
    ·exact hp.elim
  by_cases hw:Region.wanted o (yielded ops a.tmps)=true
  ·rw[vad hw];exact .inl (hgo.1 hw)
  ·rw[vab hw];exact hgo.2 hw
theorem Gt{bs0:bG}{A:List Nat}{ops:Array Oper}{K:aF->Prop}{Q:Exit->Act->World->Prop}(hR:Sl P E bs0 st a w)(hl:bs0.length<=st.boxes.length)
  (hQ:∀a' w' st',a'.defers=a.defers->Sl P E bs0 st' a' w'->K st'->Q .normal a' w') (hp:cD P E.GE A ops K ops.toList st.boxes.length {st with boxes:=st.boxes++fg P ops.toList}):
  wpOps P ops Q (List.range ops.size) a w:=by
 obtain⟨Γ,bs,ow,h,hk⟩:=hR
 have hext:=h.extend (fg P ops.toList)
 have hlen:=CK P ops.toList
 have:=B3 (P:=P) (E:=E) (bs0:=bs0) (ds:=a.defers) hQ ops.toList 0 st.boxes.length Γ _ ow a w _ (λj=>by simp) hext rfl (λi hi=>?_) hl (λm hm1 hm2=>?_) hp
 ·simpa using this
 ·rw[van (by rw[h.bl];omega)];exact hk i hi
 ·rw[vav (by rw[h.bl];omega),va8,vad (by rw[h.bl];omega)]
end
def PH(ro:Option Nat)(P:Program)(c:Code)(Q:Exit->Act->World->Prop)(a:Act)(w:World):Prop:=match ro with
 |none=>c.wp P Q a w
 |some l=>∀n,c.wpIn (Fence.wide.inRound l) n P Q a w
def fw(o:Oper):Bool:=match o.op with
 |.defer _=>false
 |_=>true
section
variable{P:Program}{ro:Option Nat}{Q:Exit->Act->World->Prop}{a:Act}{w:World}
theorem pO{c:Code}{Q':Exit->Act->World->Prop}(h:PH ro P c Q a w)(hq:∀e a w,Q e a w->Q' e a w):PH ro P c Q' a w:=by
 cases ro with
 |none=>exact wp_mono h hq
 |some l=>exact λn=>wpIn_mono (h n) hq
theorem Y1(h:Q .normal a w):PH ro P .skip Q a w:=by
 cases ro with
 |none=>exact wp_skip h
 |some l=>exact λn=>wpIn_skip h
theorem W2{l:Nat}(h:Q .normal a w):PH ro P (.label l) Q a w:=by
 cases ro with
 |none=>exact wp_label h
 |some l=>exact λn=>wpIn_label h
theorem Y0{id:Nat}(h:Q (.exit id) a w):PH ro P (.exit id) Q a w:=by
 cases ro with
 |none=>exact wp_exit h
 |some l=>exact λn=>wpIn_exit h
theorem qbB(h:Q .ret a w):PH ro P .ret Q a w:=by
 cases ro with
 |none=>exact wp_ret h
 |some l=>exact λn=>wpIn_ret h
theorem qbC{x y:Code}(h:PH ro P x (Exit.then (PH ro P y Q) Q) a w):PH ro P (.seq x y) Q a w:=by
 cases ro with
 |none=>exact wp_seq h
 |some l=>exact λn=>wpIn_seq (wpIn_mono (h n) λe a w hq=>by cases e<;>first|exact hq n|exact hq)
theorem YZ{c:Operand}{x y:Code}{t:Bool}(hc:a.eval c=.bool t)(h1:t=true->PH ro P x Q a w)(h2:t=false->PH ro P y Q a w):PH ro P (.cond c x y) Q a w:=by
 cases t with
 |true=>cases ro with
  |none=>exact wp_cond hc (h1 rfl)
  |some l=>exact λn=>wpIn_cond hc (h1 rfl n)
 |false=>cases ro with
  |none=>exact wp_cond hc (h2 rfl)
  |some l=>exact λn=>wpIn_cond hc (h2 rfl n)
theorem W1{id:Nat}{c:Code}(h:PH ro P c (Exit.inBlock id Q) a w):PH ro P (.block id c) Q a w:=by
 cases ro with
 |none=>exact wp_block h
 |some l=>exact λn=>wpIn_block (h n)
theorem MY{c:Code}(I:Nat->Act->World->Prop)(n₀:Nat)(h₀:I n₀ a w)(round:∀n a w,I n a w->PH ro P c (Exit.then (λa' w'=>∃n',n'<n/\I n' a' w') Q) a w):PH ro P (.loop c) Q a w:=by
 cases ro with
 |none=>exact wp_loop_ghost I n₀ h₀ round
 |some l=>exact λn=>wpIn_loop_ghost I n₀ h₀ λk a w hI=>round k a w hI n
theorem qcr{l n:Nat}{row:String}{args:Array Value}{R:Value->World->Prop}(h:Rows P row args w R):RowsIn (Fence.wide.inRound l) n P row args w R:=λc cs _=>by
 obtain⟨v,w',r,s⟩:=h c cs
 exact⟨v,w',r,by rw[fenced_inRound];exact stepsIn_wide.2 s⟩
theorem YS{l n:Nat}{f:FuncId}{args:Array Value}{R:Ending->World->Prop}(h:Calls P f args w R):CallsIn (Fence.wide.inRound l) n P f args w R:=CallsIn.inRound l (callsIn_wide.2 h)
theorem V8{l n:Nat}{o:Oper}{next:Act->World->Prop}(hd:fw o=true)(h:o.wp P a w next Q):o.wpIn (Fence.wide.inRound l) n P a w next Q:=by
 refine⟨λ_ _=>trivial,?_⟩
 have hs:o.semAt (Fence.wide.inRound l).round a.eval=execOp a.eval o:=Oper.semAt_eq _ _ _ λc hc=>by unfold fw at hd;rw[hc]at hd;cases hd
 rw[hs]
 unfold Oper.wp at h
 generalize (execOp a.eval o).run P w=r at *
 have hdep:(Fence.wide.inRound l).depth.isSome=true->1<=n:=λh=>by simp[Fence.wide]at h
 cases r with
 | ok x w' =>
  cases x<;>simp only[Oper.upon]at h<;>simp only[Oper.uponIn]<;>first
   |exact h.elim
   |exact h
   |exact⟨hdep,YS h⟩
   |exact⟨hdep,qcr h⟩
 |halt x w'=>cases x<;>simp only[Oper.upon]at h<;>simp only[Oper.uponIn]<;>exact h
theorem II{l n:Nat}{ops:Array Oper}(hd:ops.toList.all fw=true)(hQ:¬LetsOut Q):∀(L:List Nat) (a:Act) (w:World),wpOps P ops Q L a w->wpOpsIn (Fence.wide.inRound l) n P ops Q L a w
 |[],a,w,h=>h
 | i :: rest,a,w,h => by
  unfold wpOps at h
  unfold wpOpsIn
  split at h
  ·rename_i ho;simp only[ho];exact II hd hQ rest a w h
  ·rename_i o ho
   simp only[ho]
   have hn:fw o=true:=vak.1 hd o (by
    have:=vcF ho
    simpa using this)
   split at h
   ·rename_i hw
    rw[vad hw]
    rcases h with h|h
    ·exact Oper.wpIn_mono (λa w h=>II hd hQ rest a w h) (V8 hn h)
    ·exact absurd h.2 hQ
   ·rename_i hw
    rw[vab hw]
    exact⟨λ_ _=>trivial,II hd hQ rest _ w h⟩
theorem qb6{l n:Nat}{ops:Array Oper}(hd:ops.toList.all fw=true)(hQ:¬LetsOut Q){i:Nat}{K:Act->World->Prop}(h:wpOp P ops Q i K a w):wpOpIn (Fence.wide.inRound l) n P ops Q i K a w:=by
 unfold wpOp at h
 unfold wpOpIn
 split at h
 ·rename_i ho;simp only[ho];exact h
 ·rename_i o ho
  simp only[ho]
  have hn:fw o=true:=vak.1 hd o (by
   have:=vcF ho
   simpa using this)
  split at h
  ·rename_i hw
   rw[vad hw]
   rcases h with h|h
   ·exact V8 hn h
   ·exact absurd h.2 hQ
  ·rename_i hw
   rw[vab hw]
   exact⟨λ_ _=>trivial,h⟩
theorem SB{l n:Nat}{md:Region.Mode}{ops:Array Oper}(hd:ops.toList.all fw=true)(hQ:¬LetsOut Q):∀(fuel:Nat) (listed:Array Bool) (a:Act) (w:World),wpAny P md ops Q fuel listed a w->wpAnyIn (Fence.wide.inRound l) n P md ops Q fuel listed a w
 |0,_,_,_,h=>h
 |fuel+1,_,_,_,h=>⟨h.1,λi hi=>wpOpIn_mono (λa w h=>SB hd hQ fuel _ a w h) (qb6 hd hQ (h.2 i hi))⟩
theorem Uy{id:Nat}{ops:Array Oper}(hd:ops.toList.all fw=true)(hQ:¬LetsOut Q)(h:wpOps P ops Q (List.range ops.size) a w):PH ro P (.region id ops false) Q a w:=by
 cases ro with
 |none=>exact wp_region h
 |some l=>exact λn=>wpIn_region (II hd hQ _ _ _ h)
theorem DT{id:Nat}{ops:Array Oper}(hf:P.follows .mixedOrders=true)(hd:ops.toList.all fw=true)(hQ:¬LetsOut Q)
  (h:wpAny P .any ops Q ops.size (Array.replicate ops.size false) a {w with drawn:=w.drawn+1}):PH ro P (.region id ops true) Q a w:=by
 cases ro with
 |none=>exact wp_region_any hf h
 |some l=>exact λn=>wpIn_region_any hf (SB hd hQ _ _ _ _ h)
end
section plain
variable{σ X:Type}
def uS(body:σ->Option (σ⊕X)):Nat->σ->Option X
 |0,_=>none
 |n+1,s=>match body s with
  |none=>none
  |some (.inl s')=>uS body n s'
  |some (.inr x)=>some x
theorem Nv{body:σ->Option (σ⊕X)}:∀{n:Nat} {s:σ} {x:X},uS body n s=some x->∀k,uS body (n+k) s=some x
 |0,_,_,h,_=>by cases h
 | n + 1,s,x,h,k => by
  rw[Nat.add_right_comm]
  unfold uS at h ⊢
  split at h
  ·cases h
  ·exact Nv h k
  ·exact h
theorem PU{body:σ->Option (σ⊕X)}{n m:Nat}{s:σ}{x y:X}(h1:uS body n s=some x)(h2:uS body m s=some y):x=y:=by
 have h3:=Nv h1 m
 have h4:=Nv h2 n
 rw[vcE]at h4
 exact va3 (h3.symm.trans h4)
open Classical in
def ZB(body:σ->Option (σ⊕X))(s:σ):Option X:=if h:∃x n,uS body n s=some x then some h.choose else none
def Uo:Nat:=2 ^ 200
def loop(body:σ->Option (σ⊕X))(s:σ):Option X:=match uS body Uo s with
 |some x=>some x
 |none=>ZB body s
theorem E6{body:σ->Option (σ⊕X)}{s:σ}{x:X}:loop body s=some x↔∃n,uS body n s=some x:=by
 have hC:ZB body s=some x↔∃n,uS body n s=some x:=by
  unfold ZB
  constructor
  ·intro h
   split at h
   ·rename_i he;cases h;exact he.choose_spec
   ·cases h
  ·rintro⟨n,h⟩
   have he:∃x n,uS body n s=some x:=⟨x,n,h⟩
   rw[dif_pos he]
   obtain⟨m,hm⟩:=he.choose_spec
   rw[PU hm h]
 unfold loop
 split
 ·rename_i y hy
  exact⟨λh=>⟨Uo,hy.trans h⟩,λ⟨n,h⟩=>va6 some (PU hy h)⟩
 ·exact hC
theorem jh(body:σ->Option (σ⊕X))(s:σ):loop body s=match body s with
  |none=>none
  |some (.inl s')=>loop body s'
  |some (.inr x)=>some x:=by
 have key:∀y,loop body s=some y↔(match body s with
  |none=>none
  |some (.inl s')=>loop body s'
  |some (.inr x)=>some x)=some y:=by
  intro y
  rw[E6]
  constructor
  ·rintro⟨n,h⟩
   cases n with
   |zero=>cases h
   | succ n =>
    unfold uS at h
    cases hb:body s with
    |none=>rw[hb]at h;cases h
    |some v=>
     cases v with
     |inl s'=>rw[hb]at h;exact E6.2 ⟨n,h⟩
     |inr x=>rw[hb]at h;exact h
  ·intro h
   cases hb:body s with
   |none=>rw[hb]at h;cases h
   | some v =>
    cases v with
    |inl s'=>
     rw[hb]at h
     obtain⟨n,hn⟩:=E6.1 h
     exact⟨n+1,by unfold uS;rw[hb];exact hn⟩
    |inr x=>rw[hb]at h;exact⟨1,by unfold uS;rw[hb];exact h⟩
 cases h1:loop body s with
 | none =>
  cases h2:(match body s with
   |none=>none
   |some (.inl s')=>loop body s'
   |some (.inr x)=>some x)with
  |none=>rfl
  |some y=>rw[(key y).2 h2]at h1;cases h1
 |some y=>exact((key y).1 h1).symm
def dh{α:Type}(l:List α)(i:Int):Option α:=if 0<=i then l[i.toNat]? else none
theorem Gd{α β:Type}{o:Option α}{k:α->Option β}{x:β}(h:o.bind k=some x):∃a,o=some a/\k a=some x:=by
 cases o with
 |none=>cases h
 |some a=>exact⟨a,rfl,h⟩
theorem n9{β:Type}{b:Bool}{x y:Option β}{z:β}(h:(if b=true then x else y)=some z):(b=true/\x=some z)\/(b=false/\y=some z):=by
 cases b
 ·exact .inr ⟨rfl,h⟩
 ·exact .inl ⟨rfl,h⟩
end plain
structure Mx(GE:List (Nat×List PVal))(m:Nat)(E:tS):Prop where
 ge:E.GE=GE
 low:∀b n,E.Γ b=some n->b<E.w.heap.size
 nt:m=0->∀b,¬E.T b
 gl:∀g cs,(g,cs)∈GE->VR E.Γ [] E.w (.eptr cs) (.pointer (some ⟨g,0,none⟩))
def d6(P:Program)(GE:List (Nat×List PVal))(m:Nat)(c:Code)(Q:Exit->aF->Prop)(st:aF):Prop:=
 ∀(ro:Option Nat) (E:tS) (bs0:bG) (a:Act) (w:World),Mx GE m E->bs0.length=m % 1000->Sl P E bs0 st a w->PH ro P c (Pr P E bs0 a.defers Q) a w
def EX(e:Exit)(st:aF):Exit->aF->Prop:=λe' st'=>e'=e/\st'=st
def zy(P:Program)(m:Nat)(st st':aF):Prop:=∀(E:tS) (bs0:bG) (a:Act) (w:World),bs0.length=m % 1000->Sl P E bs0 st a w->Sl P E bs0 st' a w
section
variable{P:Program}{GE:List (Nat×List PVal)}{m:Nat}
theorem zy.refl(st:aF):zy P m st st:=λ_ _ _ _ _ h=>h
theorem zy.trans{a b c:aF}(h:zy P m a b)(h':zy P m b c):zy P m a c:=λE bs0 x w hb h0=>h' E bs0 x w hb (h E bs0 x w hb h0)
theorem zy.of_less{st st':aF}(h:qeV st st')(hm:m % 1000<=st'.boxes.length):zy P m st st':=λ_ _ _ _ hb hR=>hR.less h (by rw[hb];exact hm)
theorem d6.mono{c:Code}{Q Q':Exit->aF->Prop}{st:aF}(h:d6 P GE m c Q st)(hq:∀e st,Q e st->∃st',zy P m st st'/\Q' e st'):d6 P GE m c Q' st:=
 λro E bs0 a w hE hb hR=>pO (h ro E bs0 a w hE hb hR) λe a' w' hP=>by
  obtain⟨hd,st1,hR1,hQ⟩:=hP
  obtain⟨st2,hw,hQ2⟩:=hq e st1 hQ
  exact⟨hd,st2,hw E bs0 a' w' hb hR1,hQ2⟩
theorem d6.imp{c:Code}{Q Q':Exit->aF->Prop}{st:aF}(h:d6 P GE m c Q st)(hq:∀e st,Q e st->Q' e st):d6 P GE m c Q' st:=h.mono λe st hQ=>⟨st,.refl st,hq e st hQ⟩
theorem d6.weak{c:Code}{Q:Exit->aF->Prop}{st st':aF}(hw:zy P m st st')(h:d6 P GE m c Q st'):d6 P GE m c Q st:=
 λro E bs0 a w hE hb hR=>h ro E bs0 a w hE hb (hw E bs0 a w hb hR)
theorem d6.skip{Q:Exit->aF->Prop}{st:aF}(h:Q .normal st):d6 P GE m .skip Q st:=λ_ _ _ _ _ _ _ hR=>Y1 ⟨rfl,st,hR,h⟩
theorem d6.label{l:Nat}{Q:Exit->aF->Prop}{st:aF}(h:Q .normal st):d6 P GE m (.label l) Q st:=λ_ _ _ _ _ _ _ hR=>W2 ⟨rfl,st,hR,h⟩
theorem d6.exit{id:Nat}{Q:Exit->aF->Prop}{st:aF}(h:Q (.exit id) st):d6 P GE m (.exit id) Q st:=λ_ _ _ _ _ _ _ hR=>Y0 ⟨rfl,st,hR,h⟩
theorem d6.ret{Q:Exit->aF->Prop}{st:aF}(h:Q .ret st):d6 P GE m .ret Q st:=λ_ _ _ _ _ _ _ hR=>qbB ⟨rfl,st,hR,h⟩
theorem d6.seq{x y:Code}{Q:Exit->aF->Prop}{st:aF}(h:d6 P GE m x (λe st'=>match e with|.normal=>d6 P GE m y Q st'|e=>Q e st') st):d6 P GE m (.seq x y) Q st:=by
 intro ro E bs0 a w hE hb hR
 refine qbC (pO (h ro E bs0 a w hE hb hR) λe a' w' hq=>?_)
 obtain⟨hd,st',hR',hq⟩:=hq
 cases e with
 |normal=>
  have:=hq ro E bs0 a' w' hE hb hR'
  rw[hd]at this
  exact this
 |exit id=>exact⟨hd,st',hR',hq⟩
 |goto l=>exact⟨hd,st',hR',hq⟩
 |ret=>exact⟨hd,st',hR',hq⟩
 |panic c=>exact⟨hd,st',hR',hq⟩
 |outgrown=>exact⟨hd,st',hR',hq⟩
theorem d6.cond{c:Operand}{x y:Code}{Q:Exit->aF->Prop}{st:aF}{t:Bool}(hv:opv GE st.tmps c=.bool t)(h1:t=true->d6 P GE m x Q st)(h2:t=false->d6 P GE m y Q st):d6 P GE m (.cond c x y) Q st:=by
 intro ro E bs0 a w hE hb hR
 obtain⟨Γ,bs,ow,h,hk⟩:=hR
 have hv':=h.opv a.defers c
 rw[hE.ge,hv]at hv'
 generalize hc:(Act.mk a.tmps a.defers).eval c=vc at hv'
 cases hv'
 exact YZ (t:=t) hc (λht=>h1 ht ro E bs0 a w hE hb ⟨Γ,bs,ow,h,hk⟩) (λht=>h2 ht ro E bs0 a w hE hb ⟨Γ,bs,ow,h,hk⟩)
theorem d6.block{id:Nat}{c:Code}{Q:Exit->aF->Prop}{st:aF}(h:d6 P GE m c (QI id Q) st):d6 P GE m (.block id c) Q st:=by
 intro ro E bs0 a w hE hb hR
 refine W1 (pO (h ro E bs0 a w hE hb hR) λe a' w' hq=>?_)
 obtain⟨hd,st',hR',hq⟩:=hq
 cases e with
 | exit id' =>
  simp only[QI]at hq
  simp only[Exit.inBlock]
  split at hq
  ·rename_i hid;rw[vad hid];exact⟨hd,st',hR',hq⟩
  ·rename_i hid;rw[vab hid];exact⟨hd,st',hR',hq⟩
 |normal=>exact⟨hd,st',hR',hq⟩
 |goto l=>exact⟨hd,st',hR',hq⟩
 |ret=>exact⟨hd,st',hR',hq⟩
 |panic c=>exact⟨hd,st',hR',hq⟩
 |outgrown=>exact⟨hd,st',hR',hq⟩
theorem d6.text{A:List Nat}{id:Nat}{ops:Array Oper}{Q:Exit->aF->Prop}{st:aF}(hd:ops.toList.all fw=true)
  (h:cD P GE A ops (Q .normal) ops.toList st.boxes.length {st with boxes:=st.boxes++fg P ops.toList}):d6 P GE m (.region id ops false) Q st:=by
 intro ro E bs0 a w hE hb hR
 obtain⟨rfl,_,_,_⟩:=hE
 refine pO (Uy (Q:=λe a' w'=>e=.normal/\Pr P E bs0 a.defers Q .normal a' w') hd (by rintro⟨_,_,h,_⟩;cases h) ?_) λe a' w' hq=>by obtain⟨rfl,hq⟩:=hq;exact hq
 exact Gt hR hR.len (λa' w' st' hd hR' hK=>⟨rfl,hd,st',hR',hK⟩) h
def LQ{σ X:Type}(S:σ->aF)(ex:X->Exit)(so:X->aF):σ⊕X->Exit->aF->Prop
 |.inl s,e,st=>e=.normal/\st=S s
 |.inr x,e,st=>e≠.normal/\e=ex x/\st=so x
theorem d6.loop{σ X:Type}{S:σ->aF}{ex:X->Exit}{so:X->aF}{body:σ->Option (σ⊕X)}{c:Code}{s:σ}{x:X}(h:loop body s=some x)
  (hb:∀s y,body s=some y->d6 P GE m c (LQ S ex so y) (S s)):d6 P GE m (.loop c) (EX (ex x) (so x)) (S s):=by
 obtain⟨n,hn⟩:=E6.1 h
 intro ro E bs0 a w hE hb0 hR
 refine MY (λk a' w'=>a'.defers=a.defers/\∃s',Sl P E bs0 (S s') a' w'/\uS body k s'=some x) n ⟨rfl,s,hR,hn⟩ ?_
 intro k a1 w1 hI
 obtain⟨hd1,s1,hR1,hl⟩:=hI
 cases k with
 |zero=>cases hl
 | succ k =>
  unfold uS at hl
  split at hl
  ·cases hl
  ·rename_i s2 hs2
   refine pO (hb s1 _ hs2 ro E bs0 a1 w1 hE hb0 hR1) λe a' w' hq=>?_
   obtain⟨hd,st',hR',rfl,rfl⟩:=hq
   exact⟨k,vcA k,hd.trans hd1,s2,hR',hl⟩
  ·rename_i x2 hs2
   cases hl
   refine pO (hb s1 _ hs2 ro E bs0 a1 w1 hE hb0 hR1) λe a' w' hq=>?_
   obtain⟨hd,st',hR',hne,rfl,rfl⟩:=hq
   have hd':=hd.trans hd1
   cases hex:ex x with
   |normal=>exact absurd hex hne
   |exit id=>exact⟨hd',_,hR',rfl,rfl⟩
   |goto l=>exact⟨hd',_,hR',rfl,rfl⟩
   |ret=>exact⟨hd',_,hR',rfl,rfl⟩
   |panic c=>exact⟨hd',_,hR',rfl,rfl⟩
   |outgrown=>exact⟨hd',_,hR',rfl,rfl⟩
def PJ:List PVal->List PVal->List PVal
 |[],_=>[]
 |_::ps,[]=>.undef::PJ ps []
 |_::ps,.undef::qs=>.undef::PJ ps qs
 |p::ps,_::qs=>p::PJ ps qs
def xV:aB->aB->aB
 |_,.dead=>.dead
 |.cells cs own,.cells _ own'=>.cells cs (match own'.all λx=>decide (x∈own)with
  |true=>own'
  |false=>own)
 |p,_=>p
def So:List aB->List aB->List aB
 |[],_=>[]
 |p::ps,[]=>p::So ps []
 |p::ps,q::qs=>xV p q::So ps qs
def qju(B B':aB):Prop:=B=.dead\/B=B'\/∃cs own own',B'=.cells cs own/\B=.cells cs own'/\∀x∈own',x∈own
theorem VH(p q:aB):qju (xV p q) p:=by
 unfold xV
 split
 ·exact .inl rfl
 ·split
  ·rename_i h
   exact .inr (.inr ⟨_,_,_,rfl,rfl,λx hx=>by simpa using vak.1 h x hx⟩)
  ·exact .inr (.inl rfl)
 ·exact .inr (.inl rfl)
theorem SP(p:PVal)(ps qs:List PVal):∃q r,PJ (p::ps) qs=q::PJ ps r/\(q=.undef\/q=p):=by
 cases qs with
 |nil=>exact⟨_,[],by simp[PJ],.inl rfl⟩
 |cons q qs=>cases q<;>first|(refine⟨p,qs,?_,.inr rfl⟩;simp only[PJ];done)|(refine⟨.undef,qs,?_,.inl rfl⟩;simp only[PJ];done)
theorem Q8:∀{l bs:List PVal} {i:Nat} {p:PVal},(PJ l bs)[i]? =some p->p=.undef\/l[i]? =some p
 |[],bs,i,p,h=>by simp[PJ]at h
 |q::l,bs,i,p,h=>by
  obtain⟨q',r,h1,h2⟩:=SP q l bs
  rw[h1]at h
  cases i with
  |zero=>simp at h;subst h;rcases h2 with h2|h2<;>simp[h2]
  |succ i=>simpa using Q8 (by simpa using h)
theorem Q9:∀{l bs:List PVal},(PJ l bs).length=l.length
 |[],bs=>by simp[PJ]
 |q::l,bs=>by obtain⟨q',r,h1,h2⟩:=SP q l bs;rw[h1];simp[Q9]
theorem Mk:∀{l bs:List aB} {i:Nat} {B:aB},(So l bs)[i]? =some B->∃B',l[i]? =some B'/\qju B B'
 |[],bs,i,p,h=>by simp[So]at h
 |q::l,[],i,B,h=>by
  simp only[So]at h
  cases i with
  |zero=>simp at h;subst h;exact⟨q,rfl,.inr (.inl rfl)⟩
  |succ i=>simpa using Mk (by simpa using h)
 |q::l,r::bs,i,B,h=>by
  simp only[So]at h
  cases i with
  |zero=>simp at h;subst h;exact⟨q,rfl,VH q r⟩
  |succ i=>simpa using Mk (by simpa using h)
theorem Q7:∀{l bs:List aB},(So l bs).length=l.length
 |[],bs=>by simp[So]
 |q::l,[]=>by simp only[So,vaM,Q7]
 |q::l,r::bs=>by simp only[So,vaM,Q7]
theorem zy.forget{st:aF}(bt:List PVal)(bb:List aB)(own:List ((Nat×Nat)×TypeId))(ho:∀x∈own,x∈st.own):zy P m st ⟨PJ st.tmps bt,So st.boxes bb,own⟩:=by
 intro E bs0 a w hb hR
 obtain⟨Γ,bs,ow,h,hk⟩:=hR
 refine⟨Γ,bs,ow,?_,hk⟩
 exact{h with
  sz:=by rw[h.sz];exact Q9.symm
  tm:=λt p v hp hv=>by
   rcases Q8 hp with rfl|hp'
   ·exact .undef v
   ·exact h.tm t p v hp' hv
  bl:=by rw[h.bl];exact Q7.symm
  bx:=λi b B hib hB=>by
   obtain⟨B',hB',hx⟩:=Mk hB
   obtain⟨k1,k2,k3⟩:=h.bx i b B' hib hB'
   rcases hx with rfl|rfl|⟨cs,own,own',rfl,rfl,_⟩
   ·exact⟨k1,k2,vzz⟩
   ·exact⟨k1,k2,k3⟩
   ·exact⟨k1,k2,k3⟩
  ot:=λt k e he=>h.ot t k e (ho _ he)
  ob:=λi j e cs own' b hB hj hib=>by
   obtain⟨B',hB',hx⟩:=Mk hB
   rcases hx with hx|rfl|⟨cs1,own1,own2,rfl,e2,hs⟩
   ·cases hx
   ·exact h.ob i j e cs own' b hB' hj hib
   ·cases e2;exact h.ob i j e _ own1 b hB' (hs _ hj) hib}
theorem EX.of{c:Code}{e:Exit}{st st0:aF}{Q:Exit->aF->Prop}(h:d6 P GE m c (EX e st0) st)(hq:Q e st0):d6 P GE m c Q st:=
 h.imp λe' st' hx=>by obtain⟨rfl,rfl⟩:=hx;exact hq
end
structure GC where
 ρ:List Nat
 argsC:List PVal
 oa:List OA
 Bs:List aB
 Hc:List aB
 Bs':List aB
 Hc':List aB
 r:PVal
 rc:PVal
 ro:List (Nat×TypeId)
inductive It where
 |cg (c:GC)
 |cn (c:GC)
 |ar (i:Nat) (e:TypeId) (n:Nat) (cs:List PVal)
 |fz (i:Nat) (es:List (List PVal)) (lv rk:List Nat)
 |g (j:Nat) (b:Bool)
 |k
 |s
 |v (p:PVal)
 |x (cs:List PVal)
 |w (i:Nat) (B:aB)
 |c (r:PVal) (ro:List (Nat×TypeId))
 |dr (an:List Nat)
 |dx (an:List Nat) (X:List aB) (br:List (Nat×Nat)) (rw:List Nat)
 |pa (n:Nat)
 |pc (st0:aF) (e:Exit) (st1:aF)
 |b (p:PVal) (L:List (Nat×TypeId))
 |y (vs:List PVal)
 |z (l:List PVal)
 |e (vs:List PVal)
def zA:List PVal->Nat->(PVal->Prop)->Prop
 |[],_,k=>k .undef
 |p::_,0,k=>k p
 |_::l,n+1,k=>zA l n k
theorem iu:∀(l:List PVal) (n:Nat) (k:PVal->Prop),zA l n k=k (l.getD n .undef)
 |[],_,_=>by simp[zA]
 |_::_,0,_=>by simp[zA]
 |_::l,n+1,k=>by simp only[zA,iu l n k,List.getD_cons_succ]
def fK{α:Type}:List α->Nat->α->(List α->Prop)->Prop
 |[],_,_,k=>k []
 |_::l,0,v,k=>k (v::l)
 |x::l,n+1,v,k=>fK l n v λl'=>k (x::l')
theorem bF{α:Type}:∀(l:List α) (n:Nat) (v:α) (k:List α->Prop),fK l n v k=k (l.set n v)
 |[],_,_,_=>by simp[fK]
 |_::_,0,_,_=>by simp[fK]
 |x::l,n+1,v,k=>by simp only[fK,bF l n v,List.set_cons_succ]
def bz{α:Type}:List α->(List α->Prop)->Prop
 |[],k=>k []
 |x::l,k=>bz l λl'=>k (x::l')
def WQ(l:List aB)(r:List aB)(k:List aB->Prop):Prop:=bz (l++r) k
theorem aO{α:Type}:∀(l:List α) (k:List α->Prop),bz l k=k l
 |[],_=>rfl
 |x::l,k=>by simp only[bz,aO l]
def qdB:Value->(PVal->Prop)->Prop
 |.int a n,k=>k (.int a n)
 |.bool b,k=>k (.bool b)
 |.string s,k=>bz s.data.toList λl=>k (.str l)
 |v,k=>k (absV v)
theorem qbd(v:Value)(k:PVal->Prop):qdB v k=k (absV v):=by
 unfold qdB
 split
 ·rfl
 ·rfl
 ·rw[aO];rfl
 ·rfl
def qW(GE:List (Nat×List PVal))(tmps:List PVal)(x:Operand)(k:PVal->Prop):Prop:=
 match x with
 |.tmp t=>zA tmps t k
 |.const v=>qdB v k
 |x=>k (opv GE tmps x)
theorem cb(GE:List (Nat×List PVal))(tmps:List PVal)(x:Operand)(k:PVal->Prop):qW GE tmps x k=k (opv GE tmps x):=by
 cases x with
 |tmp t=>exact iu _ _ _
 |const v=>exact qbd _ _
 |global g=>rfl
 |func f=>rfl
def Pe(GE:List (Nat×List PVal))(tmps:List PVal):List Operand->(List PVal->Prop)->Prop
 |[],k=>k []
 |x::l,k=>qW GE tmps x λp=>Pe GE tmps l λps=>k (p::ps)
theorem mz(GE:List (Nat×List PVal))(tmps:List PVal):∀(l:List Operand) (k:List PVal->Prop),Pe GE tmps l k=k (l.map (opv GE tmps))
 |[],_=>rfl
 |x::l,k=>by simp only[Pe,cb,mz GE tmps l,vae]
def BJ(GE:List (Nat×List PVal))(tmps:List PVal):List (Nat×Operand)->(List (Nat×PVal)->Prop)->Prop
 |[],k=>k []
 |x::l,k=>qW GE tmps x.2 λp=>BJ GE tmps l λps=>k ((x.1,p)::ps)
theorem rA(GE:List (Nat×List PVal))(tmps:List PVal):∀(l:List (Nat×Operand)) (k:List (Nat×PVal)->Prop),BJ GE tmps l k=k (l.map λx=>(x.1,opv GE tmps x.2))
 |[],_=>rfl
 |x::l,k=>by simp only[BJ,cb,rA GE tmps l,vae]
def qb8(GE:List (Nat×List PVal))(tmps:List PVal):Option Operand->(Option PVal->Prop)->Prop
 |none,k=>k none
 |some x,k=>qW GE tmps x λp=>k (some p)
theorem qb9(GE:List (Nat×List PVal))(tmps:List PVal)(o:Option Operand)(k:Option PVal->Prop):qb8 GE tmps o k=k (o.map (opv GE tmps)):=by
 cases o with
 |none=>rfl
 |some x=>simp only[qb8,cb,vaj]
def Hx(sc:List It)(f:PVal->Prop)(K:PVal->List It->Prop):Prop:=
 match sc with
 |.v p::sc'=>f p/\K p sc'
 |_=>False
def O4(o:Option PVal)(K:PVal->Prop):Prop:=
 match o with
 |some p=>K p
 |none=>False
theorem yU{o:Option PVal}{K:PVal->Prop}(h:O4 o K):∃p,o=some p/\K p:=by
 unfold O4 at h
 split at h
 ·exact⟨_,rfl,h⟩
 ·exact h.elim
theorem mF{sc:List It}{f:PVal->Prop}{K:PVal->List It->Prop}(h:Hx sc f K):∃p sc',f p/\K p sc':=by
 unfold Hx at h
 split at h
 ·exact⟨_,_,h⟩
 ·exact h.elim
def CC(P:Program)(GE:List (Nat×List PVal))(g:FuncId)(args:List PVal)(r:PVal)(ro:List (Nat×TypeId)):Prop:=iG 0 args/\C P GE g args [] [] r ro []
def NV(P:Program)(t:TypeId)(es:List (PVal×PVal))(k:PVal)(ok:Bool):Option PVal:=
 match P.underlying t with
 | some (.map kt e) => match P.underlying kt with
  | some kd =>
   if oc kd k then
    match Eg k es 0,Kr P e with
    |some (some (_,v)),_=>some (if ok then .tuple [v,.bool true]else v)
    |some none,some z=>some (if ok then .tuple [z,.bool false]else z)
    |_,_=>none
   else none
  |_=>none
 |_=>none
theorem XY{P:Program}{t:TypeId}{es:List (PVal×PVal)}{k p:PVal}{ok:Bool}{H:List aB}{i:Nat}(hB:H[i]? =some (.map es))(h:NV P t es k ok=some p):y2 P t (.mapr i) k ok H=some p:=by
 unfold NV at h
 unfold y2
 split at h
 ·rename_i kt e hu
  split at h
  ·rename_i kd hk
   simp only[hu,hB,hk]
   exact h
  ·cases h
 ·cases h
def P7(P:Program)(t:TypeId)(es:List (PVal×PVal))(k v:PVal):Option (List (PVal×PVal)):=
 match P.underlying t with
 | some (.map kt _) => match P.underlying kt with
  | some kd =>
   if oc kd k then
    match Eg k es 0 with
    |some (some (j,_))=>some (es.set j (k,v))
    |some none=>some (es++[(k,v)])
    |none=>none
   else none
  |_=>none
 |_=>none
theorem TM{P:Program}{t:TypeId}{es es':List (PVal×PVal)}{k v:PVal}{H:List aB}{i:Nat}(hB:H[i]? =some (.map es))(h:P7 P t es k v=some es'):gH P t (.mapr i) k v H=some (H.set i (.map es')):=by
 unfold P7 at h
 unfold gH
 split at h
 ·rename_i kt e hu
  split at h
  ·rename_i kd hk
   simp only[hu,hB,hk]
   split at h
   ·rename_i hkk
    rw[vad hkk]
    split at h
    ·rename_i hf;cases h;simp[hf]
    ·rename_i hf;cases h;simp[hf]
    ·cases h
   ·cases h
  ·cases h
 ·cases h
def lN:List aB->Nat->(aB->Prop)->Prop
 |[],_,_=>False
 |B::_,0,k=>k B
 |_::l,n+1,k=>lN l n k
theorem d5:∀{l:List aB} {n:Nat} {k:aB->Prop},lN l n k->∃B,l[n]? =some B/\k B
 |[],_,_,h=>h.elim
 |B::_,0,_,h=>⟨B,rfl,h⟩
 |_::l,n+1,k,h=>by simp only[lN]at h;obtain⟨B,h1,h2⟩:=d5 h;exact⟨B,by simpa using h1,h2⟩
def Xj(op:BinOp)(x:PVal):Bool:=match op,x with
 |.quo,_=>true
 |.rem,_=>true
 |.add,.str _=>true
 |_,.agg _=>true
 |_,_=>false
def VG(P:Program)(GE:List (Nat×List PVal))(op:Op)(tmps:List PVal)(H:List aB)(sc:List It)(K:PVal->List aB->List It->Prop):Prop:=
 match op with
 |.move x=>qW GE tmps x λp=>K p H sc
 |.assign x=>qW GE tmps x λp=>K p H sc
 |.pick c x y=>qW GE tmps c λpc=>match pc with
  |.bool true=>qW GE tmps x λp=>K p H sc
  |.bool false=>qW GE tmps y λp=>K p H sc
  |_=>False
 |.binOp op T x y _=>qW GE tmps x λvx=>qW GE tmps y λvy=>match Xj op vx with
  |true=>Hx sc (λp=>Z2 P op T vx vy=some p) λp sc'=>K p H sc'
  |false=>O4 (Z2 P op T vx vy) λp=>K p H sc
 |.unOp op _ x=>qW GE tmps x λvx=>O4 (qgo op vx) λp=>K p H sc
 |.convert s d x=>qW GE tmps x λvx=>Hx sc (λp=>Wd P s d vx=some p) λp sc'=>K p H sc'
 |.extract t i=>qW GE tmps t λvt=>O4 (xh vt i) λp=>K p H sc
 |.nilCheck x=>qW GE tmps x λvx=>match vx with
  |.eptr cs=>K (.eptr cs) H sc
  |.bptr i off=>K (.bptr i off) H sc
  |.func (.func f) first cap=>K (.func (.func f) first cap) H sc
  |_=>False
 |.makeFunc fn first cap=>Pe GE tmps first.toList λf=>Pe GE tmps cap.toList λc=>K (.func fn f c) H sc
 | .load t x => qW GE tmps x fun vx => match vx with
  |.eptr cs=>Hx sc (λp=>bo P t cs=some p) λp sc'=>K p H sc'
  | .bptr i off => lN H i fun B => match B with
   |.cells cs _=>match sc with
    |.s::sc'=>O4 (bo P t (cs.drop off)) λp=>K p H sc'
    |.v p::sc'=>bo P t (cs.drop off)=some p/\K p H sc'
    |_=>False
   |_=>False
  |_=>False
 | .store t x y => qW GE tmps x fun vx => qW GE tmps y fun vy => match vx,sc with
  | .bptr i off,.s :: sc' => match bZ vy with
   | some vs => lN H i fun B => match B with
    |.cells cs own=>match decide (vs.length=P.cellsOf t)&&(P.info? t).isSome&&decide (off+vs.length<=cs.length)&&vs.all PVal.one with
     |true=>bz (cs.take off++vs++cs.drop (off+vs.length)) λcs'=>fK H i (.cells cs' (own.filter λy=>y.1<off||off+vs.length<=y.1)) λH'=>K (.val undef) H' sc'
     |false=>False
    |_=>False
   |none=>False
  | .bptr i off,.x vs :: sc' => bZ vy = some vs∧(lN H i fun B => match B with
    |.cells cs own=>match decide (vs.length=P.cellsOf t)&&(P.info? t).isSome&&decide (off+vs.length<=cs.length)&&vs.all PVal.one with
     |true=>bz (cs.take off++vs++cs.drop (off+vs.length)) λcs'=>fK H i (.cells cs' (own.filter λy=>y.1<off||off+vs.length<=y.1)) λH'=>K (.val undef) H' sc'
     |false=>False
    |_=>False)
  |.bptr i off,.w _ (.cells cs' own')::sc'=>lN H i λB=>(eK P t (.bptr 0 off) vy [B]=some [.cells cs' own'])/\fK H i (.cells cs' own') λH'=>K (.val undef) H' sc'
  |_,_=>False
 |.fieldAddr s x f=>qW GE tmps x λvx=>match vx with
  |.bptr i off=>O4 (aV P s (.bptr i off) f) λp=>K p H sc
  |vx=>Hx sc (λp=>aV P s vx f=some p) λp sc'=>K p H sc'
 |.field t x f=>qW GE tmps x λvx=>Hx sc (λp=>RF P t vx f=some p) λp sc'=>K p H sc'
 |.indexAddr t x i=>qW GE tmps x λvx=>qW GE tmps i λvi=>Hx sc (λp=>ka P t vx vi=some p) λp sc'=>K p H sc'
 |.index t x i=>qW GE tmps x λvx=>qW GE tmps i λvi=>Hx sc (λp=>BK P t vx vi=some p) λp sc'=>K p H sc'
 | .lookup t m k ok => qW GE tmps m fun vm => qW GE tmps k fun vk => match vm with
  |.mapr i=>lN H i λB=>match B with
   |.map es=>Hx sc (λp=>NV P t es vk ok=some p) λp sc'=>K p H sc'
   |_=>False
  |_=>False
 | .mapUpdate t m k x => qW GE tmps m fun vm => qW GE tmps k fun vk => qW GE tmps x fun vx => match vm,sc with
  |.mapr i,.w _ (.map es')::sc'=>lN H i λB=>match B with
   |.map es=>P7 P t es vk vx=some es'/\fK H i (.map es') λH'=>K (.val undef) H' sc'
   |_=>False
  |_,_=>False
 |.slice t x lo hi none=>qW GE tmps x λvx=>qb8 GE tmps lo λvl=>qb8 GE tmps hi λvh=>Hx sc (λp=>Ev P t vx vl vh none=some p) λp sc'=>K p H sc'
 |.build t parts=>BJ GE tmps parts.toList λps=>Hx sc (λp=>di P t ps=some p) λp sc'=>K p H sc'
 |.buildSlice t len parts=>BJ GE tmps parts.toList λps=>Hx sc (λp=>eW P t len ps=some p) λp sc'=>K p H sc'
 | .call { callee := .builtin .len,args:=⟨[x]⟩,argTypes:=⟨[t]⟩ } => qW GE tmps x fun vx => match vx with
  |.mapr i=>lN H i λB=>match B with
   |.map es=>Hx sc (λp=>p=.int .i64 es.length/\(P.underlying t).any (λd=>match d with|.map _ _=>true|_=>false)=true) λp sc'=>K p H sc'
   |_=>False
  |vx=>Hx sc (λp=>∀H,G5 P t vx H=some p) λp sc'=>K p H sc'
 |.call {callee:=.builtin .max,args:=⟨x::r⟩,..}=>qW GE tmps x λvx=>Pe GE tmps r λvr=>O4 (K8 Wg vx vr) λp=>K p H sc
 |.call {callee:=.builtin .min,args:=⟨x::r⟩,..}=>qW GE tmps x λvx=>Pe GE tmps r λvr=>O4 (K8 Wh vx vr) λp=>K p H sc
 |_=>False
section
variable{P:Program}{GE:List (Nat×List PVal)}
theorem X5{t:TypeId}{off i:Nat}{y:PVal}{H:List aB}{B:aB}{cs':List PVal}{own':List (Nat×TypeId)}(hB:H[i]? =some B)(h:eK P t (.bptr 0 off) y [B]=some [.cells cs' own']):eK P t (.bptr i off) y H=some (H.set i (.cells cs' own')):=by
 unfold eK at h ⊢
 split at h
 ·rename_i i' off' vs h1 h2
  cases h1
  simp only[h2]
  change (match(some B:Option aB)with|some (.cells cs own)=>_|_=>none)=_ at h
  rw[hB]
  split at h
  ·rename_i hb
   cases hb
   simp only
   split at h
   ·rename_i hc
    rw[vad hc]
    simp only[List.set_cons_zero,vaz,vbH,vcb]at h
    rw[h]
   ·cases h
  ·cases h
 ·cases h
theorem qad(t:TypeId)(id:Nat)(v:Operand->PVal)(x:Operand)(H:List aB):sB P (.load t x) id v H=(lT P t (v x) H).map λp=>(p,H):=rfl
theorem K1{op:Op}{id:Nat}{tmps:List PVal}{H:List aB}{sc:List It}{K:PVal->List aB->List It->Prop}(h:VG P GE op tmps H sc K):∃p H' sc',sB P op id (opv GE tmps) H=some (p,H')/\K p H' sc'/\H'.length=H.length:=by
 unfold VG at h
 split at h
 case h_1=>rw[cb]at h;exact⟨_,_,_,rfl,h,rfl⟩
 case h_2=>rw[cb]at h;exact⟨_,_,_,rfl,h,rfl⟩
 case h_3 c x y=>
  rw[cb]at h
  split at h
  ·rename_i hc;rw[cb]at h;exact⟨_,_,_,by simp only[sB,hc],h,rfl⟩
  ·rename_i hc;rw[cb]at h;exact⟨_,_,_,by simp only[sB,hc],h,rfl⟩
  ·exact h.elim
 case h_4=>
  simp only[cb]at h
  split at h
  ·obtain⟨p,sc',h1,h2⟩:=mF h;exact⟨p,_,sc',by simp only[sB,h1,vaj],h2,rfl⟩
  ·obtain⟨p,h1,h2⟩:=yU h;exact⟨p,_,_,by simp only[sB,h1,vaj],h2,rfl⟩
 case h_5=>simp only[cb]at h;obtain⟨p,h1,h2⟩:=yU h;exact⟨p,_,_,by simp only[sB,h1,vaj],h2,rfl⟩
 case h_6=>simp only[cb]at h;obtain⟨p,sc',h1,h2⟩:=mF h;exact⟨p,_,sc',by simp only[sB,h1,vaj],h2,rfl⟩
 case h_7=>simp only[cb]at h;obtain⟨p,h1,h2⟩:=yU h;exact⟨p,_,_,by simp only[sB,h1,vaj],h2,rfl⟩
 case h_8=>
  simp only[cb]at h
  split at h
  ·rename_i hv;exact⟨_,_,_,by simp only[sB,hv],h,rfl⟩
  ·rename_i hv;exact⟨_,_,_,by simp only[sB,hv],h,rfl⟩
  ·rename_i hv;exact⟨_,_,_,by simp only[sB,hv],h,rfl⟩
  ·exact h.elim
 case h_9=>simp only[mz]at h;exact⟨_,_,_,rfl,h,rfl⟩
 case h_10 t x=>
  simp only[cb]at h
  rw[qad]
  split at h
  ·rename_i cs hv
   obtain⟨p,sc',h1,h2⟩:=mF h
   exact⟨p,_,sc',by simp only[hv,lT,h1,vaj],h2,rfl⟩
  ·rename_i i off hv
   obtain⟨B,hB,h⟩:=d5 h
   split at h
   ·rename_i cs own
    split at h
    ·obtain⟨p,h1,h2⟩:=yU h
     exact⟨p,_,_,by simp only[hv,lT,hB,h1,vaj],h2,rfl⟩
    ·exact⟨_,_,_,by simp only[hv,lT,hB,h.1,vaj],h.2,rfl⟩
    ·exact h.elim
   ·exact h.elim
  ·exact h.elim
 case h_11 t x y=>
  simp only[cb]at h
  split at h
  ·rename_i i off sc' hv
   split at h
   ·rename_i vs hvs
    obtain⟨B,hB,h⟩:=d5 h
    split at h
    ·rename_i cs own
     split at h
     ·rename_i hc
      simp only[aO,bF]at h
      simp only[vaf,var]at hc
      exact⟨_,_,_,by simp only[sB,eK,hv,hvs,hB];rw[vad ⟨hc.1.1.1,hc.1.1.2,hc.1.2,hc.2⟩];rfl,h,by simp⟩
     ·exact h.elim
    ·exact h.elim
   ·exact h.elim
  ·rename_i i off vs sc' hv
   obtain⟨hvs,h⟩:=h
   obtain⟨B,hB,h⟩:=d5 h
   split at h
   ·rename_i cs own
    split at h
    ·rename_i hc
     simp only[aO,bF]at h
     simp only[vaf,var]at hc
     exact⟨_,_,_,by simp only[sB,eK,hv,hvs,hB];rw[vad ⟨hc.1.1.1,hc.1.1.2,hc.1.2,hc.2⟩];rfl,h,by simp⟩
    ·exact h.elim
   ·exact h.elim
  ·rename_i i off j cs' own' sc' hv
   obtain⟨B,hB,h1,h2⟩:=d5 h
   rw[bF]at h2
   exact⟨_,_,_,by simp only[sB,hv,X5 hB h1];rfl,h2,by simp⟩
  ·exact h.elim
 case h_12=>
  simp only[cb]at h
  split at h
  ·rename_i hv
   obtain⟨p,h1,h2⟩:=yU h;exact⟨p,_,_,by simp only[sB,hv,h1,vaj],h2,rfl⟩
  ·obtain⟨p,sc',h1,h2⟩:=mF h;exact⟨p,_,sc',by simp only[sB,h1,vaj],h2,rfl⟩
 case h_13=>simp only[cb]at h;obtain⟨p,sc',h1,h2⟩:=mF h;exact⟨p,_,sc',by simp only[sB,h1,vaj],h2,rfl⟩
 case h_14=>simp only[cb]at h;obtain⟨p,sc',h1,h2⟩:=mF h;exact⟨p,_,sc',by simp only[sB,h1,vaj],h2,rfl⟩
 case h_15=>simp only[cb]at h;obtain⟨p,sc',h1,h2⟩:=mF h;exact⟨p,_,sc',by simp only[sB,h1,vaj],h2,rfl⟩
 case h_16 t m k ok=>
  simp only[cb]at h
  split at h
  ·rename_i i hv
   obtain⟨B,hB,h⟩:=d5 h
   split at h
   ·rename_i es
    obtain⟨p,sc',h1,h2⟩:=mF h
    exact⟨p,_,sc',by simp only[sB,hv,XY hB h1,vaj],h2,rfl⟩
   ·exact h.elim
  ·exact h.elim
 case h_17 t m k x=>
  simp only[cb]at h
  split at h
  ·rename_i i j es' sc' hv
   obtain⟨B,hB,h⟩:=d5 h
   split at h
   ·rename_i es
    obtain⟨h1,h2⟩:=h
    rw[bF]at h2
    exact⟨_,_,_,by simp only[sB,hv,TM hB h1];rfl,h2,by simp⟩
   ·exact h.elim
  ·exact h.elim
 case h_18=>simp only[cb,qb9]at h;obtain⟨p,sc',h1,h2⟩:=mF h;exact⟨p,_,sc',by simp only[sB,h1,vaj],h2,rfl⟩
 case h_19=>simp only[rA]at h;obtain⟨p,sc',h1,h2⟩:=mF h;exact⟨p,_,sc',by simp only[sB,h1,vaj],h2,rfl⟩
 case h_20=>simp only[rA]at h;obtain⟨p,sc',h1,h2⟩:=mF h;exact⟨p,_,sc',by simp only[sB,h1,vaj],h2,rfl⟩
 case h_21 x t=>
  simp only[cb]at h
  split at h
  ·rename_i i hv
   obtain⟨B,hB,h⟩:=d5 h
   split at h
   ·rename_i es
    obtain⟨p,sc',⟨rfl,h1⟩,h2⟩:=mF h
    refine⟨_,_,sc',?_,h2,rfl⟩
    simp only[sB,hv,G5]
    cases hu:P.underlying t with
    |none=>rw[hu]at h1;cases h1
    |some d=>
     rw[hu]at h1
     cases d<;>simp at h1
     simp only[hB,vaj]
   ·exact h.elim
  ·obtain⟨p,sc',h1,h2⟩:=mF h;exact⟨p,_,sc',by simp only[sB,h1 H,vaj],h2,rfl⟩
 case h_22=>simp only[cb,mz]at h;obtain⟨p,h1,h2⟩:=yU h;exact⟨p,_,_,by simp only[sB,h1,vaj],h2,rfl⟩
 case h_23=>simp only[cb,mz]at h;obtain⟨p,h1,h2⟩:=yU h;exact⟨p,_,_,by simp only[sB,h1,vaj],h2,rfl⟩
 case h_24=>exact h.elim
end
end Go.Proofs.YtibglelmlnfojaaGreatDoor
