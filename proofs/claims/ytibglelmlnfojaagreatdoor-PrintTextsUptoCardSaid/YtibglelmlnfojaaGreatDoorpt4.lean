/- PROVED: a part of the proof. Conditions: none. -/
import Derived.Test.YtibglelmlnfojaaGreatDoorpt3
import Derived.WalkKit
import Derived.RangeFuncNested
import Derived.RangeFuncCalls
import Derived.Sort.LoopGhostIn
import Derived.OrdersIn
set_option linter.unusedSimpArgs false
set_option linter.unusedVariables false
noncomputable section
namespace Go.Proofs.YtibglelmlnfojaaGreatDoor
open Go
abbrev eO:Value:=.slice none 0 0
def qiK(v:Value):PVal:=if uj v then .val eO else absC v
def qfC(P:Program)(t:TypeId):Option (List PVal):=((P.info? t).bind (·.zero)).map λz=>z.cells.toList.map qiK
def Xj(P:Program)(t:TypeId)(parts:List (Nat×PVal)):Option (List PVal):=
 match P.underlying t,qfC P t with
 |some (.struct fs),some zs=>if fs.all (λf=>(P.info? f.type).isSome)then Tl (λi=>(fs[i]?).map λf=>(f.offset,P.cellsOf f.type)) zs parts else none
 |_,_=>none
def qam(cs:List PVal):List (Nat×TypeId)->Prop
 |[]=>True
 |x::r=>cs[x.1]? =some (.val eO)/\qam cs r
def wT(P:Program)(t:TypeId)(parts:List (Nat×PVal))(L:List (Nat×TypeId)):Prop:=∃cs,Xj P t parts=some cs/\qam cs L
def ownLe(H0 H:List aJ):Prop:=H0.length=H.length/\∀(i:Nat) B,H0[i]? =some B->∃B',H[i]? =some B'/\(B=B'\/∃cs own own',B'=.cells cs own/\B=.cells cs own'/\∀x∈own',x∈own)
structure Lx(P:Program)(GE:List (Nat×List PVal))(f:Operand)(args:List Operand)(st:aK)(r:PVal)(ro:List (Nat×TypeId))(H':List aJ)(oa:List OA):Prop where
 ex:∃(g:FuncId) (first cap argsC:List PVal) (ρ:List Nat) (H0 Hc Hc':List aJ) (rc:PVal),opv GE st.tmps f=.func (.func g) first cap/\ρ.Nodup/\C P GE g argsC (oa.map λx=>((x.i,x.k),x.e)) Hc rc ro Hc'/\
  ownLe H0 st.boxes/\GB ρ H0 Hc/\GB ρ H' Hc'/\H'.length=st.boxes.length/\(∀j:Nat,j∉ρ->H'[j]? =H0[j]?)/\DW ρ r rc/\(first++args.map (opv GE st.tmps)++cap).length=argsC.length/\
  (∀(i:Nat) p q,(first++args.map (opv GE st.tmps)++cap)[i]? =some p->argsC[i]? =some q->DW ρ p q)/\
  (∀x∈oa,∃j,x.i=first.length+j/\((args[j]? =some (.const eO)/\x.k=0)\/(((x.t,x.k),x.e)∈st.own/\args[j]? =some (.tmp x.t))))/\(∀x∈oa,∀y∈oa,x.t=y.t->x.k=y.k->x.i=y.i)
def Tt(P:Program)(GE:List (Nat×List PVal))(o:Oper)(K:aK->Prop)(st:aK):Prop:=
 match o.op,o.dst with
 | .build T parts,some d => ∃ (p:PVal) (L:List (Nat×TypeId)),cx P T (parts.toList.map fun x => (x.1,opv GE st.tmps x.2)) = some p∧wT P T (parts.toList.map fun x => (x.1,opv GE st.tmps x.2)) L ∧
   d<st.tmps.length/\K {st with tmps:=st.tmps.set d p,own:=(L.map λx=>((d,x.1),x.2))++co d st.own}
 | .store T x (.tmp t),none => ∃ (i off:Nat) (H:List aJ) (cs:List PVal) (own L:List (Nat×TypeId)) (l:List PVal),opv GE st.tmps x = .bptr i off∧st.tmps.getD t .undef = .agg l∧fk P T (.bptr i off) (.agg l) st.boxes = some H∧H[i]? = some (.cells cs own) ∧
   (∀y∈L,((t,y.1),y.2)∈st.own)/\(L.map (·.1)).Nodup/\
   K ⟨st.tmps,H.set i (.cells cs ((L.map λy=>(off+y.1,y.2)).reverse++own)),st.own.filter λx=>!L.any λy=>x.1==(t,y.1)⟩
 | .load T x,some d => ∃ (i off:Nat) (cs:List PVal) (own L:List (Nat×TypeId)) (l:List PVal),(∃ fs,P.underlying T = some (.struct fs))∧opv GE st.tmps x = .bptr i off∧st.boxes[i]? = some (.cells cs own)∧bz P T (cs.drop off) = some (.agg l) ∧
   (∀y∈L,(off+y.1,y.2)∈own)/\(L.map (·.1)).Nodup/\(∀y∈L,y.1<l.length)/\d<st.tmps.length/\
   K ⟨st.tmps.set d (.agg l),st.boxes.set i (.cells cs (own.filter λx=>!L.any λy=>x.1==off+y.1)),(L.map λy=>((d,y.1),y.2)).reverse++co d st.own⟩
 |.box _ x,some d=>∃vs:List PVal,ca (opv GE st.tmps x)=some vs/\d<st.tmps.length/\K {st with tmps:=st.tmps.set d (.eptr vs),own:=co d st.own}
 | .call { callee := .value f,args,.. },some d => ∃ (r:PVal) (ro:List (Nat×TypeId)) (H':List aJ) (oa:List OA),Lx P GE f args.toList st r ro H' oa∧d < st.tmps.length ∧
   K ⟨st.tmps.set d r,H',(ro.map λx=>((d,x.1),x.2))++co d (st.own.filter λz=>!oa.any λx=>z.1==(x.t,x.k))⟩
 |_,_=>False
def Id(P:Program)(GE:List (Nat×List PVal))(A:List Nat)(o:Oper)(id:Nat)(K:aK->Prop)(st:aK):Prop:=PD P GE A o id K st\/Tt P GE o K st\/qhi P GE o id K st
def da(P:Program)(GE:List (Nat×List PVal))(A:List Nat)(ops:Array Oper)(K:aK->Prop):List Oper->Nat->aK->Prop
 |[],_,st=>K st
 | o :: rest,id,st =>
  match o.guard with
  |none=>Id P GE A o id (da P GE A ops K rest (id+if aO o.op then 1 else 0)) st
  |some (j,want)=>match z6 ops st.tmps j with
   | some x => (x = some want→Id P GE A o id (da P GE A ops K rest (id + if aO o.op then 1 else 0)) st) ∧
     (x≠some want->da P GE A ops K rest (id+if aO o.op then 1 else 0) (CP st o.dst (.val undef) [] st.boxes))
   |none=>False
section
variable{P:Program}{E:wF}{Γ:bN}{bs:bZ}{ow:Nat->Option nS}{w:World}
theorem qgs{z:Value}(j:Nat)(p:PVal)(v:Value)(hp:(z.cells.toList.map qiK)[j]? =some p)(hv:z.cells[j]? =some v):VR Γ bs w p v:=by
 simp only[vaB,vbb,hv,vaj,vaz]at hp
 subst hp
 unfold qiK
 split
 ·rename_i hn
  unfold uj at hn
  split at hn
  ·exact .val _
  ·cases hn
 ·exact .absC v
theorem Y9{t:TypeId}{parts:List (Nat×PVal)}{vs:List (Nat×Value)}{cs:List PVal}(hl:parts.length=vs.length)
  (hv:∀(j:Nat) p v,parts[j]? =some p->vs[j]? =some v->p.1=v.1/\VR Γ bs w p.2 v.2) (h:Xj P t parts=some cs):
  ∃ov,(Instr.build t vs.toArray).run P w=.ok (.agg ov) w/\ov.size=cs.length/\∀(j:Nat) p v,cs[j]? =some p->ov[j]? =some v->VR Γ bs w p v:=by
 unfold Xj at h
 split at h
 ·rename_i fs zs ht hz
  unfold qfC at hz
  simp only[vaD,vbd]at hz
  obtain⟨z,⟨i,hi,hz'⟩,rfl⟩:=hz
  have hr:(zeroValue t).run P w=.ok z w:=by simp[zeroValue,run_typeInfo w hi,hz']
  split at h
  ·rename_i hall
   have hplaces:∀(l:List Field),(∀f∈l,(P.info? f.type).isSome=true)->(l.mapM λf=>do pure (f.offset,<-sizeOf f.type):Sem (List (Nat×Nat))).run P w=.ok (l.map λf=>(f.offset,P.cellsOf f.type)) w:=by
    intro l hl
    induction l with
    |nil=>simp
    |cons f l ih=>
     obtain⟨inf,hinf⟩:=vaO.1 (hl f (by simp))
     have:=ih λg hg=>hl g (by simp[hg])
     simp only[vb6,Sem.run_bind,run_sizeOf w hinf,Result.andThen_ok,this,Sem.run_pure,vae]
   have hp:(fs.mapM λf=>do pure (f.offset,<-sizeOf f.type):Sem (Array (Nat×Nat))).run P w=.ok (fs.map λf=>(f.offset,P.cellsOf f.type)) w:=by
    rw[vcq]
    simp only[Sem.run_map]
    rw[hplaces fs.toList λf hf=>by
     have:=vbu.1 hall f (by simpa using hf)
     simpa using this]
    simp only[Result.andThen_ok]
    exact vaW (λx=>Result.ok x w) (vbO (by simp))
   obtain⟨ov,r1,r2,r3⟩:=IT (place':=((fs.map λf=>(f.offset,P.cellsOf f.type))[·]?)) (λi x hx=>by simpa using hx) parts vs _ z.cells hl hv (by simp) (λj p v hp hv=>qgs j p v hp hv) h
   refine⟨ov,?_,r2,r3⟩
   simp only[Instr.build,Sem.run_bind,hr,Result.andThen_ok,run_underlying ht,hp]
   rw[r1]
   simp
  ·cases h
 ·cases h
theorem S4{cs:List PVal}:∀{L:List (Nat×TypeId)},qam cs L->∀x∈L,cs[x.1]? =some (.val eO)
 |[],_,x,hx=>by cases hx
 | y :: L,h,x,hx => by
  rcases vaF.1 hx with rfl|hx
  ·exact h.1
  ·exact S4 h.2 x hx
section
variable{a:Array Value}{st:aK}
theorem SR.ownNils(h:SR P E Γ bs ow w a st){d:Nat}{u:Value}(hu:a[d]? =some u)(L:List (Nat×TypeId))(hL:∀x∈L,oG u x.1=some eO):SR P E Γ bs ow w a {st with own:=(L.map λx=>((d,x.1),x.2))++st.own}:=
 { h with
  ot:=λt k e he=>by
   rcases vaR.1 he with he|he
   ·simp only[var,Prod.mk.injEq]at he
    obtain⟨x,hx,⟨rfl,rfl⟩,rfl⟩:=he
    exact⟨u,eO,hu,hL x hx,⟨0,[],World.ownsRow_nil _ _ _ _,λb hb=>by simp[Value.ownBlock]at hb⟩,λb hb=>by simp[Value.ownBlock]at hb⟩
   ·exact h.ot t k e he}
theorem SR.takeOwn(h:SR P E Γ bs ow w a st){i b d k off:Nat}{e:TypeId}{u v:Value}{cs:List PVal}{own:List (Nat×TypeId)}(hi:bs[i]? =some (some b))(hB:st.boxes[i]? =some (.cells cs own))
  (hm:(off,e)∈own) (hu:a[d]? =some u) (hp:oG u k=some v) (hc:w.cell? ⟨b,off,none⟩=some v):
  ∃ow',SR P E Γ bs ow' w a {st with own:=((d,k),e)::st.own,boxes:=st.boxes.set i (.cells cs (own.filter λx=>x.1 !=off))}:=by
 obtain⟨v',q1,q2,q3⟩:=h.ob i off e cs own b hB hm hi
 rw[hc]at q1
 cases q1
 exact⟨_,(h.freeB (j:=off) hB).addOwn (d:=d) (k:=k) (e:=e) (u:=u) (v:=v) hu hp q2 (λb' hb'=>⟨by simp[q3 b' hb'],(h.on b' _ (q3 b' hb')).2⟩)⟩
theorem SR.takeOwns{i b d off:Nat}{u:Value}{cs:List PVal}(hi:bs[i]? =some (some b))(hu:a[d]? =some u):∀(L:List (Nat×TypeId)) {ow:Nat->Option nS} {st:aK} {own:List (Nat×TypeId)},SR P E Γ bs ow w a st->st.boxes[i]? =some (.cells cs own)->
  (∀x∈L,(off+x.1,x.2)∈own)->(L.map (·.1)).Nodup->(∀x∈L,∃v,oG u x.1=some v/\w.cell? ⟨b,off+x.1,none⟩=some v)->
  ∃ow',SR P E Γ bs ow' w a ⟨st.tmps,st.boxes.set i (.cells cs (own.filter λx=>!L.any λy=>x.1==off+y.1)),(L.map λy=>((d,y.1),y.2)).reverse++st.own⟩
 | [],ow,st,own,h,hB,_,_,_ => by
  refine⟨ow,?_⟩
  have e2:(own.filter λx=>!([]:List (Nat×TypeId)).any λy=>x.1==off+y.1)=own:=by
   apply vcT.2
   intro x _
   rfl
  have e1:st.boxes.set i (.cells cs (own.filter λx=>!([]:List (Nat×TypeId)).any λy=>x.1==off+y.1))=st.boxes:=by
   rw[e2]
   apply vbg
   intro j
   by_cases hj:i=j
   ·subst hj
    rw[vah (av hB),hB]
   ·rw[vau hj]
  rw[e1]
  exact h
 | x :: L,ow,st,own,h,hB,hm,hn,hc => by
  rw[vae,vb1]at hn
  obtain⟨v,hv1,hv2⟩:=hc x (by simp)
  obtain⟨ow1,h1⟩:=h.takeOwn hi hB (hm x (by simp)) hu hv1 hv2
  obtain⟨ow2,h2⟩:=SR.takeOwns (off:=off) hi hu L h1 (vah (av hB)) (λy hy=>by
   refine va2.2 ⟨hm y (by simp[hy]),?_⟩
   simp only[bne_iff_ne,ne_eq]
   exact λe=>hn.1 (var.2 ⟨y,hy,by omega⟩)) hn.2 (λy hy=>hc y (by simp[hy]))
  refine⟨ow2,?_⟩
  simp only[vbT,vcZ]at h2
  have e1:((x::L).map λy=>((d,y.1),y.2)).reverse++st.own=(L.map λy=>((d,y.1),y.2)).reverse++((d,x.1),x.2)::st.own:=by simp
  have e2:(own.filter λz=>!(x::L).any λy=>z.1==off+y.1)=own.filter λz=>(!L.any λy=>z.1==off+y.1)&&(z.1 !=off+x.1):=by
   congr 1
   funext z
   rw[List.any_cons]
   cases(L.any λy=>z.1==off+y.1)<;>cases hz:(z.1==off+x.1)<;>simp[bne,hz]
  rw[e1,e2]
  exact h2
theorem KO(h:SR P E Γ bs ow w a st){T:TypeId}{i off b:Nat}{cs:List PVal}{own:List (Nat×TypeId)}{l:List PVal}(hi:bs[i]? =some (some b))(hB:st.boxes[i]? =some (.cells cs own))(hp:bz P T (cs.drop off)=some (.agg l)):∃v,(loadVar T ⟨b,off,none⟩).run P w=.ok v w/\VR Γ bs w (.agg l) v/\((∃d,P.underlying T=some d/\(match d with|.struct _|.array _ _=>True|_=>False))->∀k,k<l.length->oG v k=w.cell? ⟨b,off+k,none⟩):=by
 obtain⟨c,t',h1,h2,h3,h4⟩:=h.box_cells hi hB
 have hval:∀(k:Nat) q,(cs.drop off)[k]? =some q->w.cell? ⟨b,off+k,none⟩=some (c.getD (off+k) undef)/\VR Γ bs w q (c.getD (off+k) undef):=by
  intro k q hq
  rw[vbk]at hq
  have hlt:off+k<c.size:=vaT (av hq) h2
  have hc:c[off+k]? =some (c.getD (off+k) undef):=by simp[vaC,hlt]
  exact⟨(h4 _).trans hc,h3 _ _ _ hq hc⟩
 obtain⟨v,hr,hv⟩:=nM hp (vals:=λk=>c.getD (off+k) undef) (λk q hq=>(hval k q hq).1) (λk q hq=>(hval k q hq).2)
 refine⟨v,hr,hv,λhagg k hk=>?_⟩
 obtain⟨dd,hd,hm⟩:=hagg
 have hlen:P.cellsOf T<=(cs.drop off).length/\l.length=P.cellsOf T:=by
  unfold bz at hp
  rw[hd]at hp
  have key:(if P.cellsOf T<=(cs.drop off).length then some (PVal.agg ((cs.drop off).take (P.cellsOf T)))else none)=some (.agg l):=by
   cases dd<;>simp only at hm<;>exact hp
  split at key
  ·rename_i hh;cases key;exact⟨hh,by rw[va4];omega⟩
  ·cases key
 have hp2:bz P T ((List.range (cs.drop off).length).map λk=>PVal.val (c.getD (off+k) undef))=some (.agg (((List.range (cs.drop off).length).map λk=>PVal.val (c.getD (off+k) undef)).take (P.cellsOf T))):=by
  unfold bz
  rw[hd]
  cases dd<;>simp at hm<;>simp only<;>rw[vad (by simpa using hlen.1)]
 obtain⟨v2,hr2,hv2⟩:=nM (Γ:=Γ) (bs:=bs) hp2 (vals:=λk=>c.getD (off+k) undef) (λk q hq=>by
   have hlt:k<(cs.drop off).length:=by have:=av hq;simpa using this
   exact(hval k _ (vac hlt)).1) (λk q hq=>by
   have hlt:k<(cs.drop off).length:=by have:=av hq;simpa using this
   simp only[vaB,vbX hlt,vaj,vaz]at hq
   subst hq
   exact .val _)
 rw[hr]at hr2
 cases hr2
 have hk2:k<(cs.drop off).length:=by omega
 cases hv2 with
 | agg _ vs hl hvv =>
  have hd1:(cs.drop off).length=cs.length - off:=vbB
  have hkv:k<vs.size:=by rw[hl];simp;omega
  have hq:(((List.range (cs.drop off).length).map λk=>PVal.val (c.getD (off+k) undef)).take (P.cellsOf T))[k]? =some (.val (c.getD (off+k) undef)):=by
   rw[vaE (by omega)]
   simp only[vaB,vbX hk2,vaj]
  have:=hvv k _ vs[k] hq (by simp[hkv])
  show vs[k]? =_
  rw[(hval k _ (vac hk2)).1]
  rw[vaV hkv]
  generalize vs[k]=q at this
  generalize c.getD (off+k) undef=q2 at this
  cases this
  rfl
end
variable{a:Act}{st:aK}
theorem HA(h:SR P E Γ bs ow w a.tmps st){o:Oper}{id d:Nat}{T:TypeId}{parts:Array (Nat×Operand)}{p:PVal}{L:List (Nat×TypeId)}{K:aK->Prop}(ho:o.op=.build T parts)(hdst:o.dst=some d)(hd:d<st.tmps.length)
  (hp:cx P T (parts.toList.map λx=>(x.1,opv E.GE st.tmps x.2))=some p) (hL:wT P T (parts.toList.map λx=>(x.1,opv E.GE st.tmps x.2)) L)
  (hK:K {st with tmps:=st.tmps.set d p,own:=(L.map λx=>((d,x.1),x.2))++co d st.own}) (Q:Exit->Act->World->Prop):
  o.wp P a w (gT P E bs id (aO o.op) a.defers K) Q:=by
 have hρ:∀x,VR Γ bs w (opv E.GE st.tmps x) (a.eval x):=λx=>h.opv a.defers x
 obtain⟨k1,k2⟩:=MH hρ parts.toList
 obtain⟨v,r1,r2⟩:=Tf k1 k2 hp
 obtain⟨cs,hcs,hn⟩:=hL
 obtain⟨ov,s1,s2,s3⟩:=Y9 k1 k2 hcs
 rw[r1]at s1
 cases s1
 have hrun:(execOp a.eval o).run P w=.ok (.value (.agg ov)) w:=by
  have:(parts.map λx=>(x.1,a.eval x.2))=(parts.toList.map λx=>(x.1,a.eval x.2)).toArray:=by apply vbO;simp
  simp only[execOp,ho]
  rw[this]
  simp[r1]
 unfold Oper.wp
 rw[hrun,Oper.upon_value]
 have hds:d<a.tmps.size:=by rw[h.sz];exact hd
 have g1:=h.set (d:=d) r2
 have g2:=g1.ownNils (d:=d) (u:=.agg ov) (by simp[hds]) L λx hx=>by
  have hq:=S4 hn x hx
  have hlt:x.1<ov.size:=by rw[s2];exact av hq
  have hv:=s3 x.1 _ ov[x.1] hq (by simp[hlt])
  show ov[x.1]? =_
  rw[vaV hlt]
  generalize ov[x.1]=q at hv
  cases hv
  rfl
 have hput:∀v,(a.put o.dst v).tmps=a.tmps.setIfInBounds d v:=λv=>by rw[hdst];rfl
 rw[<-hput]at g2
 exact⟨ep _ _ _,Γ,bs,_,_,g2,hK,.inl rfl⟩
theorem SR.ownLe(h:SR P E Γ bs ow w a.tmps st){H0:List aJ}(hs:ownLe H0 st.boxes):SR P E Γ bs ow w a.tmps {st with boxes:=H0}:=
 { h with
  bl:=h.bl.trans hs.1.symm
  bx:=λi b B hb hB=>by
   obtain⟨B',hB',hx⟩:=hs.2 i B hB
   obtain⟨k1,k2,k3⟩:=h.bx i b B' hb hB'
   rcases hx with rfl|⟨cs,own,own',rfl,rfl,_⟩
   ·exact⟨k1,k2,k3⟩
   ·exact⟨k1,k2,k3⟩
  ob:=λi j e cs own b hB hj hb=>by
   obtain⟨B',hB',hx⟩:=hs.2 i _ hB
   rcases hx with rfl|⟨cs1,own1,own2,rfl,e2,hsub⟩
   ·exact h.ob i j e cs own b hB' hj hb
   ·cases e2;exact h.ob i j e _ own1 b hB' (hsub _ hj) hb}
theorem BK(h:SR P E Γ bs ow w a.tmps st){o:Oper}{id d:Nat}{f:Operand}{args:Array Operand}{tys:Array TypeId}{r:PVal}{ro:List (Nat×TypeId)}{H':List aJ}{oa:List OA}{K:aK->Prop}(ho:o.op=.call {callee:=.value f,args,argTypes:=tys})(hdst:o.dst=some d)(hd:d<st.tmps.length)
  (hg:Lx P E.GE f args.toList st r ro H' oa) (hK:K ⟨st.tmps.set d r,H',(ro.map λx=>((d,x.1),x.2))++co d (st.own.filter λz=>!oa.any λx=>z.1==(x.t,x.k))⟩) (Q:Exit->Act->World->Prop):
  o.wp P a w (gT P E bs id (aO o.op) a.defers K) Q:=by
 obtain⟨g,first,cap,argsC,ρ,H0,Hc,Hc',rc,hfv,hnd,hC,hle,hH,hH',hlen,hsame,hr,hal,ha,ho1,ho3⟩:=hg.ex
 have hρ:∀x,VR Γ bs w (opv E.GE st.tmps x) (a.eval x):=λx=>h.opv a.defers x
 have hf:=hρ f
 rw[hfv]at hf
 generalize hvf:a.eval f=vf at hf
 cases hf with
 |func _ _ _ fs cs hl hl' h1 h2=>
 have hargs:(fs++args.map a.eval++cs).size=(first++args.toList.map (opv E.GE st.tmps)++cap).length:=by simp[hl,hl']
 have hvr:∀(i:Nat) p v,(first++args.toList.map (opv E.GE st.tmps)++cap)[i]? =some p->(fs++args.map a.eval++cs)[i]? =some v->VR Γ bs w p v:=by
  refine Iv (by simp[hl]) (Iv hl h1 λi p v hp hv=>?_) h2
  exact II hρ args.toList i p v hp (by simpa using hv)
 have hrun:(execOp a.eval o).run P w=.ok (.enter g (fs++args.map a.eval++cs)) w:=by
  simp[execOp,ho,resolve,hvf,Deferred.ofValue,invoke,hC.1]
 have hds:d<a.tmps.size:=by rw[h.sz];exact hd
 have hw:=h.ownLe hle
 unfold Oper.wp
 rw[hrun,Oper.upon_enter]
 refine(qeh hw hds hnd hC (λx hx=>?_) ho3 hH hH' (hlen.trans hle.1.symm) hsame hr hal ha hargs hvr).mono λe w' he=>?_
 ·obtain⟨j,hj,hj2⟩:=ho1 x hx
  have hat:∀{y:Operand},args.toList[j]? =some y->(fs++args.map a.eval++cs)[x.i]? =some (a.eval y):=by
   intro y hy
   have hjl:j<args.size:=by have:=av hy;simpa using this
   have hja:args[j]? =some y:=by simpa using hy
   rw[hj,<-hl,va5 (by simp;omega),vci (by omega),vcA]
   simp only[Array.getElem?_map,hja,vaj]
  rcases hj2 with⟨hj2,hk⟩|⟨ht,hj2⟩
  ·exact .inl ⟨hat hj2,hk⟩
  ·obtain⟨u,v,e1,_⟩:=h.ot _ _ _ ht
   exact .inr ⟨ht,by rw[hat hj2,wd e1];exact e1.symm⟩
 ·obtain⟨v,Γ',ow',rfl,hS,_⟩:=he
  have hput:(a.put o.dst v).tmps=a.tmps.setIfInBounds d v:=by rw[hdst];rfl
  show gT P E bs id (aO o.op) a.defers K (a.put o.dst v) w'
  refine⟨ep _ _ _,Γ',bs,ow',_,?_,hK,.inl rfl⟩
  rw[hput];exact hS
theorem KZ(h:SR P E Γ bs ow w a.tmps st){o:Oper}{id:Nat}{K:aK->Prop}(hp:Tt P E.GE o K st)(Q:Exit->Act->World->Prop):o.wp P a w (gT P E bs id (aO o.op) a.defers K) Q:=by
 unfold Tt at hp
 split at hp
 ·rename_i T parts d ho hd
  obtain⟨p,L,h1,h2,h3,h4⟩:=hp
  exact HA h ho hd h3 h1 h2 h4 Q
 ·rename_i T x t ho hd
  obtain⟨i,off,H,cs,own,L,l,hx,ht,hst,hB,hm,hn,hK⟩:=hp
  have htl:t<st.tmps.length:=by
   by_cases hlt:t<st.tmps.length
   ·exact hlt
   ·rw[vap,vaZ (vbK hlt)]at ht;cases ht
  have hta:t<a.tmps.size:=by rw[h.sz];exact htl
  have hu:a.tmps[t]? =some a.tmps[t]:=by simp[hta]
  generalize a.tmps[t]=u at hu
  have hvt:=No h hu
  rw[ht]at hvt
  have hvx:VR Γ bs w (opv E.GE st.tmps x) (a.eval x):=h.opv a.defers x
  rw[hx]at hvx
  obtain⟨w',r1,r2,_,r4⟩:=PE h hvx hvt hst
  have hrun:(execOp a.eval o).run P w=.ok .skip w':=by simp[execOp,ho,wd hu,r1]
  unfold Oper.wp
  rw[hrun,Oper.upon_skip]
  generalize a.eval x=vx at hvx r1
  cases hvx with
  |bptr _ _ b hb=>
  obtain⟨c1,_⟩:=r4 i off b rfl hb
  obtain⟨ow',g⟩:=SR.moveOwns (off:=off) hb hu L r2 hB hm hn λy hy=>by
   obtain⟨u',v,e1,e2,_,_⟩:=h.ot t y.1 y.2 (hm y hy)
   rw[hu]at e1
   cases e1
   refine⟨v,e2,?_⟩
   cases hvt with
   |agg _ vs _ _=>exact c1 y.1 v e2
  have hput:a.put o.dst undef=a:=by rw[hd];rfl
  rw[hput]
  exact⟨rfl,Γ,bs,ow',_,g,hK,.inl rfl⟩
 ·rename_i T x d ho hd
  obtain⟨i,off,cs,own,L,l,⟨fs,hfs⟩,hx,hB,hp,hm,hn,hll,hdl,hK⟩:=hp
  have hvx:VR Γ bs w (opv E.GE st.tmps x) (a.eval x):=h.opv a.defers x
  rw[hx]at hvx
  generalize hve:a.eval x=vx at hvx
  cases hvx with
  |bptr _ _ b hb=>
  obtain⟨v,r1,r2,r3⟩:=KO h hb hB hp
  have hrun:(execOp a.eval o).run P w=.ok (.value v) w:=by simp[execOp,ho,hve,Instr.loadAt,Instr.sureAddr,r1]
  unfold Oper.wp
  rw[hrun,Oper.upon_value]
  have hds:d<a.tmps.size:=by rw[h.sz];exact hdl
  have g1:=h.set (d:=d) r2
  obtain⟨ow',g2⟩:=SR.takeOwns (off:=off) (d:=d) (u:=v) hb (by simp[hds]) L g1 hB hm hn λy hy=>by
   have:=r3 ⟨_,hfs,vzz⟩ y.1 (hll y hy)
   obtain⟨v',q1,_⟩:=h.ob i (off+y.1) y.2 cs own b hB (hm y hy) hb
   exact⟨v',this.trans q1,q1⟩
  have hput:∀v,(a.put o.dst v).tmps=a.tmps.setIfInBounds d v:=λv=>by rw[hd];rfl
  rw[<-hput]at g2
  exact⟨ep _ _ _,Γ,bs,ow',_,g2,hK,.inl rfl⟩
 ·rename_i T x d ho hd
  obtain⟨vs,hvs,hdl,hK⟩:=hp
  have hvx:VR Γ bs w (opv E.GE st.tmps x) (a.eval x):=h.opv a.defers x
  generalize hve:a.eval x=vx at hvx
  obtain⟨k1,k2⟩:=hvx.cells hvs
  obtain⟨g1,hle⟩:=h.alloc_imm vx.cells T vx.cells.size (vay _)
  have hrun:(execOp a.eval o).run P w=.ok (.value (.pointer (some ⟨w.heap.size,0,none⟩))) (w.alloc (.cells vx.cells T)):=by simp[execOp,ho,hve,Instr.box,newVar,newRow]
  unfold Oper.wp
  rw[hrun,Oper.upon_value]
  have hcell:∀j,(w.alloc (.cells vx.cells T)).cell? ⟨w.heap.size,j,none⟩=vx.cells[j]?:=λj=>cell_of_row _ _ _ _ _ _ (gO w _)
  have hget:∀{k:Nat} {p:PVal},vs[k]? =some p->vx.cells[k]? =some (vx.cells.getD k undef):=λ{k p} hp=>by
   have hlt:k<vx.cells.size:=by rw[k1];exact av hp
   simp[vaC,hlt]
  have hvr:VR (Γ.put w.heap.size vx.cells.size) bs (w.alloc (.cells vx.cells T)) (.eptr vs) (.pointer (some ⟨w.heap.size,0,none⟩)):=
   .eptr vs w.heap.size 0 vx.cells.size (λk=>vx.cells.getD k undef) (Γ.put_same _ _) (by omega)
    (λk p hp=>by rw[hcell,vaQ];exact hget hp) (λk p hp=>(k2 k p _ hp (hget hp)).mono hle (.refl _))
  have g2:=g1.set (d:=d) hvr
  have hput:∀v,(a.put o.dst v).tmps=a.tmps.setIfInBounds d v:=λv=>by rw[hd];rfl
  rw[<-hput]at g2
  exact⟨ep _ _ _,_,bs,_,_,g2,hK,.inl rfl⟩
 ·rename_i f args tys d ho hd
  obtain⟨r,ro,H',oa,h1,h2,h3⟩:=hp
  exact BK h ho hd h2 h1 h3 Q
 ·exact hp.elim
theorem MY(h:SR P E Γ bs ow w a.tmps st){A:List Nat}{o:Oper}{id:Nat}(hid:aO o.op=true->bs[id]? =some none){K:aK->Prop}(hp:Id P E.GE A o id K st)(Q:Exit->Act->World->Prop):o.wp P a w (ZJ P E bs id (aO o.op) a.defers K) Q:=by
 rcases hp with hp|hp|hp
 ·exact Oper.wp_mono (λ_ _ hA=>hA.to3) (Zi h hid hp Q)
 ·exact Oper.wp_mono (λ_ _ hA=>hA.to3) (KZ h hp Q)
 ·exact qcZ h hid hp Q
theorem EV{bs0:bZ}{ds:List Deferred}{A:List Nat}{ops:Array Oper}{K:aK->Prop}{Q:Exit->Act->World->Prop}
  (hQ:∀a w st,a.defers=ds->XO P E bs0 st a w->K st->Q .normal a w):
  ∀(rest:List Oper) (k id:Nat) (Γ:bN) (bs:bZ) (ow:Nat->Option nS) (a:Act) (w:World) (st:aK),(∀j,rest[j]? =ops[k+j]?)->SR P E Γ bs ow w a.tmps st->a.defers=ds->qdO bs0 bs->bs0.length<=id->
   (∀m,id<=m->m<id+cw rest->bs[m]? =some none)->da P E.GE A ops K rest id st->wpOps P ops Q ((List.range ops.size).drop k) a w
 | [],k,id,Γ,bs,ow,a,w,st,hr,h,hd,hk,_,_,hp => by
  have hsz:ops.size<=k:=by
   have:=hr 0
   simp only[List.getElem?_nil,Nat.add_zero]at this
   exact vck.1 this.symm
  rw[vbP (by simpa using hsz)]
  exact hQ a w st hd ⟨Γ,bs,ow,h,hk⟩ hp
 | o :: rest,k,id,Γ,bs,ow,a,w,st,hr,h,hd,hk,hid,hfree,hp => by
  have hok:ops[k]? =some o:=by have:=hr 0;simpa using this.symm
  have hlt:k<ops.size:=(vao.1 hok).1
  have hcons:(List.range ops.size).drop k=k::(List.range ops.size).drop (k+1):=by
   rw[vaH (by simpa using hlt)];simp
  rw[hcons,wpOps_cons]
  unfold wpOp
  rw[hok]
  simp only
  have hcnt:cw (o::rest)=(if aO o.op then 1 else 0)+cw rest:=by
   unfold cw
   simp only[vbL]
   split<;>simp<;>omega
  have hrest:∀j,rest[j]? =ops[k+1+j]?:=λj=>by
   have:=hr (j+1)
   simpa[vcz,vcJ 1 j]using this
  have hmk:aO o.op=true->bs[id]? =some none:=λhm=>hfree id (vay _) (by rw[hcnt,hm];simp;omega)
  have step:Id P E.GE A o id (da P E.GE A ops K rest (id+if aO o.op then 1 else 0)) st->o.wp P a w (wpOps P ops Q ((List.range ops.size).drop (k+1))) Q:=by
   intro hs
   refine Oper.wp_mono (λa' w' hA=>?_) (MY h hmk hs Q)
   obtain⟨hd',Γ',bs',ow',st',h1,h2,h3⟩:=hA
   refine EV hQ rest (k+1) _ Γ' bs' ow' a' w' st' hrest h1 (hd'.trans hd) ?_ (by omega) ?_ h2
   ·rcases h3 with rfl|⟨hm,b,rfl⟩|⟨x,rfl⟩
    ·exact hk
    ·intro i hi
     rw[vau (by omega)]
     exact hk i hi
    ·intro i hi
     have hki:=hk i hi
     have hlt:i<bs.length:=by
      have h1:bs0[i]? =some bs0[i]:=vac hi
      rw[h1]at hki
      exact av hki
     rw[van hlt]
     exact hki
   ·intro m hm1 hm2
    have hb:=hfree m (by omega) (by rw[hcnt];omega)
    rcases h3 with rfl|⟨hm,b,rfl⟩|⟨x,rfl⟩
    ·exact hb
    ·rw[hm]at hm1
     simp only[if_true]at hm1
     rw[vau (by omega)]
     exact hb
    ·rw[van (av hb)]
     exact hb
  have skip:da P E.GE A ops K rest (id+if aO o.op then 1 else 0) (CP st o.dst (.val undef) [] st.boxes)->wpOps P ops Q ((List.range ops.size).drop (k+1)) (a.put o.dst undef) w:=by
   intro hs
   refine EV hQ rest (k+1) _ Γ bs ow (a.put o.dst undef) w _ hrest (h.putv_nil (.val undef) o.dst rfl) ((ep _ _ _).trans hd) hk (by omega) (λm hm1 hm2=>hfree m (by omega) (by rw[hcnt];omega)) hs
  simp only[da]at hp
  have hgo:(Region.wanted o (yielded ops a.tmps)=true->o.wp P a w (wpOps P ops Q ((List.range ops.size).drop (k+1))) Q)/\(¬Region.wanted o (yielded ops a.tmps)=true->wpOps P ops Q ((List.range ops.size).drop (k+1)) (a.put o.dst undef) w):=by
   split at hp
   ·rename_i hg
    exact⟨λ_=>step hp,λhn=>absurd (by simp[Region.wanted,hg]) hn⟩
   ·rename_i j want hg
    split at hp
    ·rename_i x hx
     have hw:Region.wanted o (yielded ops a.tmps)=(x==some want):=by simp[Region.wanted,hg,PA h hx]
     rw[hw]
     exact⟨λhx=>step (hp.1 (by simpa using hx)),λhx=>skip (hp.2 (by simpa using hx))⟩
    ·exact hp.elim
  by_cases hw:Region.wanted o (yielded ops a.tmps)=true
  ·rw[vad hw];exact .inl (hgo.1 hw)
  ·rw[vab hw];exact hgo.2 hw
theorem J8{bs0:bZ}{A:List Nat}{ops:Array Oper}{K:aK->Prop}{Q:Exit->Act->World->Prop}(hR:XO P E bs0 st a w)(hl:bs0.length<=st.boxes.length)
  (hQ:∀a' w' st',a'.defers=a.defers->XO P E bs0 st' a' w'->K st'->Q .normal a' w') (hp:da P E.GE A ops K ops.toList st.boxes.length {st with boxes:=st.boxes++fM P ops.toList}):
  wpOps P ops Q (List.range ops.size) a w:=by
 obtain⟨Γ,bs,ow,h,hk⟩:=hR
 have hext:=h.extend (fM P ops.toList)
 have hlen:=FJ P ops.toList
 have:=EV (P:=P) (E:=E) (bs0:=bs0) (ds:=a.defers) hQ ops.toList 0 st.boxes.length Γ _ ow a w _ (λj=>by simp) hext rfl (λi hi=>?_) hl (λm hm1 hm2=>?_) hp
 ·simpa using this
 ·rw[van (by rw[h.bl];omega)];exact hk i hi
 ·rw[vaw (by rw[h.bl];omega),va6,vad (by rw[h.bl];omega)]
end
def U7(ro:Option Nat)(P:Program)(c:Code)(Q:Exit->Act->World->Prop)(a:Act)(w:World):Prop:=match ro with
 |none=>c.wp P Q a w
 |some l=>∀n,c.wpIn (Fence.wide.inRound l) n P Q a w
def gi(o:Oper):Bool:=match o.op with
 |.defer _=>false
 |_=>true
section
variable{P:Program}{ro:Option Nat}{Q:Exit->Act->World->Prop}{a:Act}{w:World}
theorem rN{c:Code}{Q':Exit->Act->World->Prop}(h:U7 ro P c Q a w)(hq:∀e a w,Q e a w->Q' e a w):U7 ro P c Q' a w:=by
 cases ro with
 |none=>exact wp_mono h hq
 |some l=>exact λn=>wpIn_mono (h n) hq
theorem qeq(h:Q .normal a w):U7 ro P .skip Q a w:=by
 cases ro with
 |none=>exact wp_skip h
 |some l=>exact λn=>wpIn_skip h
theorem qck{l:Nat}(h:Q .normal a w):U7 ro P (.label l) Q a w:=by
 cases ro with
 |none=>exact wp_label h
 |some l=>exact λn=>wpIn_label h
theorem qep{id:Nat}(h:Q (.exit id) a w):U7 ro P (.exit id) Q a w:=by
 cases ro with
 |none=>exact wp_exit h
 |some l=>exact λn=>wpIn_exit h
theorem qgW(h:Q .ret a w):U7 ro P .ret Q a w:=by
 cases ro with
 |none=>exact wp_ret h
 |some l=>exact λn=>wpIn_ret h
theorem qgX{x y:Code}(h:U7 ro P x (Exit.then (U7 ro P y Q) Q) a w):U7 ro P (.seq x y) Q a w:=by
 cases ro with
 |none=>exact wp_seq h
 |some l=>exact λn=>wpIn_seq (wpIn_mono (h n) λe a w hq=>by cases e<;>first|exact hq n|exact hq)
theorem qeo{c:Operand}{x y:Code}{t:Bool}(hc:a.eval c=.bool t)(h1:t=true->U7 ro P x Q a w)(h2:t=false->U7 ro P y Q a w):U7 ro P (.cond c x y) Q a w:=by
 cases t with
 |true=>cases ro with
  |none=>exact wp_cond hc (h1 rfl)
  |some l=>exact λn=>wpIn_cond hc (h1 rfl n)
 |false=>cases ro with
  |none=>exact wp_cond hc (h2 rfl)
  |some l=>exact λn=>wpIn_cond hc (h2 rfl n)
theorem qcj{id:Nat}{c:Code}(h:U7 ro P c (Exit.inBlock id Q) a w):U7 ro P (.block id c) Q a w:=by
 cases ro with
 |none=>exact wp_block h
 |some l=>exact λn=>wpIn_block (h n)
theorem Sq{c:Code}(I:Nat->Act->World->Prop)(n₀:Nat)(h₀:I n₀ a w)(round:∀n a w,I n a w->U7 ro P c (Exit.then (λa' w'=>∃n',n'<n/\I n' a' w') Q) a w):U7 ro P (.loop c) Q a w:=by
 cases ro with
 |none=>exact wp_loop_ghost I n₀ h₀ round
 |some l=>exact λn=>wpIn_loop_ghost I n₀ h₀ λk a w hI=>round k a w hI n
theorem qhy{l n:Nat}{row:String}{args:Array Value}{R:Value->World->Prop}(h:Rows P row args w R):RowsIn (Fence.wide.inRound l) n P row args w R:=λc cs _=>by
 obtain⟨v,w',r,s⟩:=h c cs
 exact⟨v,w',r,by rw[fenced_inRound];exact stepsIn_wide.2 s⟩
theorem qei{l n:Nat}{f:FuncId}{args:Array Value}{R:Ending->World->Prop}(h:Calls P f args w R):CallsIn (Fence.wide.inRound l) n P f args w R:=CallsIn.inRound l (callsIn_wide.2 h)
theorem qbv{l n:Nat}{o:Oper}{next:Act->World->Prop}(hd:gi o=true)(h:o.wp P a w next Q):o.wpIn (Fence.wide.inRound l) n P a w next Q:=by
 refine⟨λ_ _=>trivial,?_⟩
 have hs:o.semAt (Fence.wide.inRound l).round a.eval=execOp a.eval o:=Oper.semAt_eq _ _ _ λc hc=>by unfold gi at hd;rw[hc]at hd;cases hd
 rw[hs]
 unfold Oper.wp at h
 generalize (execOp a.eval o).run P w=r at *
 have hdep:(Fence.wide.inRound l).depth.isSome=true->1<=n:=λh=>by simp[Fence.wide]at h
 cases r with
 | ok x w' =>
  cases x<;>simp only[Oper.upon]at h<;>simp only[Oper.uponIn]<;>first
   |exact h.elim
   |exact h
   |exact⟨hdep,qei h⟩
   |exact⟨hdep,qhy h⟩
 |halt x w'=>cases x<;>simp only[Oper.upon]at h<;>simp only[Oper.uponIn]<;>exact h
theorem MG{l n:Nat}{ops:Array Oper}(hd:ops.toList.all gi=true)(hQ:¬LetsOut Q):∀(L:List Nat) (a:Act) (w:World),wpOps P ops Q L a w->wpOpsIn (Fence.wide.inRound l) n P ops Q L a w
 |[],a,w,h=>h
 | i :: rest,a,w,h => by
  unfold wpOps at h
  unfold wpOpsIn
  split at h
  ·rename_i ho;simp only[ho];exact MG hd hQ rest a w h
  ·rename_i o ho
   simp only[ho]
   have hn:gi o=true:=vas.1 hd o (by
    have:=vcK ho
    simpa using this)
   split at h
   ·rename_i hw
    rw[vad hw]
    rcases h with h|h
    ·exact Oper.wpIn_mono (λa w h=>MG hd hQ rest a w h) (qbv hn h)
    ·exact absurd h.2 hQ
   ·rename_i hw
    rw[vab hw]
    exact⟨λ_ _=>trivial,MG hd hQ rest _ w h⟩
theorem qhf{l n:Nat}{ops:Array Oper}(hd:ops.toList.all gi=true)(hQ:¬LetsOut Q){i:Nat}{K:Act->World->Prop}(h:wpOp P ops Q i K a w):wpOpIn (Fence.wide.inRound l) n P ops Q i K a w:=by
 unfold wpOp at h
 unfold wpOpIn
 split at h
 ·rename_i ho;simp only[ho];exact h
 ·rename_i o ho
  simp only[ho]
  have hn:gi o=true:=vas.1 hd o (by
   have:=vcK ho
   simpa using this)
  split at h
  ·rename_i hw
   rw[vad hw]
   rcases h with h|h
   ·exact qbv hn h
   ·exact absurd h.2 hQ
  ·rename_i hw
   rw[vab hw]
   exact⟨λ_ _=>trivial,h⟩
theorem Yc{l n:Nat}{md:Region.Mode}{ops:Array Oper}(hd:ops.toList.all gi=true)(hQ:¬LetsOut Q):∀(fuel:Nat) (listed:Array Bool) (a:Act) (w:World),wpAny P md ops Q fuel listed a w->wpAnyIn (Fence.wide.inRound l) n P md ops Q fuel listed a w
 |0,_,_,_,h=>h
 |fuel+1,_,_,_,h=>⟨h.1,λi hi=>wpOpIn_mono (λa w h=>Yc hd hQ fuel _ a w h) (qhf hd hQ (h.2 i hi))⟩
theorem ZW{id:Nat}{ops:Array Oper}(hd:ops.toList.all gi=true)(hQ:¬LetsOut Q)(h:wpOps P ops Q (List.range ops.size) a w):U7 ro P (.region id ops false) Q a w:=by
 cases ro with
 |none=>exact wp_region h
 |some l=>exact λn=>wpIn_region (MG hd hQ _ _ _ h)
theorem HC{id:Nat}{ops:Array Oper}(hf:P.follows .mixedOrders=true)(hd:ops.toList.all gi=true)(hQ:¬LetsOut Q)
  (h:wpAny P .any ops Q ops.size (Array.replicate ops.size false) a {w with drawn:=w.drawn+1}):U7 ro P (.region id ops true) Q a w:=by
 cases ro with
 |none=>exact wp_region_any hf h
 |some l=>exact λn=>wpIn_region_any hf (Yc hd hQ _ _ _ _ h)
end
section plain
variable{σ X:Type}
def xG(body:σ->Option (σ⊕X)):Nat->σ->Option X
 |0,_=>none
 |n+1,s=>match body s with
  |none=>none
  |some (.inl s')=>xG body n s'
  |some (.inr x)=>some x
theorem SW{body:σ->Option (σ⊕X)}:∀{n:Nat} {s:σ} {x:X},xG body n s=some x->∀k,xG body (n+k) s=some x
 |0,_,_,h,_=>by cases h
 | n + 1,s,x,h,k => by
  rw[Nat.add_right_comm]
  unfold xG at h ⊢
  split at h
  ·cases h
  ·exact SW h k
  ·exact h
theorem Vi{body:σ->Option (σ⊕X)}{n m:Nat}{s:σ}{x y:X}(h1:xG body n s=some x)(h2:xG body m s=some y):x=y:=by
 have h3:=SW h1 m
 have h4:=SW h2 n
 rw[vcJ]at h4
 exact vbe (h3.symm.trans h4)
open Classical in
def qeW(body:σ->Option (σ⊕X))(s:σ):Option X:=if h:∃x n,xG body n s=some x then some h.choose else none
def ZC:Nat:=2 ^ 200
def loop(body:σ->Option (σ⊕X))(s:σ):Option X:=match xG body ZC s with
 |some x=>some x
 |none=>qeW body s
theorem IL{body:σ->Option (σ⊕X)}{s:σ}{x:X}:loop body s=some x↔∃n,xG body n s=some x:=by
 have hC:qeW body s=some x↔∃n,xG body n s=some x:=by
  unfold qeW
  constructor
  ·intro h
   split at h
   ·rename_i he;cases h;exact he.choose_spec
   ·cases h
  ·rintro⟨n,h⟩
   have he:∃x n,xG body n s=some x:=⟨x,n,h⟩
   rw[dif_pos he]
   obtain⟨m,hm⟩:=he.choose_spec
   rw[Vi hm h]
 unfold loop
 split
 ·rename_i y hy
  exact⟨λh=>⟨ZC,hy.trans h⟩,λ⟨n,h⟩=>vaW some (Vi hy h)⟩
 ·exact hC
theorem ke(body:σ->Option (σ⊕X))(s:σ):loop body s=match body s with
  |none=>none
  |some (.inl s')=>loop body s'
  |some (.inr x)=>some x:=by
 have key:∀y,loop body s=some y↔(match body s with
  |none=>none
  |some (.inl s')=>loop body s'
  |some (.inr x)=>some x)=some y:=by
  intro y
  rw[IL]
  constructor
  ·rintro⟨n,h⟩
   cases n with
   |zero=>cases h
   | succ n =>
    unfold xG at h
    cases hb:body s with
    |none=>rw[hb]at h;cases h
    |some v=>
     cases v with
     |inl s'=>rw[hb]at h;exact IL.2 ⟨n,h⟩
     |inr x=>rw[hb]at h;exact h
  ·intro h
   cases hb:body s with
   |none=>rw[hb]at h;cases h
   | some v =>
    cases v with
    |inl s'=>
     rw[hb]at h
     obtain⟨n,hn⟩:=IL.1 h
     exact⟨n+1,by unfold xG;rw[hb];exact hn⟩
    |inr x=>rw[hb]at h;exact⟨1,by unfold xG;rw[hb];exact h⟩
 cases h1:loop body s with
 | none =>
  cases h2:(match body s with
   |none=>none
   |some (.inl s')=>loop body s'
   |some (.inr x)=>some x)with
  |none=>rfl
  |some y=>rw[(key y).2 h2]at h1;cases h1
 |some y=>exact((key y).1 h1).symm
def cX{α:Type}(l:List α)(i:Int):Option α:=if 0<=i then l[i.toNat]? else none
theorem Uh{α β:Type}{o:Option α}{k:α->Option β}{x:β}(h:o.bind k=some x):∃a,o=some a/\k a=some x:=by
 cases o with
 |none=>cases h
 |some a=>exact⟨a,rfl,h⟩
theorem Lt{β:Type}{b:Bool}{x y:Option β}{z:β}(h:(if b=true then x else y)=some z):(b=true/\x=some z)\/(b=false/\y=some z):=by
 cases b
 ·exact .inr ⟨rfl,h⟩
 ·exact .inl ⟨rfl,h⟩
end plain
structure Rj(GE:List (Nat×List PVal))(m:Nat)(E:wF):Prop where
 ge:E.GE=GE
 low:∀b n,E.Γ b=some n->b<E.w.heap.size
 nt:m=0->∀b,¬E.T b
 gl:∀g cs,(g,cs)∈GE->VR E.Γ [] E.w (.eptr cs) (.pointer (some ⟨g,0,none⟩))
def eH(P:Program)(GE:List (Nat×List PVal))(m:Nat)(c:Code)(Q:Exit->aK->Prop)(st:aK):Prop:=
 ∀(ro:Option Nat) (E:wF) (bs0:bZ) (a:Act) (w:World),Rj GE m E->bs0.length=m % 1000->XO P E bs0 st a w->U7 ro P c (UQ P E bs0 a.defers Q) a w
def EX(e:Exit)(st:aK):Exit->aK->Prop:=λe' st'=>e'=e/\st'=st
def Cu(P:Program)(m:Nat)(st st':aK):Prop:=∀(E:wF) (bs0:bZ) (a:Act) (w:World),bs0.length=m % 1000->XO P E bs0 st a w->XO P E bs0 st' a w
section
variable{P:Program}{GE:List (Nat×List PVal)}{m:Nat}
theorem Cu.refl(st:aK):Cu P m st st:=λ_ _ _ _ _ h=>h
theorem Cu.trans{a b c:aK}(h:Cu P m a b)(h':Cu P m b c):Cu P m a c:=λE bs0 x w hb h0=>h' E bs0 x w hb (h E bs0 x w hb h0)
theorem Cu.of_less{st st':aK}(h:qj7 st st')(hm:m % 1000<=st'.boxes.length):Cu P m st st':=λ_ _ _ _ hb hR=>hR.less h (by rw[hb];exact hm)
theorem eH.mono{c:Code}{Q Q':Exit->aK->Prop}{st:aK}(h:eH P GE m c Q st)(hq:∀e st,Q e st->∃st',Cu P m st st'/\Q' e st'):eH P GE m c Q' st:=
 λro E bs0 a w hE hb hR=>rN (h ro E bs0 a w hE hb hR) λe a' w' hP=>by
  obtain⟨hd,st1,hR1,hQ⟩:=hP
  obtain⟨st2,hw,hQ2⟩:=hq e st1 hQ
  exact⟨hd,st2,hw E bs0 a' w' hb hR1,hQ2⟩
theorem eH.imp{c:Code}{Q Q':Exit->aK->Prop}{st:aK}(h:eH P GE m c Q st)(hq:∀e st,Q e st->Q' e st):eH P GE m c Q' st:=h.mono λe st hQ=>⟨st,.refl st,hq e st hQ⟩
theorem eH.weak{c:Code}{Q:Exit->aK->Prop}{st st':aK}(hw:Cu P m st st')(h:eH P GE m c Q st'):eH P GE m c Q st:=
 λro E bs0 a w hE hb hR=>h ro E bs0 a w hE hb (hw E bs0 a w hb hR)
theorem eH.skip{Q:Exit->aK->Prop}{st:aK}(h:Q .normal st):eH P GE m .skip Q st:=λ_ _ _ _ _ _ _ hR=>qeq ⟨rfl,st,hR,h⟩
theorem eH.label{l:Nat}{Q:Exit->aK->Prop}{st:aK}(h:Q .normal st):eH P GE m (.label l) Q st:=λ_ _ _ _ _ _ _ hR=>qck ⟨rfl,st,hR,h⟩
theorem eH.exit{id:Nat}{Q:Exit->aK->Prop}{st:aK}(h:Q (.exit id) st):eH P GE m (.exit id) Q st:=λ_ _ _ _ _ _ _ hR=>qep ⟨rfl,st,hR,h⟩
theorem eH.ret{Q:Exit->aK->Prop}{st:aK}(h:Q .ret st):eH P GE m .ret Q st:=λ_ _ _ _ _ _ _ hR=>qgW ⟨rfl,st,hR,h⟩
theorem eH.seq{x y:Code}{Q:Exit->aK->Prop}{st:aK}(h:eH P GE m x (λe st'=>match e with|.normal=>eH P GE m y Q st'|e=>Q e st') st):eH P GE m (.seq x y) Q st:=by
 intro ro E bs0 a w hE hb hR
 refine qgX (rN (h ro E bs0 a w hE hb hR) λe a' w' hq=>?_)
 obtain⟨hd,st',hR',hq⟩:=hq
 cases e with
 |normal=>
  have:=hq ro E bs0 a' w' hE hb hR'
  rw[hd]at this
  exact this
 |exit id=>exact⟨hd,st',hR',hq⟩
 |goto l=>exact⟨hd,st',hR',hq⟩
 |ret=>exact⟨hd,st',hR',hq⟩
 |panic c=>exact⟨hd,st',hR',hq⟩
 |outgrown=>exact⟨hd,st',hR',hq⟩
theorem eH.cond{c:Operand}{x y:Code}{Q:Exit->aK->Prop}{st:aK}{t:Bool}(hv:opv GE st.tmps c=.bool t)(h1:t=true->eH P GE m x Q st)(h2:t=false->eH P GE m y Q st):eH P GE m (.cond c x y) Q st:=by
 intro ro E bs0 a w hE hb hR
 obtain⟨Γ,bs,ow,h,hk⟩:=hR
 have hv':=h.opv a.defers c
 rw[hE.ge,hv]at hv'
 generalize hc:(Act.mk a.tmps a.defers).eval c=vc at hv'
 cases hv'
 exact qeo (t:=t) hc (λht=>h1 ht ro E bs0 a w hE hb ⟨Γ,bs,ow,h,hk⟩) (λht=>h2 ht ro E bs0 a w hE hb ⟨Γ,bs,ow,h,hk⟩)
theorem eH.block{id:Nat}{c:Code}{Q:Exit->aK->Prop}{st:aK}(h:eH P GE m c (Wq id Q) st):eH P GE m (.block id c) Q st:=by
 intro ro E bs0 a w hE hb hR
 refine qcj (rN (h ro E bs0 a w hE hb hR) λe a' w' hq=>?_)
 obtain⟨hd,st',hR',hq⟩:=hq
 cases e with
 | exit id' =>
  simp only[Wq]at hq
  simp only[Exit.inBlock]
  split at hq
  ·rename_i hid;rw[vad hid];exact⟨hd,st',hR',hq⟩
  ·rename_i hid;rw[vab hid];exact⟨hd,st',hR',hq⟩
 |normal=>exact⟨hd,st',hR',hq⟩
 |goto l=>exact⟨hd,st',hR',hq⟩
 |ret=>exact⟨hd,st',hR',hq⟩
 |panic c=>exact⟨hd,st',hR',hq⟩
 |outgrown=>exact⟨hd,st',hR',hq⟩
theorem eH.text{A:List Nat}{id:Nat}{ops:Array Oper}{Q:Exit->aK->Prop}{st:aK}(hd:ops.toList.all gi=true)
  (h:da P GE A ops (Q .normal) ops.toList st.boxes.length {st with boxes:=st.boxes++fM P ops.toList}):eH P GE m (.region id ops false) Q st:=by
 intro ro E bs0 a w hE hb hR
 obtain⟨rfl,_,_,_⟩:=hE
 refine rN (ZW (Q:=λe a' w'=>e=.normal/\UQ P E bs0 a.defers Q .normal a' w') hd (by rintro⟨_,_,h,_⟩;cases h) ?_) λe a' w' hq=>by obtain⟨rfl,hq⟩:=hq;exact hq
 exact J8 hR hR.len (λa' w' st' hd hR' hK=>⟨rfl,hd,st',hR',hK⟩) h
def LQ{σ X:Type}(S:σ->aK)(ex:X->Exit)(so:X->aK):σ⊕X->Exit->aK->Prop
 |.inl s,e,st=>e=.normal/\st=S s
 |.inr x,e,st=>e≠.normal/\e=ex x/\st=so x
theorem eH.loop{σ X:Type}{S:σ->aK}{ex:X->Exit}{so:X->aK}{body:σ->Option (σ⊕X)}{c:Code}{s:σ}{x:X}(h:loop body s=some x)
  (hb:∀s y,body s=some y->eH P GE m c (LQ S ex so y) (S s)):eH P GE m (.loop c) (EX (ex x) (so x)) (S s):=by
 obtain⟨n,hn⟩:=IL.1 h
 intro ro E bs0 a w hE hb0 hR
 refine Sq (λk a' w'=>a'.defers=a.defers/\∃s',XO P E bs0 (S s') a' w'/\xG body k s'=some x) n ⟨rfl,s,hR,hn⟩ ?_
 intro k a1 w1 hI
 obtain⟨hd1,s1,hR1,hl⟩:=hI
 cases k with
 |zero=>cases hl
 | succ k =>
  unfold xG at hl
  split at hl
  ·cases hl
  ·rename_i s2 hs2
   refine rN (hb s1 _ hs2 ro E bs0 a1 w1 hE hb0 hR1) λe a' w' hq=>?_
   obtain⟨hd,st',hR',rfl,rfl⟩:=hq
   exact⟨k,vcG k,hd.trans hd1,s2,hR',hl⟩
  ·rename_i x2 hs2
   cases hl
   refine rN (hb s1 _ hs2 ro E bs0 a1 w1 hE hb0 hR1) λe a' w' hq=>?_
   obtain⟨hd,st',hR',hne,rfl,rfl⟩:=hq
   have hd':=hd.trans hd1
   cases hex:ex x with
   |normal=>exact absurd hex hne
   |exit id=>exact⟨hd',_,hR',rfl,rfl⟩
   |goto l=>exact⟨hd',_,hR',rfl,rfl⟩
   |ret=>exact⟨hd',_,hR',rfl,rfl⟩
   |panic c=>exact⟨hd',_,hR',rfl,rfl⟩
   |outgrown=>exact⟨hd',_,hR',rfl,rfl⟩
def U8:List PVal->List PVal->List PVal
 |[],_=>[]
 |_::ps,[]=>.undef::U8 ps []
 |_::ps,.undef::qs=>.undef::U8 ps qs
 |p::ps,_::qs=>p::U8 ps qs
def AE:aJ->aJ->aJ
 |_,.dead=>.dead
 |.cells cs own,.cells _ own'=>.cells cs (match own'.all λx=>decide (x∈own)with
  |true=>own'
  |false=>own)
 |p,_=>p
def XQ:List aJ->List aJ->List aJ
 |[],_=>[]
 |p::ps,[]=>p::XQ ps []
 |p::ps,q::qs=>AE p q::XQ ps qs
def qqW(B B':aJ):Prop:=B=.dead\/B=B'\/∃cs own own',B'=.cells cs own/\B=.cells cs own'/\∀x∈own',x∈own
theorem qa8(p q:aJ):qqW (AE p q) p:=by
 unfold AE
 split
 ·exact .inl rfl
 ·split
  ·rename_i h
   exact .inr (.inr ⟨_,_,_,rfl,rfl,λx hx=>by simpa using vas.1 h x hx⟩)
  ·exact .inr (.inl rfl)
 ·exact .inr (.inl rfl)
theorem Yv(p:PVal)(ps qs:List PVal):∃q r,U8 (p::ps) qs=q::U8 ps r/\(q=.undef\/q=p):=by
 cases qs with
 |nil=>exact⟨_,[],by simp[U8],.inl rfl⟩
 |cons q qs=>cases q<;>first|(refine⟨p,qs,?_,.inr rfl⟩;simp only[U8];done)|(refine⟨.undef,qs,?_,.inl rfl⟩;simp only[U8];done)
theorem WS:∀{l bs:List PVal} {i:Nat} {p:PVal},(U8 l bs)[i]? =some p->p=.undef\/l[i]? =some p
 |[],bs,i,p,h=>by simp[U8]at h
 |q::l,bs,i,p,h=>by
  obtain⟨q',r,h1,h2⟩:=Yv q l bs
  rw[h1]at h
  cases i with
  |zero=>simp at h;subst h;rcases h2 with h2|h2<;>simp[h2]
  |succ i=>simpa using WS (by simpa using h)
theorem WT:∀{l bs:List PVal},(U8 l bs).length=l.length
 |[],bs=>by simp[U8]
 |q::l,bs=>by obtain⟨q',r,h1,h2⟩:=Yv q l bs;rw[h1];simp[WT]
theorem Q5:∀{l bs:List aJ} {i:Nat} {B:aJ},(XQ l bs)[i]? =some B->∃B',l[i]? =some B'/\qqW B B'
 |[],bs,i,p,h=>by simp[XQ]at h
 |q::l,[],i,B,h=>by
  simp only[XQ]at h
  cases i with
  |zero=>simp at h;subst h;exact⟨q,rfl,.inr (.inl rfl)⟩
  |succ i=>simpa using Q5 (by simpa using h)
 |q::l,r::bs,i,B,h=>by
  simp only[XQ]at h
  cases i with
  |zero=>simp at h;subst h;exact⟨q,rfl,qa8 q r⟩
  |succ i=>simpa using Q5 (by simpa using h)
theorem WR:∀{l bs:List aJ},(XQ l bs).length=l.length
 |[],bs=>by simp[XQ]
 |q::l,[]=>by simp only[XQ,vaG,WR]
 |q::l,r::bs=>by simp only[XQ,vaG,WR]
theorem Cu.forget{st:aK}(bt:List PVal)(bb:List aJ)(own:List ((Nat×Nat)×TypeId))(ho:∀x∈own,x∈st.own):Cu P m st ⟨U8 st.tmps bt,XQ st.boxes bb,own⟩:=by
 intro E bs0 a w hb hR
 obtain⟨Γ,bs,ow,h,hk⟩:=hR
 refine⟨Γ,bs,ow,?_,hk⟩
 exact{h with
  sz:=by rw[h.sz];exact WT.symm
  tm:=λt p v hp hv=>by
   rcases WS hp with rfl|hp'
   ·exact .undef v
   ·exact h.tm t p v hp' hv
  bl:=by rw[h.bl];exact WR.symm
  bx:=λi b B hib hB=>by
   obtain⟨B',hB',hx⟩:=Q5 hB
   obtain⟨k1,k2,k3⟩:=h.bx i b B' hib hB'
   rcases hx with rfl|rfl|⟨cs,own,own',rfl,rfl,_⟩
   ·exact⟨k1,k2,vzz⟩
   ·exact⟨k1,k2,k3⟩
   ·exact⟨k1,k2,k3⟩
  ot:=λt k e he=>h.ot t k e (ho _ he)
  ob:=λi j e cs own' b hB hj hib=>by
   obtain⟨B',hB',hx⟩:=Q5 hB
   rcases hx with hx|rfl|⟨cs1,own1,own2,rfl,e2,hs⟩
   ·cases hx
   ·exact h.ob i j e cs own' b hB' hj hib
   ·cases e2;exact h.ob i j e _ own1 b hB' (hs _ hj) hib}
theorem EX.of{c:Code}{e:Exit}{st st0:aK}{Q:Exit->aK->Prop}(h:eH P GE m c (EX e st0) st)(hq:Q e st0):eH P GE m c Q st:=
 h.imp λe' st' hx=>by obtain⟨rfl,rfl⟩:=hx;exact hq
end
structure GC where
 ρ:List Nat
 argsC:List PVal
 oa:List OA
 Bs:List aJ
 Hc:List aJ
 Bs':List aJ
 Hc':List aJ
 r:PVal
 rc:PVal
 ro:List (Nat×TypeId)
inductive It where
 |cg (c:GC)
 |cn (c:GC)
 |ar (i:Nat) (e:TypeId) (n:Nat) (cs:List PVal)
 |fz (i:Nat) (es:List (List PVal)) (lv rk:List Nat)
 |g (j:Nat) (b:Bool)
 |k
 |s
 |v (p:PVal)
 |x (cs:List PVal)
 |w (i:Nat) (B:aJ)
 |c (r:PVal) (ro:List (Nat×TypeId))
 |dr (an:List Nat)
 |dx (an:List Nat) (X:List aJ) (br:List (Nat×Nat)) (rw:List Nat)
 |pa (n:Nat)
 |pc (st0:aK) (e:Exit) (st1:aK)
 |b (p:PVal) (L:List (Nat×TypeId))
 |y (vs:List PVal)
 |z (l:List PVal)
 |e (vs:List PVal)
def Cv:List PVal->Nat->(PVal->Prop)->Prop
 |[],_,k=>k .undef
 |p::_,0,k=>k p
 |_::l,n+1,k=>Cv l n k
theorem jA:∀(l:List PVal) (n:Nat) (k:PVal->Prop),Cv l n k=k (l.getD n .undef)
 |[],_,_=>by simp[Cv]
 |_::_,0,_=>by simp[Cv]
 |_::l,n+1,k=>by simp only[Cv,jA l n k,List.getD_cons_succ]
def gA{α:Type}:List α->Nat->α->(List α->Prop)->Prop
 |[],_,_,k=>k []
 |_::l,0,v,k=>k (v::l)
 |x::l,n+1,v,k=>gA l n v λl'=>k (x::l')
theorem bY{α:Type}:∀(l:List α) (n:Nat) (v:α) (k:List α->Prop),gA l n v k=k (l.set n v)
 |[],_,_,_=>by simp[gA]
 |_::_,0,_,_=>by simp[gA]
 |x::l,n+1,v,k=>by simp only[gA,bY l n v,List.set_cons_succ]
def bO{α:Type}:List α->(List α->Prop)->Prop
 |[],k=>k []
 |x::l,k=>bO l λl'=>k (x::l')
def qb6(l:List aJ)(r:List aJ)(k:List aJ->Prop):Prop:=bO (l++r) k
theorem ba{α:Type}:∀(l:List α) (k:List α->Prop),bO l k=k l
 |[],_=>rfl
 |x::l,k=>by simp only[bO,ba l]
def qiJ:Value->(PVal->Prop)->Prop
 |.int a n,k=>k (.int a n)
 |.bool b,k=>k (.bool b)
 |.string s,k=>bO s.data.toList λl=>k (.str l)
 |v,k=>k (absV v)
theorem qgr(v:Value)(k:PVal->Prop):qiJ v k=k (absV v):=by
 unfold qiJ
 split
 ·rfl
 ·rfl
 ·rw[ba];rfl
 ·rfl
def tJ(GE:List (Nat×List PVal))(tmps:List PVal)(x:Operand)(k:PVal->Prop):Prop:=
 match x with
 |.tmp t=>Cv tmps t k
 |.const v=>qiJ v k
 |x=>k (opv GE tmps x)
theorem cB(GE:List (Nat×List PVal))(tmps:List PVal)(x:Operand)(k:PVal->Prop):tJ GE tmps x k=k (opv GE tmps x):=by
 cases x with
 |tmp t=>exact jA _ _ _
 |const v=>exact qgr _ _
 |global g=>rfl
 |func f=>rfl
def UD(GE:List (Nat×List PVal))(tmps:List PVal):List Operand->(List PVal->Prop)->Prop
 |[],k=>k []
 |x::l,k=>tJ GE tmps x λp=>UD GE tmps l λps=>k (p::ps)
theorem om(GE:List (Nat×List PVal))(tmps:List PVal):∀(l:List Operand) (k:List PVal->Prop),UD GE tmps l k=k (l.map (opv GE tmps))
 |[],_=>rfl
 |x::l,k=>by simp only[UD,cB,om GE tmps l,vae]
def ED(GE:List (Nat×List PVal))(tmps:List PVal):List (Nat×Operand)->(List (Nat×PVal)->Prop)->Prop
 |[],k=>k []
 |x::l,k=>tJ GE tmps x.2 λp=>ED GE tmps l λps=>k ((x.1,p)::ps)
theorem uo(GE:List (Nat×List PVal))(tmps:List PVal):∀(l:List (Nat×Operand)) (k:List (Nat×PVal)->Prop),ED GE tmps l k=k (l.map λx=>(x.1,opv GE tmps x.2))
 |[],_=>rfl
 |x::l,k=>by simp only[ED,cB,uo GE tmps l,vae]
def qhg(GE:List (Nat×List PVal))(tmps:List PVal):Option Operand->(Option PVal->Prop)->Prop
 |none,k=>k none
 |some x,k=>tJ GE tmps x λp=>k (some p)
theorem qhh(GE:List (Nat×List PVal))(tmps:List PVal)(o:Option Operand)(k:Option PVal->Prop):qhg GE tmps o k=k (o.map (opv GE tmps)):=by
 cases o with
 |none=>rfl
 |some x=>simp only[qhg,cB,vaj]
def Lq(sc:List It)(f:PVal->Prop)(K:PVal->List It->Prop):Prop:=
 match sc with
 |.v p::sc'=>f p/\K p sc'
 |_=>False
def Uv(o:Option PVal)(K:PVal->Prop):Prop:=
 match o with
 |some p=>K p
 |none=>False
theorem BL{o:Option PVal}{K:PVal->Prop}(h:Uv o K):∃p,o=some p/\K p:=by
 unfold Uv at h
 split at h
 ·exact⟨_,rfl,h⟩
 ·exact h.elim
theorem oC{sc:List It}{f:PVal->Prop}{K:PVal->List It->Prop}(h:Lq sc f K):∃p sc',f p/\K p sc':=by
 unfold Lq at h
 split at h
 ·exact⟨_,_,h⟩
 ·exact h.elim
def CC(P:Program)(GE:List (Nat×List PVal))(g:FuncId)(args:List PVal)(r:PVal)(ro:List (Nat×TypeId)):Prop:=jl 0 args/\C P GE g args [] [] r ro []
def To(P:Program)(t:TypeId)(es:List (PVal×PVal))(k:PVal)(ok:Bool):Option PVal:=
 match P.underlying t with
 | some (.map kt e) => match P.underlying kt with
  | some kd =>
   if p7 kd k then
    match HX k es 0,OP P e with
    |some (some (_,v)),_=>some (if ok then .tuple [v,.bool true]else v)
    |some none,some z=>some (if ok then .tuple [z,.bool false]else z)
    |_,_=>none
   else none
  |_=>none
 |_=>none
theorem qc9{P:Program}{t:TypeId}{es:List (PVal×PVal)}{k p:PVal}{ok:Bool}{H:List aJ}{i:Nat}(hB:H[i]? =some (.map es))(h:To P t es k ok=some p):BS P t (.mapr i) k ok H=some p:=by
 unfold To at h
 unfold BS
 split at h
 ·rename_i kt e hu
  split at h
  ·rename_i kd hk
   simp only[hu,hB,hk]
   exact h
  ·cases h
 ·cases h
def Vr(P:Program)(t:TypeId)(es:List (PVal×PVal))(k v:PVal):Option (List (PVal×PVal)):=
 match P.underlying t with
 | some (.map kt _) => match P.underlying kt with
  | some kd =>
   if p7 kd k then
    match HX k es 0 with
    |some (some (j,_))=>some (es.set j (k,v))
    |some none=>some (es++[(k,v)])
    |none=>none
   else none
  |_=>none
 |_=>none
theorem Zh{P:Program}{t:TypeId}{es es':List (PVal×PVal)}{k v:PVal}{H:List aJ}{i:Nat}(hB:H[i]? =some (.map es))(h:Vr P t es k v=some es'):iF P t (.mapr i) k v H=some (H.set i (.map es')):=by
 unfold Vr at h
 unfold iF
 split at h
 ·rename_i kt e hu
  split at h
  ·rename_i kd hk
   simp only[hu,hB,hk]
   split at h
   ·rename_i hkk
    rw[vad hkk]
    split at h
    ·rename_i hf;cases h;simp[hf]
    ·rename_i hf;cases h;simp[hf]
    ·cases h
   ·cases h
  ·cases h
 ·cases h
def np:List aJ->Nat->(aJ->Prop)->Prop
 |[],_,_=>False
 |B::_,0,k=>k B
 |_::l,n+1,k=>np l n k
theorem eE:∀{l:List aJ} {n:Nat} {k:aJ->Prop},np l n k->∃B,l[n]? =some B/\k B
 |[],_,_,h=>h.elim
 |B::_,0,_,h=>⟨B,rfl,h⟩
 |_::l,n+1,k,h=>by simp only[np]at h;obtain⟨B,h1,h2⟩:=eE h;exact⟨B,by simpa using h1,h2⟩
def qcx(op:BinOp)(x:PVal):Bool:=match op,x with
 |.quo,_=>true
 |.rem,_=>true
 |.add,.str _=>true
 |_,.agg _=>true
 |_,_=>false
def qa7(P:Program)(GE:List (Nat×List PVal))(op:Op)(tmps:List PVal)(H:List aJ)(sc:List It)(K:PVal->List aJ->List It->Prop):Prop:=
 match op with
 |.move x=>tJ GE tmps x λp=>K p H sc
 |.assign x=>tJ GE tmps x λp=>K p H sc
 |.pick c x y=>tJ GE tmps c λpc=>match pc with
  |.bool true=>tJ GE tmps x λp=>K p H sc
  |.bool false=>tJ GE tmps y λp=>K p H sc
  |_=>False
 |.binOp op T x y _=>tJ GE tmps x λvx=>tJ GE tmps y λvy=>match qcx op vx with
  |true=>Lq sc (λp=>Te P op T vx vy=some p) λp sc'=>K p H sc'
  |false=>Uv (Te P op T vx vy) λp=>K p H sc
 |.unOp op _ x=>tJ GE tmps x λvx=>Uv (ql5 op vx) λp=>K p H sc
 |.convert s d x=>tJ GE tmps x λvx=>Lq sc (λp=>Py P s d vx=some p) λp sc'=>K p H sc'
 |.extract t i=>tJ GE tmps t λvt=>Uv (zZ vt i) λp=>K p H sc
 |.nilCheck x=>tJ GE tmps x λvx=>match vx with
  |.eptr cs=>K (.eptr cs) H sc
  |.bptr i off=>K (.bptr i off) H sc
  |.func (.func f) first cap=>K (.func (.func f) first cap) H sc
  |_=>False
 |.makeFunc fn first cap=>UD GE tmps first.toList λf=>UD GE tmps cap.toList λc=>K (.func fn f c) H sc
 | .load t x => tJ GE tmps x fun vx => match vx with
  |.eptr cs=>Lq sc (λp=>bz P t cs=some p) λp sc'=>K p H sc'
  | .bptr i off => np H i fun B => match B with
   |.cells cs _=>match sc with
    |.s::sc'=>Uv (bz P t (cs.drop off)) λp=>K p H sc'
    |.v p::sc'=>bz P t (cs.drop off)=some p/\K p H sc'
    |_=>False
   |_=>False
  |_=>False
 | .store t x y => tJ GE tmps x fun vx => tJ GE tmps y fun vy => match vx,sc with
  | .bptr i off,.s :: sc' => match ca vy with
   | some vs => np H i fun B => match B with
    |.cells cs own=>match decide (vs.length=P.cellsOf t)&&(P.info? t).isSome&&decide (off+vs.length<=cs.length)&&vs.all PVal.one with
     |true=>bO (cs.take off++vs++cs.drop (off+vs.length)) λcs'=>gA H i (.cells cs' (own.filter λy=>y.1<off||off+vs.length<=y.1)) λH'=>K (.val undef) H' sc'
     |false=>False
    |_=>False
   |none=>False
  | .bptr i off,.x vs :: sc' => ca vy = some vs∧(np H i fun B => match B with
    |.cells cs own=>match decide (vs.length=P.cellsOf t)&&(P.info? t).isSome&&decide (off+vs.length<=cs.length)&&vs.all PVal.one with
     |true=>bO (cs.take off++vs++cs.drop (off+vs.length)) λcs'=>gA H i (.cells cs' (own.filter λy=>y.1<off||off+vs.length<=y.1)) λH'=>K (.val undef) H' sc'
     |false=>False
    |_=>False)
  |.bptr i off,.w _ (.cells cs' own')::sc'=>np H i λB=>(fk P t (.bptr 0 off) vy [B]=some [.cells cs' own'])/\gA H i (.cells cs' own') λH'=>K (.val undef) H' sc'
  |_,_=>False
 |.fieldAddr s x f=>tJ GE tmps x λvx=>match vx with
  |.bptr i off=>Uv (aY P s (.bptr i off) f) λp=>K p H sc
  |vx=>Lq sc (λp=>aY P s vx f=some p) λp sc'=>K p H sc'
 |.field t x f=>tJ GE tmps x λvx=>Lq sc (λp=>Xo P t vx f=some p) λp sc'=>K p H sc'
 |.indexAddr t x i=>tJ GE tmps x λvx=>tJ GE tmps i λvi=>Lq sc (λp=>lr P t vx vi=some p) λp sc'=>K p H sc'
 |.index t x i=>tJ GE tmps x λvx=>tJ GE tmps i λvi=>Lq sc (λp=>EG P t vx vi=some p) λp sc'=>K p H sc'
 | .lookup t m k ok => tJ GE tmps m fun vm => tJ GE tmps k fun vk => match vm with
  |.mapr i=>np H i λB=>match B with
   |.map es=>Lq sc (λp=>To P t es vk ok=some p) λp sc'=>K p H sc'
   |_=>False
  |_=>False
 | .mapUpdate t m k x => tJ GE tmps m fun vm => tJ GE tmps k fun vk => tJ GE tmps x fun vx => match vm,sc with
  |.mapr i,.w _ (.map es')::sc'=>np H i λB=>match B with
   |.map es=>Vr P t es vk vx=some es'/\gA H i (.map es') λH'=>K (.val undef) H' sc'
   |_=>False
  |_,_=>False
 |.slice t x lo hi none=>tJ GE tmps x λvx=>qhg GE tmps lo λvl=>qhg GE tmps hi λvh=>Lq sc (λp=>Ic P t vx vl vh none=some p) λp sc'=>K p H sc'
 |.build t parts=>ED GE tmps parts.toList λps=>Lq sc (λp=>cx P t ps=some p) λp sc'=>K p H sc'
 |.buildSlice t len parts=>ED GE tmps parts.toList λps=>Lq sc (λp=>fD P t len ps=some p) λp sc'=>K p H sc'
 | .call { callee := .builtin .len,args:=⟨[x]⟩,argTypes:=⟨[t]⟩ } => tJ GE tmps x fun vx => match vx with
  |.mapr i=>np H i λB=>match B with
   |.map es=>Lq sc (λp=>p=.int .i64 es.length/\(P.underlying t).any (λd=>match d with|.map _ _=>true|_=>false)=true) λp sc'=>K p H sc'
   |_=>False
  |vx=>Lq sc (λp=>∀H,KY P t vx H=some p) λp sc'=>K p H sc'
 |.call {callee:=.builtin .max,args:=⟨x::r⟩,..}=>tJ GE tmps x λvx=>UD GE tmps r λvr=>Uv (Pz qbC vx vr) λp=>K p H sc
 |.call {callee:=.builtin .min,args:=⟨x::r⟩,..}=>tJ GE tmps x λvx=>UD GE tmps r λvr=>Uv (Pz qbD vx vr) λp=>K p H sc
 |_=>False
section
variable{P:Program}{GE:List (Nat×List PVal)}
theorem qdg{t:TypeId}{off i:Nat}{y:PVal}{H:List aJ}{B:aJ}{cs':List PVal}{own':List (Nat×TypeId)}(hB:H[i]? =some B)(h:fk P t (.bptr 0 off) y [B]=some [.cells cs' own']):fk P t (.bptr i off) y H=some (H.set i (.cells cs' own')):=by
 unfold fk at h ⊢
 split at h
 ·rename_i i' off' vs h1 h2
  cases h1
  simp only[h2]
  change (match(some B:Option aJ)with|some (.cells cs own)=>_|_=>none)=_ at h
  rw[hB]
  split at h
  ·rename_i hb
   cases hb
   simp only
   split at h
   ·rename_i hc
    rw[vad hc]
    simp only[List.set_cons_zero,vaz,vbF,vce]at h
    rw[h]
   ·cases h
  ·cases h
 ·cases h
theorem qfl(t:TypeId)(id:Nat)(v:Operand->PVal)(x:Operand)(H:List aJ):vp P (.load t x) id v H=(nz P t (v x) H).map λp=>(p,H):=rfl
theorem Pr{op:Op}{id:Nat}{tmps:List PVal}{H:List aJ}{sc:List It}{K:PVal->List aJ->List It->Prop}(h:qa7 P GE op tmps H sc K):∃p H' sc',vp P op id (opv GE tmps) H=some (p,H')/\K p H' sc'/\H'.length=H.length:=by
 unfold qa7 at h
 split at h
 case h_1=>rw[cB]at h;exact⟨_,_,_,rfl,h,rfl⟩
 case h_2=>rw[cB]at h;exact⟨_,_,_,rfl,h,rfl⟩
 case h_3 c x y=>
  rw[cB]at h
  split at h
  ·rename_i hc;rw[cB]at h;exact⟨_,_,_,by simp only[vp,hc],h,rfl⟩
  ·rename_i hc;rw[cB]at h;exact⟨_,_,_,by simp only[vp,hc],h,rfl⟩
  ·exact h.elim
 case h_4=>
  simp only[cB]at h
  split at h
  ·obtain⟨p,sc',h1,h2⟩:=oC h;exact⟨p,_,sc',by simp only[vp,h1,vaj],h2,rfl⟩
  ·obtain⟨p,h1,h2⟩:=BL h;exact⟨p,_,_,by simp only[vp,h1,vaj],h2,rfl⟩
 case h_5=>simp only[cB]at h;obtain⟨p,h1,h2⟩:=BL h;exact⟨p,_,_,by simp only[vp,h1,vaj],h2,rfl⟩
 case h_6=>simp only[cB]at h;obtain⟨p,sc',h1,h2⟩:=oC h;exact⟨p,_,sc',by simp only[vp,h1,vaj],h2,rfl⟩
 case h_7=>simp only[cB]at h;obtain⟨p,h1,h2⟩:=BL h;exact⟨p,_,_,by simp only[vp,h1,vaj],h2,rfl⟩
 case h_8=>
  simp only[cB]at h
  split at h
  ·rename_i hv;exact⟨_,_,_,by simp only[vp,hv],h,rfl⟩
  ·rename_i hv;exact⟨_,_,_,by simp only[vp,hv],h,rfl⟩
  ·rename_i hv;exact⟨_,_,_,by simp only[vp,hv],h,rfl⟩
  ·exact h.elim
 case h_9=>simp only[om]at h;exact⟨_,_,_,rfl,h,rfl⟩
 case h_10 t x=>
  simp only[cB]at h
  rw[qfl]
  split at h
  ·rename_i cs hv
   obtain⟨p,sc',h1,h2⟩:=oC h
   exact⟨p,_,sc',by simp only[hv,nz,h1,vaj],h2,rfl⟩
  ·rename_i i off hv
   obtain⟨B,hB,h⟩:=eE h
   split at h
   ·rename_i cs own
    split at h
    ·obtain⟨p,h1,h2⟩:=BL h
     exact⟨p,_,_,by simp only[hv,nz,hB,h1,vaj],h2,rfl⟩
    ·exact⟨_,_,_,by simp only[hv,nz,hB,h.1,vaj],h.2,rfl⟩
    ·exact h.elim
   ·exact h.elim
  ·exact h.elim
 case h_11 t x y=>
  simp only[cB]at h
  split at h
  ·rename_i i off sc' hv
   split at h
   ·rename_i vs hvs
    obtain⟨B,hB,h⟩:=eE h
    split at h
    ·rename_i cs own
     split at h
     ·rename_i hc
      simp only[ba,bY]at h
      simp only[vaf,vat]at hc
      exact⟨_,_,_,by simp only[vp,fk,hv,hvs,hB];rw[vad ⟨hc.1.1.1,hc.1.1.2,hc.1.2,hc.2⟩];rfl,h,by simp⟩
     ·exact h.elim
    ·exact h.elim
   ·exact h.elim
  ·rename_i i off vs sc' hv
   obtain⟨hvs,h⟩:=h
   obtain⟨B,hB,h⟩:=eE h
   split at h
   ·rename_i cs own
    split at h
    ·rename_i hc
     simp only[ba,bY]at h
     simp only[vaf,vat]at hc
     exact⟨_,_,_,by simp only[vp,fk,hv,hvs,hB];rw[vad ⟨hc.1.1.1,hc.1.1.2,hc.1.2,hc.2⟩];rfl,h,by simp⟩
    ·exact h.elim
   ·exact h.elim
  ·rename_i i off j cs' own' sc' hv
   obtain⟨B,hB,h1,h2⟩:=eE h
   rw[bY]at h2
   exact⟨_,_,_,by simp only[vp,hv,qdg hB h1];rfl,h2,by simp⟩
  ·exact h.elim
 case h_12=>
  simp only[cB]at h
  split at h
  ·rename_i hv
   obtain⟨p,h1,h2⟩:=BL h;exact⟨p,_,_,by simp only[vp,hv,h1,vaj],h2,rfl⟩
  ·obtain⟨p,sc',h1,h2⟩:=oC h;exact⟨p,_,sc',by simp only[vp,h1,vaj],h2,rfl⟩
 case h_13=>simp only[cB]at h;obtain⟨p,sc',h1,h2⟩:=oC h;exact⟨p,_,sc',by simp only[vp,h1,vaj],h2,rfl⟩
 case h_14=>simp only[cB]at h;obtain⟨p,sc',h1,h2⟩:=oC h;exact⟨p,_,sc',by simp only[vp,h1,vaj],h2,rfl⟩
 case h_15=>simp only[cB]at h;obtain⟨p,sc',h1,h2⟩:=oC h;exact⟨p,_,sc',by simp only[vp,h1,vaj],h2,rfl⟩
 case h_16 t m k ok=>
  simp only[cB]at h
  split at h
  ·rename_i i hv
   obtain⟨B,hB,h⟩:=eE h
   split at h
   ·rename_i es
    obtain⟨p,sc',h1,h2⟩:=oC h
    exact⟨p,_,sc',by simp only[vp,hv,qc9 hB h1,vaj],h2,rfl⟩
   ·exact h.elim
  ·exact h.elim
 case h_17 t m k x=>
  simp only[cB]at h
  split at h
  ·rename_i i j es' sc' hv
   obtain⟨B,hB,h⟩:=eE h
   split at h
   ·rename_i es
    obtain⟨h1,h2⟩:=h
    rw[bY]at h2
    exact⟨_,_,_,by simp only[vp,hv,Zh hB h1];rfl,h2,by simp⟩
   ·exact h.elim
  ·exact h.elim
 case h_18=>simp only[cB,qhh]at h;obtain⟨p,sc',h1,h2⟩:=oC h;exact⟨p,_,sc',by simp only[vp,h1,vaj],h2,rfl⟩
 case h_19=>simp only[uo]at h;obtain⟨p,sc',h1,h2⟩:=oC h;exact⟨p,_,sc',by simp only[vp,h1,vaj],h2,rfl⟩
 case h_20=>simp only[uo]at h;obtain⟨p,sc',h1,h2⟩:=oC h;exact⟨p,_,sc',by simp only[vp,h1,vaj],h2,rfl⟩
 case h_21 x t=>
  simp only[cB]at h
  split at h
  ·rename_i i hv
   obtain⟨B,hB,h⟩:=eE h
   split at h
   ·rename_i es
    obtain⟨p,sc',⟨rfl,h1⟩,h2⟩:=oC h
    refine⟨_,_,sc',?_,h2,rfl⟩
    simp only[vp,hv,KY]
    cases hu:P.underlying t with
    |none=>rw[hu]at h1;cases h1
    |some d=>
     rw[hu]at h1
     cases d<;>simp at h1
     simp only[hB,vaj]
   ·exact h.elim
  ·obtain⟨p,sc',h1,h2⟩:=oC h;exact⟨p,_,sc',by simp only[vp,h1 H,vaj],h2,rfl⟩
 case h_22=>simp only[cB,om]at h;obtain⟨p,h1,h2⟩:=BL h;exact⟨p,_,_,by simp only[vp,h1,vaj],h2,rfl⟩
 case h_23=>simp only[cB,om]at h;obtain⟨p,h1,h2⟩:=BL h;exact⟨p,_,_,by simp only[vp,h1,vaj],h2,rfl⟩
 case h_24=>exact h.elim
end
end Go.Proofs.YtibglelmlnfojaaGreatDoor
