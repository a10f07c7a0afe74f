/- PROVED: a part of the proof. Conditions: none. -/
import Derived.Test.YtjddnhkahpfhdaaGreatDoorPkC3
import Derived.ArgAppend
import Derived.WalkKit
import Derived.RangeFuncNested
import Derived.RangeFuncCalls
import Derived.Sort.LoopGhostIn
import Derived.OrdersIn
set_option linter.unusedSimpArgs false
set_option linter.unusedVariables false
noncomputable section
namespace Go.Proofs.YtjddnhkahpfhdaaGreatDoor
open Go
def CN(P:Program)(GE:List (Nat×List PVal))(f:FuncId)(args:List PVal)(r:PVal)(ro:List (Nat×TypeId))(H':List av):Prop:=
 (∀vs w,(callFunc f vs).run P w=.ok (.enter f vs) w)/\
 ∀(Γ:ax) (w:World) (vs:Array Value),
  SR P ⟨GE,Γ,w,cj [] λ_=>none⟩ Γ [] (λ_=>none) w vs ⟨args,[],[]⟩->
  Calls P f vs w λe w'=>∃v Γ' bs' ow',e=.returned v/\SR P ⟨GE,Γ,w,cj [] λ_=>none⟩ Γ' bs' ow' w' #[v] ⟨[r],H',ro.map λx=>((0,x.1),x.2)⟩
def AB(d n:Nat)(owC ow:Nat->Option jx):Nat->Option jx:=λb=>
 match owC b with
 |some (.tmp _ k)=>some (.tmp d k)
 |some (.box i k)=>some (.box (n+i) k)
 |none=>ow b
section
variable{P:Program}{E:mo}{Γ:ax}{bs:bp}{ow:Nat->Option jx}{w:World}{a:Array Value}{st:az}
theorem Oa(bs X:bp):bs.Sub (bs++X):=λi b hb=>by rw[vac (ag hb)];exact hb
theorem ND{s n i j:Nat}(h:(List.range' s n)[i]? =some j):j=s+i/\i<n:=by
 have hi:=ag h
 rw[List.length_range']at hi
 rw[List.getElem?_range' hi]at h
 simp at h
 exact⟨h.symm,hi⟩
theorem Ok(h:SR P E Γ bs ow w a st){g:FuncId}{args:List PVal}{r rc:PVal}{ro:List (Nat×TypeId)}{New Hc':List av}{vs:Array Value}{d:Nat}(hd:d<a.size)(hC:CN P E.GE g args rc ro Hc')
  (hl:vs.size=args.length) (hv:∀(i:Nat) p v,args[i]? =some p->vs[i]? =some v->VR Γ bs w p v) (hcl:dU 0 args) (hN:New.length=Hc'.length)
  (hB:∀(i:Nat) B Bc,New[i]? =some B->Hc'[i]? =some Bc->fy (List.range' st.boxes.length Hc'.length) B Bc) (hr:rm (List.range' st.boxes.length Hc'.length) r rc):
  Calls P g vs w λe w'=>∃v Γ' ow' X,e=.returned v/\SR P E Γ' (bs++X) ow' w' (a.setIfInBounds d v) ⟨st.tmps.set d r,st.boxes++New,(ro.map λx=>((d,x.1),x.2))++be d st.own⟩/\Γ.Le w Γ' w':=by
 have hpre:SR P ⟨E.GE,Γ,w,cj [] λ_=>none⟩ Γ [] (λ_=>none) w vs ⟨args,[],[]⟩:={
  wi:=h.wi
  sz:=hl
  tm:=λt p v hp hv'=>(hv t p v hp hv').restrict (n:=0) (gN hcl hp) (λi b hi _=>absurd hi (va8 _))
  bl:=rfl
  bx:=λi b B hb=>by simp at hb
  inj:=λi j b hb=>by simp at hb
  bn:=λi b hb=>by simp at hb
  on:=λb L hL=>by cases hL
  ot:=λt k e he=>by simp at he
  ob:=λi j e cs own b hB=>by simp at hB
  gl:=λg cs hg=>(h.gl g cs hg).restrict (n:=0) (by simp only[PVal.cl];exact h.gc g cs hg) (λi b hi _=>absurd hi (va8 _))
  gc:=h.gc
  gx:=λg cs hg=>by
   obtain⟨k1,_,_,k4⟩:=h.gnow hg
   exact⟨k1,λhT=>hT.elim (λhx=>by obtain⟨i,hi⟩:=hx;simp at hi) (λhx=>hx rfl),k4⟩
  step:=.refl _ _ _ _}
 refine(hC.2 Γ w vs hpre).mono λe w' he=>?_
 obtain⟨v,Γ',bs',owC,rfl,hS⟩:=he
 have hT:∀b,¬cj [] (λ_=>none) b:=λb hb=>by
  rcases hb with⟨i,hi⟩|hb
  ·simp at hi
  ·exact hb rfl
 have hle:Γ.Le w Γ' w':=hS.step.le
 have hw:=h.world (λ_=>False) hle hS.wi hS.step.os hS.step.tape hS.step.output hS.step.size (λb hb _=>hS.step.keep b hb (hT b)) (λ_ hx=>hx.elim) (λ_ _ _ hx=>hx) (λ_ _ _ hx=>hx) hS.step.drawn
 have hbl:bs'.length=Hc'.length:=hS.bl
 have hsub:=Oa bs bs'
 have hbb:∀(i j:Nat),(List.range' st.boxes.length Hc'.length)[i]? =some j->bs'[i]? =(bs++bs')[j]?:=λi j hij=>by
  obtain⟨rfl,hi⟩:=ND hij
  rw[<-h.bl,vad (vbI _ _),vbl]
 have hnew:∀{i b:Nat},bs'[i]? =some (some b)->w.heap.size<=b:=λhb=>(hS.bn _ _ hb).resolve_left (hT _)
 have hold:∀{i b:Nat},bs[i]? =some (some b)->b<w.heap.size:=λ{i b} hb=>by
  have hi:i<st.boxes.length:=by rw[<-h.bl];exact ag hb
  exact(h.bx i b _ hb (vaa hi)).2.1
 have hcase:∀{i:Nat} {x:Option Nat},(bs++bs')[i]? =some x->(i<bs.length/\bs[i]? =some x)\/(∃k,i=bs.length+k/\bs'[k]? =some x):=λ{i x} hi=>by
  by_cases hlt:i<bs.length
  ·rw[vac hlt]at hi;exact .inl ⟨hlt,hi⟩
  ·rw[vad (by omega)]at hi;exact .inr ⟨i - bs.length,by omega,hi⟩
 have how:∀{b L},ow b=some L->AB d st.boxes.length owC ow b=some L:=λ{b L} hL=>by
  have hb:=(h.on b L hL).1
  unfold AB
  cases hc:owC b with
  |none=>exact hL
  |some L'=>
   have:=((hS.on b L' hc).2.resolve_left (hT b))
   exact absurd hb (vcC.2 this)
 have hrv:VR Γ' (bs++bs') w' r v:=hr.from hbb (hS.tm 0 rc v rfl rfl)
 refine⟨v,Γ',AB d st.boxes.length owC ow,bs',rfl,?_,hle⟩
 have hlen:st.boxes.length=bs.length:=h.bl.symm
 exact{
  wi:=hS.wi
  sz:=by simp[h.sz]
  tm:=λt q u hq hu=>by
   simp only[vbh]at hq
   rw[vbc]at hu
   by_cases hdt:d=t
   ·subst hdt
    simp only[if_true]at hq hu
    split at hu
    ·split at hq
     ·cases hu;cases hq;exact hrv
     ·cases hq
    ·rename_i hnd;exact absurd hd hnd
   ·simp only[hdt,if_false]at hq hu
    exact(hw.tm t q u hq hu).mono (.refl _ _) hsub
  bl:=by simp[h.bl,hN,hbl]
  bx:=λi b B hb hBi=>by
   rcases hcase hb with⟨hlt,hb'⟩|⟨k,rfl,hb'⟩
   ·rw[vac (by omega)]at hBi
    obtain⟨h1,h2,h3⟩:=hw.bx i b B hb' hBi
    exact⟨h1,h2,h3.mono (.refl _ _) hsub rfl⟩
   ·rw[vad (by omega),hlen,vbl]at hBi
    have hk:k<Hc'.length:=by rw[<-hbl];exact ag hb'
    have hBc:Hc'[k]? =some Hc'[k]:=vaa hk
    obtain⟨h1,h2,h3⟩:=hS.bx k b _ hb' hBc
    exact⟨h1,h2,(hB k B _ hBi hBc).from hbb h3⟩
  inj:=λi j b hi hj=>by
   rcases hcase hi with⟨_,hi'⟩|⟨k,rfl,hi'⟩<;>rcases hcase hj with⟨_,hj'⟩|⟨k',rfl,hj'⟩
   ·exact h.inj i j b hi' hj'
   ·exact absurd (hold hi') (vcC.2 (hnew hj'))
   ·exact absurd (hold hj') (vcC.2 (hnew hi'))
   ·rw[hS.inj k k' b hi' hj']
  bn:=λi b hb=>by
   rcases hcase hb with⟨_,hb'⟩|⟨k,rfl,hb'⟩
   ·exact h.bn i b hb'
   ·exact .inr (vav h.step.size (hnew hb'))
  on:=λb L hL=>by
   unfold AB at hL
   cases hc:owC b with
   |none=>rw[hc]at hL;exact hw.on b L hL
   |some L'=>
    obtain⟨k1,k2⟩:=hS.on b L' hc
    exact⟨k1,.inr (vav h.step.size (k2.resolve_left (hT b)))⟩
  ot:=λt k e he=>by
   rcases vaJ.1 he with he|he
   ·simp only[vah,Prod.mk.injEq]at he
    obtain⟨⟨k',e'⟩,hm,⟨rfl,rfl⟩,rfl⟩:=he
    obtain⟨u,v',h1,h2,h3,h4⟩:=hS.ot 0 k' e' (vah.2 ⟨(k',e'),hm,rfl⟩)
    simp at h1;subst h1
    refine⟨v,v',by simp[hd],h2,h3,λb hb=>?_⟩
    simp only[AB,h4 b hb]
   ·obtain⟨he,htd⟩:=ck he
    obtain⟨u,v',h1,h2,h3,h4⟩:=hw.ot t k e he
    exact⟨u,v',by rw[vau (λe=>htd e.symm)];exact h1,h2,h3,λb hb=>how (h4 b hb)⟩
  ob:=λi j e cs own b hBi hj hb=>by
   rcases hcase hb with⟨hlt,hb'⟩|⟨k,rfl,hb'⟩
   ·rw[vac (by omega)]at hBi
    obtain⟨v',k1,k2,k3⟩:=hw.ob i j e cs own b hBi hj hb'
    exact⟨v',k1,k2,λb' hx=>how (k3 b' hx)⟩
   ·rw[vad (by omega),hlen,vbl]at hBi
    have hk:k<Hc'.length:=by rw[<-hbl];exact ag hb'
    have hBc:Hc'[k]? =some Hc'[k]:=vaa hk
    have hx:=hB k _ _ hBi hBc
    cases hcc:Hc'[k]with
    |cells cs' own'=>
     rw[hcc]at hx hBc
     obtain⟨rfl,_,_⟩:=hx
     obtain⟨v',k1,k2,k3⟩:=hS.ob k j e cs' own b hBc hj hb'
     refine⟨v',k1,k2,λb' hx=>?_⟩
     simp only[AB,k3 b' hx,hlen]
    |map es=>rw[hcc]at hx;simp[fy]at hx
    |dead=>rw[hcc]at hx;simp[fy]at hx
  gl:=λg cs hg=>(hw.gl g cs hg).mono (.refl _ _) hsub
  gc:=h.gc
  gx:=h.gx
  step:=hw.step}
end
def JH(P:Program)(GE:List (Nat×List PVal))(o:Oper)(K:az->Prop)(st:az):Prop:=
 match o.op,o.dst with
 | .call { callee := .value f,args,.. },some d => ∃ (g:FuncId) (rc:PVal) (ro:List (Nat×TypeId)) (New Hc':List av) (r:PVal),opv GE st.tmps f = .func (.func g) [] []∧CN P GE g (args.toList.map (opv GE st.tmps)) rc ro Hc'∧dU 0 (args.toList.map (opv GE st.tmps))∧New.length = Hc'.length ∧
   (∀(i:Nat) B Bc,New[i]? =some B->Hc'[i]? =some Bc->fy (List.range' st.boxes.length Hc'.length) B Bc)/\rm (List.range' st.boxes.length Hc'.length) r rc/\d<st.tmps.length/\
   K ⟨st.tmps.set d r,st.boxes++New,(ro.map λx=>((d,x.1),x.2))++be d st.own⟩
 |_,_=>False
theorem Nx{P:Program}{GE:List (Nat×List PVal)}{o:Oper}{K K':az->Prop}{st:az}(hk:∀st,K st->K' st)(h:JH P GE o K st):JH P GE o K' st:=by
 unfold JH at *
 split at h
 ·obtain⟨g,rc,ro,New,Hc',r,h1,h2,h3,h4,h5,h6,h7,h8⟩:=h;exact⟨g,rc,ro,New,Hc',r,h1,h2,h3,h4,h5,h6,h7,hk _ h8⟩
 ·exact h
section
variable{P:Program}{E:mo}{Γ:ax}{bs:bp}{ow:Nat->Option jx}{w:World}{a:Act}{st:az}
theorem K8(h:SR P E Γ bs ow w a.tmps st){o:Oper}{id:Nat}{K:az->Prop}(hp:JH P E.GE o K st)(Q:Exit->Act->World->Prop):o.wp P a w (tL P E bs id (aw o.op) a.defers K) Q:=by
 unfold JH at hp
 split at hp
 ·rename_i f args tys d ho hdst
  obtain⟨g,rc,ro,New,Hc',r,hf,hC,hcl,hN,hB,hr,hd,hK⟩:=hp
  have hvf:VR Γ bs w (opv E.GE st.tmps f) (a.eval f):=h.opv a.defers f
  rw[hf]at hvf
  generalize hev:a.eval f=vf at hvf
  cases hvf with
  |func _ _ _ fs cs hl hl' k1 k2=>
  have hfs:fs=#[]:=va2 (by simpa using hl)
  have hcs:cs=#[]:=va2 (by simpa using hl')
  subst hfs;subst hcs
  have hrun:(execOp a.eval o).run P w=.ok (.enter g (args.map a.eval)) w:=by
   simp[execOp,ho,resolve,hev,Deferred.ofValue,invoke,hC.1]
  have hvr:∀(i:Nat) p v,(args.toList.map (opv E.GE st.tmps))[i]? =some p->(args.map a.eval)[i]? =some v->VR Γ bs w p v:=
   λi p v hp hv=>rV (λx=>h.opv a.defers x) args.toList i p v hp (by simpa using hv)
  have hds:d<a.tmps.size:=by rw[h.sz];exact hd
  unfold Oper.wp
  rw[hrun,Oper.upon_enter]
  refine(Ok h hds hC (by simp) hvr hcl hN hB hr).mono λe w' he=>?_
  obtain⟨v,Γ',ow',X,rfl,hS,_⟩:=he
  have hput:(a.put o.dst v).tmps=a.tmps.setIfInBounds d v:=by rw[hdst];rfl
  rw[<-hput]at hS
  show tL P E bs id (aw o.op) a.defers K (a.put o.dst v) w'
  exact⟨aT _ _ _,Γ',_,_,_,hS,hK,.inr (.inr ⟨X,rfl⟩)⟩
 ·exact hp.elim
end
def nilTo(i:Nat)(T:TypeId):PVal->PVal
 |.val (.pointer none)=>.nptr i T
 |p=>p
def Rh(P:Program)(GE:List (Nat×List PVal))(o:Oper)(id:Nat)(K:az->Prop)(st:az):Prop:=
 match o.op,o.dst with
 | .box T (.tmp t),some d => ∃ (l:List PVal) (L:List (Nat×TypeId)),st.tmps.getD t .undef = .agg l∧AD l = true∧(∀ y ∈ L,((t,y.1),y.2) ∈ st.own)∧(L.map (·.1)).Nodup∧d < st.tmps.length ∧
   K ⟨st.tmps.set d (.bptr id 0),st.boxes.set id (.cells (l.map (nilTo id T)) ((L.map λy=>(0+y.1,y.2)).reverse++[])),be d (st.own.filter λx=>!L.any λy=>x.1==(t,y.1))⟩
 |.alloc T,some d=>∃zs:List PVal,eX P T=some zs/\d<st.tmps.length/\K ⟨st.tmps.set d (.bptr id 0),st.boxes.set id (.cells (zs.map (nilTo id T)) (BC P T)),be d st.own⟩
 | .call { callee := .builtin .append,args:=⟨[.tmp t,y]⟩,argTypes:=⟨[T,T']⟩ },some d => ∃ (es:List (List PVal)) (s:List UInt8) (e:TypeId) (p:PVal),st.tmps.getD t .undef = .slice es∧opv GE st.tmps y = .str s∧P.underlying T = some (.slice e)∧((t,0),e) ∈ st.own∧yZ P T T' es s = some p∧d < st.tmps.length ∧
   K ⟨st.tmps.set d p,st.boxes,((d,0),e)::be d (st.own.filter λx=>x.1 !=(t,0))⟩
 |_,_=>False
theorem PA{P:Program}{GE:List (Nat×List PVal)}{o:Oper}{id:Nat}{K K':az->Prop}{st:az}(hk:∀st,K st->K' st)(h:Rh P GE o id K st):Rh P GE o id K' st:=by
 unfold Rh at *
 split at h
 ·obtain⟨l,L,h1,h0,h2,h3,h4,h5⟩:=h;exact⟨l,L,h1,h0,h2,h3,h4,hk _ h5⟩
 ·obtain⟨zs,h1,h2,h3⟩:=h;exact⟨zs,h1,h2,hk _ h3⟩
 ·obtain⟨es,s,e,p,h1,h2,h3,h4,h5,h6,h7⟩:=h;exact⟨es,s,e,p,h1,h2,h3,h4,h5,h6,hk _ h7⟩
 ·exact h
section
variable{P:Program}{E:mo}{Γ:ax}{bs:bp}{ow:Nat->Option jx}{w:World}
theorem VR.nilTo{p:PVal}{v:Value}(h:VR Γ bs w p v)(i:Nat)(T:TypeId):VR Γ bs w (nilTo i T p) v:=by
 unfold Go.Proofs.YtjddnhkahpfhdaaGreatDoor.nilTo
 split
 ·cases h;exact .nptrN i T
 ·exact h
section
variable{a:Array Value}{st:az}
theorem SR.weakBox(h:SR P E Γ bs ow w a st){i:Nat}{cs:List PVal}{own:List (Nat×TypeId)}(hi:st.boxes[i]? =some (.cells cs own)){T:TypeId}(hT:∀(b:Nat) c t,bs[i]? =some (some b)->w.heap[b]? =some (.cells c t (0,0))->t=T/\c.size=cs.length):SR P E Γ bs ow w a {st with boxes:=st.boxes.set i (.cells (cs.map (nilTo i T)) own)}:=
 { h with
  bl:=by simp[h.bl]
  bx:=λj b B hb hB=>by
   by_cases hj:i=j
   ·subst hj
    rw[vag (ag hi)]at hB
    cases hB
    obtain⟨k1,k2,c,t,k3,k4,k5,k6⟩:=h.bx i b _ hb hi
    refine⟨k1,k2,c,t,k3,by simpa using k4,λq p v hp hv=>?_,λq i2 T2 hq=>?_⟩
    rotate_left
    ·rw[vax]at hq
     obtain⟨p0,hp0,hp1⟩:=vaL.1 hq
     rw[vbD]
     unfold Go.Proofs.YtjddnhkahpfhdaaGreatDoor.nilTo at hp1
     split at hp1
     ·cases hp1;exact hT b c t hb k3
     ·subst hp1;exact k6 q i2 T2 hp0
    rw[vax]at hp
    obtain⟨p0,hp0,rfl⟩:=vaL.1 hp
    exact(k5 q p0 v hp0 hv).nilTo i T
   ·rw[vap hj]at hB
    exact h.bx j b B hb hB
  ob:=λj q e cs' own' b hB hj hb=>by
   by_cases hji:i=j
   ·subst hji
    rw[vag (ag hi)]at hB
    cases hB
    exact h.ob i q e cs own b hi hj hb
   ·rw[vap hji]at hB
    exact h.ob j q e cs' own' b hB hj hb}
end
variable{a:Act}{st:az}
theorem Np(h:SR P E Γ bs ow w a.tmps st){o:Oper}{id:Nat}(hid:aw o.op=true->bs[id]? =some none){K:az->Prop}(hp:Rh P E.GE o id K st)(Q:Exit->Act->World->Prop):o.wp P a w (tL P E bs id (aw o.op) a.defers K) Q:=by
 unfold Rh at hp
 split at hp
 ·rename_i T t d ho hd
  obtain⟨l,L,ht,hno,hm,hn,hdl,hK⟩:=hp
  have hid':=hid (by simp[ho,aw])
  have htl:t<st.tmps.length:=by
   by_cases hlt:t<st.tmps.length
   ·exact hlt
   ·rw[van,vaU (vbT hlt)]at ht;cases ht
  have hta:t<a.tmps.size:=by rw[h.sz];exact htl
  have hu:a.tmps[t]? =some a.tmps[t]:=by simp[hta]
  generalize a.tmps[t]=u at hu
  have hvt:=nv h hu
  rw[ht]at hvt
  obtain⟨v,w',r1,r2,r3,r4,r5⟩:=Jq (t:=T) h hid' hvt (cs:=l) (D2 rfl hno)
  cases hvt with
  |agg _ vs hl hvv=>
  have hrun:(execOp a.eval o).run P w=.ok (.value v) w':=by simp[execOp,ho,aL hu,r1]
  have hw':w'=w.alloc (.cells (Value.agg vs).cells T)/\v=.pointer (some ⟨w.heap.size,0,none⟩):=by
   have:(Instr.box T (.agg vs)).run P w=.ok (.pointer (some ⟨w.heap.size,0,none⟩)) (w.alloc (.cells (Value.agg vs).cells T)):=by simp[Instr.box,newVar,newRow]
   rw[this]at r1
   cases r1
   exact⟨rfl,rfl⟩
  obtain⟨rfl,rfl⟩:=hw'
  unfold Oper.wp
  rw[hrun,Oper.upon_value]
  have hbi:(bs.set id (some w.heap.size))[id]? =some (some w.heap.size):=vag (ag hid')
  have hlid:id<st.boxes.length:=by rw[<-h.bl];exact ag hid'
  obtain⟨ow',g1⟩:=SR.moveOwns (off:=0) hbi hu L r2 (vag hlid) hm hn λy hy=>by
   obtain⟨u',v',e1,e2,_,_⟩:=h.ot t y.1 y.2 (hm y hy)
   rw[hu]at e1
   cases e1
   refine⟨v',e2,?_⟩
   rw[vaG,cell_of_row _ _ _ _ T _ (de w _)]
   exact e2
  have g2:=g1.weakBox (i:=id) (cs:=l) (own:=(L.map λy=>(0+y.1,y.2)).reverse++[]) (by rw[vbE];exact vag hlid) (T:=T) (λb c t hb hc=>by
   rw[hbi]at hb;cases hb
   rw[de]at hc;cases hc
   exact⟨rfl,hl⟩)
  simp only[vbE]at g2
  have g3:=g2.set (d:=d) r3
  have hput:∀v,(a.put o.dst v).tmps=a.tmps.setIfInBounds d v:=λv=>by rw[hd];rfl
  rw[<-hput]at g3
  exact⟨aT _ _ _,Γ,_,_,_,g3,hK,.inr (.inl ⟨by simp[ho,aw],_,rfl⟩)⟩
 ·rename_i T d ho hd
  obtain⟨zs,hz,hdl,hK⟩:=hp
  have hid':=hid (by simp[ho,aw])
  obtain⟨v,w',r1,r2,r3,r4,r5⟩:=D0 (t:=T) h hid' hz
  have hrun:(execOp a.eval o).run P w=.ok (.value v) w':=by simp[execOp,ho,r1]
  unfold Oper.wp
  rw[hrun,Oper.upon_value]
  have hlid:id<st.boxes.length:=by rw[<-h.bl];exact ag hid'
  have g2:=r2.weakBox (i:=id) (cs:=zs) (own:=BC P T) (vag hlid) (T:=T) (λb c t hb hc=>by
   obtain⟨z,hr,e1,i,hi,hz'⟩:=gH (w:=w) hz
   have hw':w'=w.alloc (.cells z.cells T)/\v=.pointer (some ⟨w.heap.size,0,none⟩):=by
    have:(Instr.alloc T true (.tuple #[])).run P w=.ok (.pointer (some ⟨w.heap.size,0,none⟩)) (w.alloc (.cells z.cells T)):=by simp[Instr.alloc,hr,newVar,newRow]
    rw[this]at r1
    cases r1
    exact⟨rfl,rfl⟩
   obtain⟨rfl,rfl⟩:=hw'
   rw[vag (ag hid')]at hb;cases hb
   rw[de]at hc;cases hc
   exact⟨rfl,by rw[e1];simp⟩)
  simp only[vbE]at g2
  have g3:=g2.set (d:=d) r3
  have hput:∀v,(a.put o.dst v).tmps=a.tmps.setIfInBounds d v:=λv=>by rw[hd];rfl
  rw[<-hput]at g3
  exact⟨aT _ _ _,Γ,_,_,_,g3,hK,.inr (.inl ⟨by simp[ho,aw],_,rfl⟩)⟩
 ·rename_i t y T T' d ho hd
  obtain⟨es,s,e,p,ht,hy,hT,hm,hpa,hdl,hK⟩:=hp
  obtain⟨u,v,e1,e2,h3,h4⟩:=h.ot t 0 e hm
  have hvt:=nv h e1
  rw[ht]at hvt
  have hvu:v=u:=by
   exact(CH e2 (λvs hx=>by subst hx;cases hvt) (λvs hx=>by subst hx;cases hvt)).symm
  subst hvu
  have hvy:VR Γ bs w (opv E.GE st.tmps y) (a.eval y):=h.opv a.defers y
  rw[hy]at hvy
  have hf:=h.freeT t 0
  obtain⟨v',w',Γ',r1,r2,r3,r4,r5,r6⟩:=H5 (ty:=o.type) hf hT hvt hvy h3 (λb hb=>⟨by simp[h4 b hb],(h.on b _ (h4 b hb)).2⟩) hpa
  have hrun:(execOp a.eval o).run P w=.ok (.value v') w':=by
   simp[execOp,ho,resolve,invoke,builtin,aL e1,r1]
  unfold Oper.wp
  rw[hrun,Oper.upon_value]
  have hds:d<a.tmps.size:=by rw[h.sz];exact hdl
  have g1:=r2.set (d:=d) r4
  have g2:=g1.addOwn (d:=d) (k:=0) (e:=e) (u:=v') (v:=v') (by simp[hds]) r5.part r5 r6
  have hput:∀v,(a.put o.dst v).tmps=a.tmps.setIfInBounds d v:=λv=>by rw[hd];rfl
  rw[<-hput]at g2
  exact⟨aT _ _ _,Γ',bs,_,_,g2,hK,.inl rfl⟩
 ·exact hp.elim
end
set_option linter.unusedVariables false
def RW(P:Program)(GE:List (Nat×List PVal))(o:Oper)(K:az->Prop)(st:az):Prop:=
 match o.op,o.dst with
 | .slice T (.tmp t) (some lo) none none,some d => ∃ (es:List (List PVal)) (e:TypeId) (p:PVal),st.tmps.getD t .undef = .slice es∧P.underlying T = some (.slice e)∧mt P T (.slice es) (some (opv GE st.tmps lo)) none none = some p∧0 < P.cellsOf e ∧
   (((t,0),e)∈st.own\/((t,P.cellsOf e),e)∈st.own)/\d<st.tmps.length/\K ⟨st.tmps.set d p,st.boxes,((d,P.cellsOf e),e)::be d (st.own.filter λx=>x.1.1 !=t)⟩
 | .call { callee := .builtin .append,args:=⟨[.tmp t,y]⟩,argTypes:=⟨[T,T']⟩ },some d => ∃ (es ns:List (List PVal)) (e:TypeId) (p:PVal),st.tmps.getD t .undef = .slice es∧opv GE st.tmps y = .slice ns∧T' = T∧P.underlying T = some (.slice e) ∧
   ((t,P.cellsOf e),e)∈st.own/\eP P T es ns=some p/\d<st.tmps.length/\K ⟨st.tmps.set d p,st.boxes,((d,P.cellsOf e),e)::be d (st.own.filter λx=>x.1.1 !=t)⟩
 |_,_=>False
theorem PN{P:Program}{GE:List (Nat×List PVal)}{o:Oper}{K K':az->Prop}{st:az}(hk:∀st,K st->K' st)(h:RW P GE o K st):RW P GE o K' st:=by
 unfold RW at *
 split at h
 ·obtain⟨es,e,p,h1,h2,h3,h4,h5,h6,h7⟩:=h;exact⟨es,e,p,h1,h2,h3,h4,h5,h6,hk _ h7⟩
 ·obtain⟨es,ns,e,p,h1,h2,h3,h4,h5,h6,h7,h8⟩:=h;exact⟨es,ns,e,p,h1,h2,h3,h4,h5,h6,h7,hk _ h8⟩
 ·exact h
section
variable{P:Program}{E:mo}{Γ:ax}{bs:bp}{ow:Nat->Option jx}{w:World}
theorem xT{u v:Value}{es:List (List PVal)}{k:Nat}{e:TypeId}(hk:0<k)(hu:VR Γ bs w (.slice es) u)(ho:cR P Γ w v e)(h:tI u k=some v):(v=.slice none 0 0/\es=[]/\∃a,u=.slice a 0 0)\/∃b s cap,0<cap/\es.length<=cap/\u=.slice (some ⟨b,s * k,none⟩) es.length cap/\v=.slice (some ⟨b,0,none⟩) (es.length+s) (cap+s):=by
 have hsp:∀{a:Addr} {n c:Nat},v=.slice (some a) n c->a.spot=none:=λ{a n c} hv=>by
  obtain⟨n',xs,⟨_,h1⟩,_⟩:=ho
  rcases h1 with⟨h1,_⟩|⟨g,c',cur,h1,_⟩
  ·rw[hv]at h1;cases h1
  ·rw[hv]at h1;cases h1;rfl
 unfold tI at h
 cases hu with
 |sliceNil=>cases h;exact .inl ⟨rfl,rfl,_,rfl⟩
 | sliceE a cap =>
  obtain⟨b,off,sp⟩:=a
  simp only at h
  split at h
  ·rename_i h0;cases h;subst h0;exact .inl ⟨rfl,rfl,_,rfl⟩
  ·split at h
   ·rename_i h0 h1
    cases h
    have:sp=none:=hsp rfl
    subst this
    refine .inr ⟨b,off / k,cap,by omega,vaQ _,?_,rfl⟩
    rw[vcN (vct h1)];rfl
   ·cases h
 | slice es b off cap n sz vals h0 hcap hg hn hsz hc hv =>
  simp only at h
  split at h
  ·rename_i hc0;cases h
   have:es=[]:=vai (by omega)
   subst this;subst hc0
   exact .inl ⟨rfl,rfl,_,rfl⟩
  ·split at h
   ·rename_i hc0 h1
    cases h
    refine .inr ⟨b,off / k,cap,by omega,hcap,?_,rfl⟩
    rw[vcN (vct h1)]
   ·cases h
theorem Is{b s n cap k:Nat}(hk:0<k)(hc:0<cap):tI (.slice (some ⟨b,s * k,none⟩) n cap) k=some (.slice (some ⟨b,0,none⟩) (n+s) (cap+s)):=by
 unfold tI
 simp only
 rw[vaz (by omega),vaA (Nat.mul_mod_left s k),Nat.mul_div_cancel _ hk]
theorem cR.sh{v:Value}{e:TypeId}{k:Nat}(hk:0<k)(ho:cR P Γ w v e):∃v0,tI v k=some v0/\cR P Γ w v0 e/\(v0=v\/v0=.slice none 0 0):=by
 have hnil:cR P Γ w (.slice none 0 0) e:=⟨0,[],⟨by simp,.inl ⟨rfl,rfl⟩⟩,λb hb=>by cases hb⟩
 obtain⟨n',xs,⟨h0,h1⟩,h2⟩:=ho
 rcases h1 with⟨rfl,rfl⟩|⟨g,c',cur,rfl,h3⟩
 ·exact⟨_,rfl,hnil,.inr rfl⟩
 ·by_cases hc:c'=0
  ·subst hc;exact⟨_,rfl,hnil,.inr rfl⟩
  ·refine⟨.slice (some ⟨g,0,none⟩) n' c',?_,⟨n',xs,⟨h0,.inr ⟨g,c',cur,rfl,h3⟩⟩,h2⟩,.inl rfl⟩
   have:=Is (b:=g) (s:=0) (n:=n') (cap:=c') hk (by omega)
   simpa using this
theorem PX{T e:TypeId}{es:List (List PVal)}{lo p:PVal}{vlo u v:Value}(hT:P.underlying T=some (.slice e))(hk:0<P.cellsOf e)(hu:VR Γ bs w (.slice es) u)(hlo:VR Γ bs w lo vlo)(h:mt P T (.slice es) (some lo) none none=some p)
  (hv:tI u (P.cellsOf e)=some v) (ho:cR P Γ w v e):∃u' v',(Instr.sliceAt T u (some vlo) none none).run P w=.ok u' w/\VR Γ bs w p u'/\tI u' (P.cellsOf e)=some v'/\cR P Γ w v' e/\∀b,v'.ownBlock=some b->v.ownBlock=some b:=by
 have rlo:∀q,some lo=some q->∃v,some vlo=some v/\VR Γ bs w q v:=λq hq=>by cases hq;exact⟨vlo,rfl,hlo⟩
 have rhi:∀q,(none:Option PVal)=some q->∃v,(none:Option Value)=some v/\VR Γ bs w q v:=λq hq=>by cases hq
 obtain⟨u',r1,r2⟩:=Eh (vlo:=some vlo) (vhi:=none) hu rlo (λh=>by cases h) rhi (λ_=>rfl) h
 have hnil:cR P Γ w (.slice none 0 0) e:=⟨0,[],⟨by simp,.inl ⟨rfl,rfl⟩⟩,λb hb=>by cases hb⟩
 unfold mt at h
 rw[hT]at h
 simp only at h
 split at h
 rotate_left
 ·cases h
 rename_i l hh hl hhi
 have hhe:hh=es.length:=by simp only[wn]at hhi;cases hhi;rfl
 subst hhe
 split at h
 rotate_left
 ·cases h
 rename_i hc
 obtain⟨hle,_,hinf,_⟩:=hc
 obtain⟨inf,hinf⟩:=vaC.1 hinf
 rcases xT hk hu ho hv with⟨rfl,rfl,a,rfl⟩|⟨b,s,cap,hcap,hec,rfl,rfl⟩
 ·have hl0:l=0:=by simpa using hle
  subst hl0
  have hb:=cP (P:=P) (w:=w) (isSlice:=true) (cap:=0) hl hhi rlo (λh=>by cases h) rhi (λ_=>rfl) (vaj _) (vaj _) (vaj _)
  have hb':(Instr.sliceBounds true 0 0 (some vlo) none none).run P w=.ok (0,0,0) w:=hb
  have:(Instr.sliceAt T (.slice a 0 0) (some vlo) none none).run P w=.ok (.slice a 0 0) w:=by
   cases a<;>simp[Instr.sliceAt,Instr.slice,run_underlying hT,hb',run_sizeOf w hinf]
  rw[this]at r1;cases r1
  exact⟨_,.slice none 0 0,this,r2,by cases a<;>rfl,hnil,λb hb=>by cases hb⟩
 ·have hb:=cP (P:=P) (w:=w) (isSlice:=true) (cap:=cap) hl hhi rlo (λh=>by cases h) rhi (λ_=>rfl) hle (vaj _) hec
  have hx:(Instr.sliceAt T (.slice (some ⟨b,s * P.cellsOf e,none⟩) es.length cap) (some vlo) none none).run P w=.ok (.slice (some ⟨b,if cap=l then s * P.cellsOf e else s * P.cellsOf e+l * P.cellsOf e,none⟩) (es.length - l) (cap - l)) w:=by
   simp[Instr.sliceAt,Instr.slice,run_underlying hT,hb,run_sizeOf w hinf,Addr.add_lit]
   split<;>simp
  rw[hx]at r1;cases r1
  by_cases hcl:cap=l
  ·refine⟨_,.slice none 0 0,hx,r2,?_,hnil,λb hb=>by cases hb⟩
   unfold tI
   simp only
   rw[vaA (by omega)]
  ·refine⟨_,.slice (some ⟨b,0,none⟩) (es.length+s) (cap+s),hx,r2,?_,ho,λb hb=>hb⟩
   rw[vaz hcl,<-vaN,Is hk (by omega)]
   congr 2<;>omega
theorem xJ(w:World){t ty e:TypeId}{i:TypeInfo}(ht:P.underlying t=some (.slice e))(hi:P.info? e=some i)(g off sLen sCap:Nat)(cur:Array Value)(hg:w.heap[g]? =some (.cells cur e (0,0)))
  (a:Addr) (m c:Nat) (news:List Value) (hl:news.length=m * i.size) (hnews:∀j u,news[j]? =some u->w.cell? (a.add j)=some u) (h1:∀u∈news,u.oneCell'=true) (hroom:sLen+m<=sCap) (hfit:off+sLen * i.size+news.length<=cur.size):
  (Builtin.append_ #[t,t] ty #[.slice (some ⟨g,off,none⟩) sLen sCap,.slice (some a) m c]).run P w=
   .ok (.slice (some ⟨g,off,none⟩) (sLen+m) sCap) (w.setRow g (cur.toList.take (off+sLen * i.size)++news++cur.toList.drop (off+sLen * i.size+news.length)).toArray):=by
 have hf:=run_firstCells_some (P:=P) w i.size m a m c news hl hnews
 have hst:=run_storeCells_at P g (off+sLen * i.size) e news 0 cur w hg (by simpa using hfit) h1
 simp only[Nat.add_zero]at hst
 simp[Builtin.append_,run_underlying ht,sizeOf,typeInfo,hi,Builtin.lenOf,hroom,hf,Addr.add_lit,hst]
theorem VR.behind{es0 es:List (List PVal)}{b s n cap k:Nat}(hk:0<k)(hs:es0.length=s)(hl:es.length=n)(hsz:∀x∈es,x.length=k)(h:VR Γ bs w (.slice (es0++es)) (.slice (some ⟨b,0,none⟩) (n+s) (cap+s)))(hc:n<=cap):VR Γ bs w (.slice es) (.slice (some ⟨b,s * k,none⟩) n cap):=by
 by_cases he:es=[]
 ·subst he;simp at hl;subst hl;exact .sliceE _ _
 subst hl
 generalize hX:es0++es=X at h
 generalize hN:es.length+s=N at h
 cases h with
 |sliceE a c=>simp at hX;exact absurd hX.2 he
 | slice X b off cap' n sz vals h0 hcap hg hn hsz' hc' hv =>
  subst hX
  obtain⟨x,es',rfl⟩:=List.exists_cons_of_ne_nil he
  have hget:∀(i:Nat) y,(x::es')[i]? =some y->(es0++x::es')[s+i]? =some y:=λi y hy=>by
   rw[vad (by omega),show s+i - es0.length=i by omega];exact hy
  have:sz=k:=by rw[<-hsz' _ _ (hget 0 x rfl)];exact hsz x (by simp)
  subst this
  refine .slice _ b (s * sz) cap n sz (λi q=>vals (s+i) q) h0 hc hg ?_ (λi y hy=>hsz' _ _ (hget i y hy)) (λi y q r hy hr=>?_) (λi y q r hy hr=>hv _ _ _ _ (hget i y hy) hr)
  ·have:(es0++x::es').length=s+(x::es').length:=by simp[hs]
   rw[this,vaN]at hn;omega
  ·have:=hc' _ _ _ _ (hget i y hy) hr
   rw[<-this,vaN];congr 2;omega
theorem VR.ahead{es:List (List PVal)}{b s n cap k:Nat}{e:TypeId}{cur:Array Value}(hk:0<k)(hl:es.length=n)(hb:w.heap[b]? =some (.cells cur e (0,0)))(hcur:cur.size=(cap+s) * k)(hg:Γ b=some ((n+s) * k))(hc:n<=cap)(hsz:∀x∈es,x.length=k)
  (h:VR Γ bs w (.slice es) (.slice (some ⟨b,s * k,none⟩) n cap)):VR Γ bs w (.slice (List.replicate s (List.replicate k .undef)++es)) (.slice (some ⟨b,0,none⟩) (n+s) (cap+s)):=by
 have hL:(List.replicate s (List.replicate k PVal.undef)++es).length=n+s:=by simp[hl];omega
 rw[<-hL]
 have hle:(n+s) * k<=cur.size:=by rw[hcur];exact vaK _ (by omega)
 have hold:∀(i:Nat) x (q:Nat) p,es[i]? =some x->x[q]? =some p->∃u,cur[(s+i) * k+q]? =some u/\VR Γ bs w p u:=by
  intro i x q p hx hq
  subst hl
  cases h with
  |sliceE a c=>simp at hx
  |slice es b off cap' n sz vals h0 hcap hg hn hsz' hc' hv=>
   have:sz=k:=by rw[<-hsz' _ _ hx];exact hsz x (vaq hx)
   subst this
   refine⟨_,?_,hv i x q p hx hq⟩
   have:=hc' i x q p hx hq
   rw[cell_of_row w b _ cur e _ hb]at this
   rw[<-this,vaN]
 refine kO hb hg (by rw[hL];exact vaj _) hk (by omega) (λi x hx=>?_) (λi x q p hx hq=>?_)
 ·rcases vaJ.1 (vaq hx)with hm|hm
  ·rw[vcl hm];simp
  ·exact hsz x hm
 ·by_cases hi:i<s
  ·rw[vac (by simpa using hi),vaX,vaA hi]at hx
   cases hx
   rw[vaX]at hq
   split at hq
   ·cases hq
    rename_i hqk
    have hlt:i * k+q<cur.size:=vaF (uI (show i<n+s by omega) hqk) hle
    exact⟨_,vaE hlt,.undef _⟩
   ·cases hq
  ·rw[vad (by simp;omega)]at hx
   have:=hold (i - s) x q p (by simpa using hx) hq
   rwa[show s+(i - s)=i by omega]at this
section
variable{a:Array Value}{st:az}
theorem MC(h:SR P E Γ bs ow w a st){t ty e:TypeId}{es ns:List (List PVal)}{p:PVal}{u v x:Value}(hT:P.underlying t=some (.slice e))(hu:VR Γ bs w (.slice es) u)(hx:VR Γ bs w (.slice ns) x)
  (hv:tI u (P.cellsOf e)=some v) (ho:cR P Γ w v e) (hfree:∀b,v.ownBlock=some b->ow b=none/\(E.T b\/E.w.heap.size<=b)) (hp:eP P t es ns=some p):
  ∃u' w' Γ' v',(Builtin.append_ #[t,t] ty #[u,x]).run P w=.ok u' w'/\SR P E Γ' bs ow w' a st/\Γ.Le w Γ' w'/\VR Γ' bs w' p u'/\tI u' (P.cellsOf e)=some v'/\cR P Γ' w' v' e/\
   ∀b,v'.ownBlock=some b->ow b=none/\(E.T b\/E.w.heap.size<=b):=by
 have hp0:=hp
 unfold eP at hp
 rw[hT]at hp
 simp only at hp
 split at hp
 case isFalse=>cases hp
 rename_i hh
 obtain⟨hlen,hby,hsz0,hzl,hes1,hns1⟩:=hh
 cases hp
 have hz:∃zs,eX P e=some zs/\zs.length=P.cellsOf e:=by simpa using hzl
 obtain⟨zs,hz,hzl⟩:=hz
 obtain⟨z,hr,rfl,i,hi,hz'⟩:=gH (w:=w) hz
 have hzc:z.cells.size=P.cellsOf e:=by simpa using hzl
 have hisz:i.size=P.cellsOf e:=by simp[Program.cellsOf,hi]
 have hiby:i.bytes=P.bytesOf e:=by simp[Program.bytesOf,hi]
 have hmax:es.length+ns.length<=maxLen:=by unfold maxLen;unfold cy at hlen;omega
 have hbytes:(es.length+ns.length) * i.bytes<=140737488355328:=by
  rw[hiby]
  have:(es.length+ns.length) * P.bytesOf e<=1073741824 * 65536:=vb0 (by unfold cy at hlen;omega) hby
  omega
 have hnil:cR P Γ w (.slice none 0 0) e:=⟨0,[],⟨by simp,.inl ⟨rfl,rfl⟩⟩,λb hb=>by cases hb⟩
 obtain⟨news,hnx,hnl,hn1,hnv⟩:=CF hx hsz0 hns1
 generalize hk:P.cellsOf e=k at *
 have grow:∀(base xa:Addr) (cap c:Nat) (olds:List Value),x=.slice (some xa) ns.length c->(∀(j:Nat) u,news[j]? =some u->w.cell? (xa.add j)=some u)->cap<es.length+ns.length->olds.length=es.length * k->(∀(j:Nat) u,olds[j]? =some u->w.cell? (base.add j)=some u)->
   (∀(i:Nat) x (q:Nat) p,es[i]? =some x->x[q]? =some p->∃u,olds[i * k+q]? =some u/\VR Γ bs w p u)->
   ∃u' w' Γ' v',(Builtin.append_ #[t,t] ty #[.slice (some base) es.length cap,x]).run P w=.ok u' w'/\SR P E Γ' bs ow w' a st/\Γ.Le w Γ' w'/\VR Γ' bs w' (.slice (es++ns)) u'/\tI u' k=some v'/\cR P Γ' w' v' e/\∀b,v'.ownBlock=some b->ow b=none/\(E.T b\/E.w.heap.size<=b):=by
  intro base xa cap c olds hxe hnews hcl hol hold hov
  subst hxe
  have hr:=run_append_grow (P:=P) w t ty e i z hT hi hz' base es.length cap olds (by rw[hol,hisz]) hold xa ns.length c news (by rw[hnl,hisz]) hnews hcl (by simp only[maxLen]at hmax;omega) (growslice_fits (by omega) hbytes)
  have g1:=grownCap_ge w (es.length+ns.length) cap e
  have g2:=grownCap_le_maxLen w (es.length+ns.length) cap e hmax
  have hl2:(es++ns).length=es.length+ns.length:=vaD
  obtain⟨Γ',q1,q2,q3,q4,q5⟩:=rF h (e:=e) (es:=[]) (ns:=es++ns) (v:=.slice none 0 0) .sliceNil (by rw[hk];exact hsz0) (λx hx=>by cases hx) (λx hx=>by rw[hk];exact(vaJ.1 hx).elim (hes1 x) λhx=>(hns1 x hx).1) (n:=0) (xs:=[]) ⟨by simp,.inl ⟨rfl,rfl⟩⟩ (λb hb=>by cases hb) (λb hb=>by cases hb)
   (news:=olds++news) (by rw[vaD,hol,hnl,hl2,hk,vaN]) (λi x q p hx hq=>by
    rw[hk]
    by_cases hil:i<es.length
    ·rw[vac hil]at hx
     obtain⟨u,k1,k2⟩:=hov i x q p hx hq
     exact⟨u,by rw[vac (ag k1)];exact k1,k2⟩
    ·rw[vad (by omega)]at hx
     obtain⟨u,k1,k2⟩:=hnv _ x q p hx hq
     refine⟨u,?_,k2⟩
     have:i * k+q=olds.length+((i - es.length) * k+q):=by rw[hol,<-vbQ,<-vaN];congr 2;omega
     rw[this,vad (by omega),vbl]
     exact k1)
   (v':=.slice (some ⟨w.heap.size,0,none⟩) (es.length+ns.length) (grownCap w (es.length+ns.length) cap e)) (.inr (.inr ⟨grownCap w (es.length+ns.length) cap e,(Builtin.zeroCells z.cells (grownCap w (es.length+ns.length) cap e - (es.length+ns.length))).toList,by rw[hl2,vaG];exact g1,g2,by simp[size_zeroCells,hzc,hk],by rw[hl2,vaG],rfl⟩))
  have hw:(olds.toArray++news.toArray++Builtin.zeroCells z.cells (grownCap w (es.length+ns.length) cap e - (es.length+ns.length)))=([]++(olds++news)++(Builtin.zeroCells z.cells (grownCap w (es.length+ns.length) cap e - (es.length+ns.length))).toList).toArray:=by apply vbB;simp
  rw[hw]at hr
  obtain⟨v0,e1,e2,e3⟩:=q4.sh (k:=k) hsz0
  refine⟨_,_,Γ',v0,hr,q1,q2,q3,e1,e2,λb hb=>?_⟩
  rcases e3 with rfl|rfl
  ·exact q5 b hb
  ·cases hb
 have stay:∀{u':Value},u'=u->ns=[]->(Builtin.append_ #[t,t] ty #[u,x]).run P w=.ok u' w->∃u' w' Γ' v',(Builtin.append_ #[t,t] ty #[u,x]).run P w=.ok u' w'/\SR P E Γ' bs ow w' a st/\Γ.Le w Γ' w'/\VR Γ' bs w' (.slice (es++ns)) u'/\tI u' k=some v'/\cR P Γ' w' v' e/\∀b,v'.ownBlock=some b->ow b=none/\(E.T b\/E.w.heap.size<=b):=by
  intro u' e1 e2 hrun
  subst e1;subst e2
  exact⟨_,w,Γ,v,hrun,h,.refl _ _,by simpa using hu,hv,ho,hfree⟩
 have hcaplen:∀{ao:Option Addr} {n cap:Nat},u=.slice ao n cap->n<=cap:=λ{ao n cap} hue=>by
  subst hue
  cases hu<;>first|exact vaQ _|assumption
 rcases hnx with⟨rfl,hn0⟩|⟨xa,c,hxe,hnews⟩
 ·have hns:ns=[]:=vai hn0
  refine stay rfl hns ?_
  rcases xT hsz0 hu ho hv with⟨_,_,ao,rfl⟩|⟨b,s,cap,hcap,hec,rfl,_⟩
  ·cases ao<;>simp[Builtin.append_,run_underlying hT,sizeOf,typeInfo,hi,Builtin.lenOf,Builtin.firstCells,storeCells]
  ·simp[Builtin.append_,run_underlying hT,sizeOf,typeInfo,hi,Builtin.lenOf,Builtin.firstCells,hec,storeCells]
 rcases xT hsz0 hu ho hv with⟨rfl,rfl,ao,rfl⟩|⟨b,s,cap,hcap,hec,rfl,rfl⟩
 ·cases ao with
  | none =>
   subst hk
   obtain⟨v',w',Γ',r1,r2,r3,r4,r5,r6⟩:=Bw (ty:=ty) h hT hu hx hnil (λb hb=>by cases hb) hp0
   obtain⟨v0,e1,e2,e3⟩:=r5.sh hsz0
   refine⟨v',w',Γ',v0,r1,r2,r3,r4,e1,e2,λb hb=>?_⟩
   rcases e3 with rfl|rfl
   ·exact r6 b hb
   ·cases hb
  | some base =>
   by_cases hm:ns.length=0
   ·have hns:ns=[]:=vai hm
    refine stay rfl hns ?_
    subst hns
    have:news=[]:=vai (by simpa using hnl)
    subst hxe
    simp[Builtin.append_,run_underlying hT,sizeOf,typeInfo,hi,Builtin.lenOf,Builtin.firstCells,loadCells,loadCellsFrom,storeCells]
   ·exact grow base xa 0 c [] hxe hnews (by simp;omega) (by simp) (by simp) (by simp)
 ·obtain⟨n',xs,hown,hgh⟩:=ho
  have hn':n'=es.length+s:=by
   rcases hown.2 with⟨h1,_⟩|⟨g,c',cur,h1,_⟩
   ·cases h1
   ·cases h1;rfl
  subst hn'
  obtain⟨cur,hg,hcs,hcm,htake⟩:∃cur,w.heap[b]? =some (.cells cur e (0,0))/\cur.size=(cap+s) * k/\cap+s<=maxLen/\cur.toList.take ((es.length+s) * k)=xs:=by
   rw[hk]at hown
   rcases hown.2 with⟨h1,_⟩|⟨g,c',cur,h1,_,h2,h3,h4,h5,h6⟩
   ·cases h1
   ·cases h1;exact⟨cur,h2,h5,h4,h6⟩
  have hgb:Γ b=some ((es.length+s) * k):=by rw[<-hk];exact hgh b rfl
  have hahead:=VR.ahead hsz0 rfl hg hcs hgb hec hes1 hu
  by_cases hroom:es.length+ns.length<=cap
  ·have hfit:s * k+es.length * i.size+news.length<=cur.size:=by
    rw[hisz,hnl,hcs,<-vaN,<-vaN];exact vaK _ (by omega)
   subst hxe
   have hr:=xJ (P:=P) w (ty:=ty) hT hi b (s * k) es.length cap cur hg xa ns.length c news (by rw[hnl,hisz]) hnews hn1 hroom hfit
   have hoff:s * k+es.length * i.size=(es.length+s) * k:=by rw[hisz,<-vaN,vcc]
   rw[hoff]at hr
   have hsl:∀x∈List.replicate s (List.replicate k PVal.undef)++es,x.length=P.cellsOf e:=λx hx=>by
    rw[hk]
    rcases vaJ.1 hx with hx|hx
    ·rw[vcl hx];simp
    ·exact hes1 x hx
   obtain⟨Γ',q1,q2,q3,q4,q5⟩:=rF h (e:=e) (ns:=ns) hahead (by rw[hk];exact hsz0) hsl (λx hx=>by rw[hk];exact(hns1 x hx).1) hown hgh hfree (news:=news) (by rw[hk];exact hnl) (by rw[hk];exact hnv)
    (v':=.slice (some ⟨b,0,none⟩) (es.length+s+ns.length) (cap+s)) (w':=w.setRow b (cur.toList.take ((es.length+s) * k)++news++cur.toList.drop ((es.length+s) * k+news.length)).toArray)
    (.inr (.inl ⟨b,cap+s,cur,rfl,hg,by rw[hk];exact hcs,hcm,by rw[hk];exact htake,by omega,rfl,by rw[hk]⟩))
   refine⟨_,_,Γ',_,hr,q1,q2,?_,Is hsz0 hcap,?_,?_⟩
   ·refine VR.behind (es0:=List.replicate s (List.replicate k PVal.undef)) hsz0 (by simp) (by simp) (λx hx=>(vaJ.1 hx).elim (hes1 x) λhx=>(hns1 x hx).1) ?_ hroom
    rw[<-vcg,show es.length+ns.length+s=es.length+s+ns.length by omega]
    exact q3
   ·rw[show es.length+ns.length+s=es.length+s+ns.length by omega];exact q4
   ·rw[show es.length+ns.length+s=es.length+s+ns.length by omega];exact q5
  ·have hol:(xs.drop (s * k)).length=es.length * k:=by
    rw[vbf,hown.1,hk,vaN];omega
   have hxc:∀(j:Nat) u,xs[j]? =some u->w.cell? ⟨b,j,none⟩=some u:=λj u hju=>by
    rw[cell_of_row w b j cur e _ hg]
    rw[<-htake]at hju
    have hj:j<(es.length+s) * k:=by have:=ag hju;simp at this;omega
    rw[vas hj]at hju
    simpa using hju
   refine grow ⟨b,s * k,none⟩ xa cap c (xs.drop (s * k)) hxe hnews (by omega) hol (λj u hj=>?_) (λi x q p hx hq=>?_)
   ·rw[va6]at hj
    have:=hxc _ _ hj
    rw[Addr.add_lit];exact this
   ·generalize hue:Value.slice (some ⟨b,s * k,none⟩) es.length cap=U at hu
    cases hu with
    |sliceNil=>simp at hx
    |sliceE a c=>simp at hx
    |slice es b off cap' n sz vals h0 hcap' hg' hn hsz' hc' hv'=>
     cases hue
     have:sz=k:=by rw[<-hsz' _ _ hx];exact hes1 x (vaq hx)
     subst this
     refine⟨vals i q,?_,hv' i x q p hx hq⟩
     have h1:=hc' i x q p hx hq
     have hqk:q<sz:=by have:=ag hq;rw[hsz' _ _ hx]at this;exact this
     have hlt:=uI (ag hx) hqk
     rw[va6]
     have h2:s * sz+(i * sz+q)<xs.length:=by rw[hown.1,hk,vaN];omega
     obtain⟨uu,h3⟩:∃uu,xs[s * sz+(i * sz+q)]? =some uu:=⟨_,vaa h2⟩
     have h4:=hxc _ _ h3
     rw[<-vbQ,h1]at h4
     rw[h3,h4]
end
section
variable{a:Act}{st:az}
theorem Mp{u v:Value}{es:List (List PVal)}{e:TypeId}(hu:VR Γ bs w (.slice es) u)(hk:0<P.cellsOf e)(ho:cR P Γ w v e)(h:eW u 0=some v\/eW u (P.cellsOf e)=some v):∃v0,tI u (P.cellsOf e)=some v0/\cR P Γ w v0 e/\∀b,v0.ownBlock=some b->v.ownBlock=some b:=by
 have hp:∀k,eW u k=if k=0 then some u else tI u k:=λk=>by cases hu<;>rfl
 rcases h with h|h
 ·rw[hp,vaA rfl]at h;cases h
  obtain⟨v0,h1,h2,h3⟩:=ho.sh hk
  refine⟨v0,h1,h2,λb hb=>?_⟩
  rcases h3 with rfl|rfl
  ·exact hb
  ·cases hb
 ·rw[hp,vaz (by omega)]at h
  exact⟨v,h,ho,λb hb=>hb⟩
theorem Mc{u v:Value}{k:Nat}{p:PVal}{es:List (List PVal)}(hp:p=.slice es)(hu:VR Γ bs w p u)(hk:0<k)(h:tI u k=some v):eW u k=some v:=by
 subst hp
 have hp:eW u k=if k=0 then some u else tI u k:=by cases hu<;>rfl
 rw[hp,vaz (by omega)];exact h
theorem SR.freeS(h:SR P E Γ bs ow w a.tmps st)(t:Nat):SR P E Γ bs (λb=>match ow b with|some (.tmp t' k)=>if t'=t then none else some (.tmp t' k)|x=>x) w a.tmps {st with own:=st.own.filter λx=>x.1.1 !=t}:=by
 have h':=h.less (own:=st.own.filter λx=>x.1.1 !=t) (λx hx=>(bk hx).1)
 refine h'.ow_drop (λb L hL=>?_) (λt' k' e he b hb=>?_) (λi j e cs own hB hj b hb=>?_)
 ·split at hL
  ·split at hL
   ·cases hL
   ·rename_i h1 _;rw[h1];exact hL
  ·exact hL
 ·have:=(bk he).2
  have hne:t'≠t:=by simpa using this
  rw[hb];simp[hne]
 ·rw[hb]
theorem SR.shiftOwn{a:Array Value}(h:SR P E Γ bs ow w a st){t k:Nat}{e:TypeId}{es:List (List PVal)}(hk:0<k)(hm:((t,0),e)∈st.own)(ht:st.tmps.getD t .undef=.slice es):∃ow',SR P E Γ bs ow' w a {st with own:=((t,k),e)::st.own.filter λx=>x.1 !=(t,0)}:=by
 obtain⟨u,v,e1,e2,h3,h4⟩:=h.ot t 0 e hm
 have hvt:=nv (a:=⟨a,[]⟩) h e1
 rw[ht]at hvt
 have hp:∀k,eW u k=if k=0 then some u else tI u k:=λk=>by cases hvt<;>rfl
 rw[hp,vaA rfl]at e2;cases e2
 obtain⟨v0,k1,k2,k3⟩:=h3.sh hk
 have hp0:eW u k=some v0:=by rw[hp,vaz (by omega)];exact k1
 refine⟨_,(h.freeT t 0).addOwn e1 hp0 k2 λb hb=>?_⟩
 have hb':u.ownBlock=some b:=by
  rcases k3 with rfl|rfl
  ·exact hb
  ·cases hb
 exact⟨by simp[h4 b hb'],(h.on b _ (h4 b hb')).2⟩
theorem NA(h:SR P E Γ bs ow w a.tmps st){o:Oper}{id:Nat}{K:az->Prop}(hp:RW P E.GE o K st)(Q:Exit->Act->World->Prop):o.wp P a w (tL P E bs id (aw o.op) a.defers K) Q:=by
 unfold RW at hp
 split at hp
 ·rename_i T t lo d ho hd
  obtain⟨es,e,p,ht,hT,hps,hk,hm,hdl,hK⟩:=hp
  obtain⟨kk,hkk,hm⟩:∃kk,(kk=0\/kk=P.cellsOf e)/\((t,kk),e)∈st.own:=hm.elim (λh=>⟨_,.inl rfl,h⟩) λh=>⟨_,.inr rfl,h⟩
  obtain⟨u,v,e1,e2,h3,h4⟩:=h.ot t kk e hm
  have hvt:=nv h e1
  rw[ht]at hvt
  obtain⟨v0,k1,k2,k3⟩:=Mp hvt hk h3 (by rcases hkk with rfl|rfl;exact .inl e2;exact .inr e2)
  have hvl:VR Γ bs w (opv E.GE st.tmps lo) (a.eval lo):=h.opv a.defers lo
  obtain⟨u',v',r1,r2,r3,r4,r5⟩:=PX hT hk hvt hvl hps k1 k2
  have hrun:(execOp a.eval o).run P w=.ok (.value u') w:=by simp[execOp,ho,aL e1,r1]
  unfold Oper.wp
  rw[hrun,Oper.upon_value]
  have hds:d<a.tmps.size:=by rw[h.sz];exact hdl
  have hpe:∃es',p=.slice es':=by
   unfold mt at hps
   rw[hT]at hps
   simp only at hps
   split at hps
   ·split at hps
    ·cases hps;exact⟨_,rfl⟩
    ·cases hps
   ·cases hps
  obtain⟨es',rfl⟩:=hpe
  have g0:=h.freeS t
  have g1:=g0.set (d:=d) r2
  have g2:=g1.addOwn (d:=d) (k:=P.cellsOf e) (e:=e) (u:=u') (v:=v') (by simp[hds]) (Mc rfl r2 hk r3) r4 (λb hb=>by
   have h5:=h4 b (k3 b (r5 b hb))
   exact⟨by simp[h5],(h.on b _ h5).2⟩)
  have hput:∀v,(a.put o.dst v).tmps=a.tmps.setIfInBounds d v:=λv=>by rw[hd];rfl
  rw[<-hput]at g2
  exact⟨aT _ _ _,Γ,bs,_,_,g2,hK,.inl rfl⟩
 ·rename_i t y T T' d ho hd
  obtain⟨es,ns,e,p,ht,hy,rfl,hT,hm,hpa,hdl,hK⟩:=hp
  have hk:0<P.cellsOf e:=by
   unfold eP at hpa
   rw[hT]at hpa
   simp only at hpa
   split at hpa
   ·rename_i hh;exact hh.2.2.1
   ·cases hpa
  obtain⟨u,v,e1,e2,h3,h4⟩:=h.ot t _ e hm
  have hvt:=nv h e1
  rw[ht]at hvt
  obtain⟨v0,k1,k2,k3⟩:=Mp hvt hk h3 (.inr e2)
  have hvy:VR Γ bs w (opv E.GE st.tmps y) (a.eval y):=h.opv a.defers y
  rw[hy]at hvy
  have g0:=h.freeS t
  obtain⟨u',w',Γ',v',r1,r2,r3,r4,r5,r6,r7⟩:=MC (ty:=o.type) g0 hT hvt hvy k1 k2 (λb hb=>by
   have h5:=h4 b (k3 b hb)
   exact⟨by simp[h5],(h.on b _ h5).2⟩) hpa
  have hrun:(execOp a.eval o).run P w=.ok (.value u') w':=by
   simp[execOp,ho,resolve,invoke,builtin,aL e1,r1]
  unfold Oper.wp
  rw[hrun,Oper.upon_value]
  have hds:d<a.tmps.size:=by rw[h.sz];exact hdl
  have hpe:∃es',p=.slice es':=by
   unfold eP at hpa
   rw[hT]at hpa
   simp only at hpa
   split at hpa
   ·cases hpa;exact⟨_,rfl⟩
   ·cases hpa
  obtain⟨es',rfl⟩:=hpe
  have g1:=r2.set (d:=d) r4
  have g2:=g1.addOwn (d:=d) (k:=P.cellsOf e) (e:=e) (u:=u') (v:=v') (by simp[hds]) (Mc rfl r4 hk r5) r6 r7
  have hput:∀v,(a.put o.dst v).tmps=a.tmps.setIfInBounds d v:=λv=>by rw[hd];rfl
  rw[<-hput]at g2
  exact⟨aT _ _ _,Γ',bs,_,_,g2,hK,.inl rfl⟩
 ·exact hp.elim
end
end
abbrev fB:Value:=.slice none 0 0
def Se(v:Value):PVal:=if i6 v then .val fB else absC v
def PP(P:Program)(t:TypeId):Option (List PVal):=((P.info? t).bind (·.zero)).map λz=>z.cells.toList.map Se
def H7(P:Program)(t:TypeId)(parts:List (Nat×PVal)):Option (List PVal):=
 match P.underlying t,PP P t with
 |some (.struct fs),some zs=>if fs.all (λf=>(P.info? f.type).isSome)then D6 (λi=>(fs[i]?).map λf=>(f.offset,P.cellsOf f.type)) zs parts else none
 |_,_=>none
def KP(cs:List PVal):List (Nat×TypeId)->Prop
 |[]=>True
 |x::r=>cs[x.1]? =some (.val fB)/\KP cs r
def tB(P:Program)(t:TypeId)(parts:List (Nat×PVal))(L:List (Nat×TypeId)):Prop:=∃cs,H7 P t parts=some cs/\KP cs L
def ownLe(H0 H:List av):Prop:=H0.length=H.length/\∀(i:Nat) B,H0[i]? =some B->∃B',H[i]? =some B'/\(B=B'\/∃cs own own',B'=.cells cs own/\B=.cells cs own'/\∀x∈own',x∈own)
structure yf(P:Program)(GE:List (Nat×List PVal))(f:Operand)(args:List Operand)(st:az)(r:PVal)(ro:List (Nat×TypeId))(H':List av)(oa:List OA):Prop where
 ex:∃(g:FuncId) (first cap argsC:List PVal) (ρ:List Nat) (H0 Hc Hc':List av) (rc:PVal),opv GE st.tmps f=.func (.func g) first cap/\ρ.Nodup/\C P GE g argsC (oa.map λx=>((x.i,x.k),x.e)) Hc rc ro Hc'/\
  ownLe H0 st.boxes/\tP ρ H0 Hc/\tP ρ H' Hc'/\H'.length=st.boxes.length/\(∀j:Nat,j∉ρ->H'[j]? =H0[j]?)/\rm ρ r rc/\(first++args.map (opv GE st.tmps)++cap).length=argsC.length/\
  (∀(i:Nat) p q,(first++args.map (opv GE st.tmps)++cap)[i]? =some p->argsC[i]? =some q->rm ρ p q)/\
  (∀x∈oa,∃j,x.i=first.length+j/\((args[j]? =some (.const fB)/\x.k=0)\/(((x.t,x.k),x.e)∈st.own/\args[j]? =some (.tmp x.t))))/\(∀x∈oa,∀y∈oa,x.t=y.t->x.k=y.k->x.i=y.i)
def Eg(P:Program)(GE:List (Nat×List PVal))(o:Oper)(K:az->Prop)(st:az):Prop:=
 match o.op,o.dst with
 | .build T parts,some d => ∃ (p:PVal) (L:List (Nat×TypeId)),dF P T (parts.toList.map fun x => (x.1,opv GE st.tmps x.2)) = some p∧tB P T (parts.toList.map fun x => (x.1,opv GE st.tmps x.2)) L ∧
   d<st.tmps.length/\K {st with tmps:=st.tmps.set d p,own:=(L.map λx=>((d,x.1),x.2))++be d st.own}
 | .store T x (.tmp t),none => ∃ (i off:Nat) (H:List av) (cs:List PVal) (own L:List (Nat×TypeId)) (l:List PVal),opv GE st.tmps x = .bptr i off∧st.tmps.getD t .undef = .agg l∧dh P T (.bptr i off) (.agg l) st.boxes = some H∧H[i]? = some (.cells cs own) ∧
   (∀y∈L,((t,y.1),y.2)∈st.own)/\(L.map (·.1)).Nodup/\
   K ⟨st.tmps,H.set i (.cells cs ((L.map λy=>(off+y.1,y.2)).reverse++own)),st.own.filter λx=>!L.any λy=>x.1==(t,y.1)⟩
 | .load T x,some d => ∃ (i off:Nat) (cs:List PVal) (own L:List (Nat×TypeId)) (l:List PVal),(∃ fs,P.underlying T = some (.struct fs))∧opv GE st.tmps x = .bptr i off∧st.boxes[i]? = some (.cells cs own)∧aC P T (cs.drop off) = some (.agg l) ∧
   (∀y∈L,(off+y.1,y.2)∈own)/\(L.map (·.1)).Nodup/\(∀y∈L,y.1<l.length)/\d<st.tmps.length/\
   K ⟨st.tmps.set d (.agg l),st.boxes.set i (.cells cs (own.filter λx=>!L.any λy=>x.1==off+y.1)),(L.map λy=>((d,y.1),y.2)).reverse++be d st.own⟩
 |.box _ x,some d=>∃vs:List PVal,bv (opv GE st.tmps x)=some vs/\d<st.tmps.length/\K {st with tmps:=st.tmps.set d (.eptr vs),own:=be d st.own}
 | .call { callee := .value f,args,.. },some d => ∃ (r:PVal) (ro:List (Nat×TypeId)) (H':List av) (oa:List OA),yf P GE f args.toList st r ro H' oa∧d < st.tmps.length ∧
   K ⟨st.tmps.set d r,H',(ro.map λx=>((d,x.1),x.2))++be d (st.own.filter λz=>!oa.any λx=>z.1==(x.t,x.k))⟩
 |_,_=>False
def uY(P:Program)(GE:List (Nat×List PVal))(A:List Nat)(o:Oper)(id:Nat)(K:az->Prop)(st:az):Prop:=BB P GE A o id K st\/Eg P GE o K st\/K9 P GE o K st\/JH P GE o K st\/Rh P GE o id K st\/RW P GE o K st
def dW(P:Program)(GE:List (Nat×List PVal))(A:List Nat)(ops:Array Oper)(K:az->Prop):List Oper->Nat->az->Prop
 |[],_,st=>K st
 | o :: rest,id,st =>
  match o.guard with
  |none=>uY P GE A o id (dW P GE A ops K rest (id+if aw o.op then 1 else 0)) st
  |some (j,want)=>match ou ops st.tmps j with
   | some x => (x = some want→uY P GE A o id (dW P GE A ops K rest (id + if aw o.op then 1 else 0)) st) ∧
     (x≠some want->dW P GE A ops K rest (id+if aw o.op then 1 else 0) (qg st o.dst (.val undef) [] st.boxes))
   |none=>False
section
variable{P:Program}{E:mo}{Γ:ax}{bs:bp}{ow:Nat->Option jx}{w:World}
theorem Qp{z:Value}(j:Nat)(p:PVal)(v:Value)(hp:(z.cells.toList.map Se)[j]? =some p)(hv:z.cells[j]? =some v):VR Γ bs w p v:=by
 simp only[vax,va0,hv,vak,var]at hp
 subst hp
 unfold Se
 split
 ·rename_i hn
  unfold i6 at hn
  split at hn
  ·exact .val _
  ·cases hn
 ·exact .absC v
theorem Jr{t:TypeId}{parts:List (Nat×PVal)}{vs:List (Nat×Value)}{cs:List PVal}(hl:parts.length=vs.length)
  (hv:∀(j:Nat) p v,parts[j]? =some p->vs[j]? =some v->p.1=v.1/\VR Γ bs w p.2 v.2) (h:H7 P t parts=some cs):
  ∃ov,(Instr.build t vs.toArray).run P w=.ok (.agg ov) w/\ov.size=cs.length/\∀(j:Nat) p v,cs[j]? =some p->ov[j]? =some v->VR Γ bs w p v:=by
 unfold H7 at h
 split at h
 ·rename_i fs zs ht hz
  unfold PP at hz
  simp only[vaL,vbb]at hz
  obtain⟨z,⟨i,hi,hz'⟩,rfl⟩:=hz
  have hr:(zeroValue t).run P w=.ok z w:=by simp[zeroValue,run_typeInfo w hi,hz']
  split at h
  ·rename_i hall
   have hplaces:∀(l:List Field),(∀f∈l,(P.info? f.type).isSome=true)->(l.mapM λf=>do pure (f.offset,<-sizeOf f.type):Sem (List (Nat×Nat))).run P w=.ok (l.map λf=>(f.offset,P.cellsOf f.type)) w:=by
    intro l hl
    induction l with
    |nil=>simp
    |cons f l ih=>
     obtain⟨inf,hinf⟩:=vaC.1 (hl f (by simp))
     have:=ih λg hg=>hl g (by simp[hg])
     simp only[vbS,Sem.run_bind,run_sizeOf w hinf,Result.andThen_ok,this,Sem.run_pure,vaM]
   have hp:(fs.mapM λf=>do pure (f.offset,<-sizeOf f.type):Sem (Array (Nat×Nat))).run P w=.ok (fs.map λf=>(f.offset,P.cellsOf f.type)) w:=by
    rw[vcd]
    simp only[Sem.run_map]
    rw[hplaces fs.toList λf hf=>by
     have:=vbn.1 hall f (by simpa using hf)
     simpa using this]
    simp only[Result.andThen_ok]
    exact vbp (λx=>Result.ok x w) (vbB (by simp))
   obtain⟨ov,r1,r2,r3⟩:=vT (place':=((fs.map λf=>(f.offset,P.cellsOf f.type))[·]?)) (λi x hx=>by simpa using hx) parts vs _ z.cells hl hv (by simp) (λj p v hp hv=>Qp j p v hp hv) h
   refine⟨ov,?_,r2,r3⟩
   simp only[Instr.build,Sem.run_bind,hr,Result.andThen_ok,run_underlying ht,hp]
   rw[r1]
   simp
  ·cases h
 ·cases h
theorem DU{cs:List PVal}:∀{L:List (Nat×TypeId)},KP cs L->∀x∈L,cs[x.1]? =some (.val fB)
 |[],_,x,hx=>by cases hx
 | y :: L,h,x,hx => by
  rcases vat.1 hx with rfl|hx
  ·exact h.1
  ·exact DU h.2 x hx
section
variable{a:Array Value}{st:az}
theorem SR.ownNils(h:SR P E Γ bs ow w a st){d:Nat}{u:Value}(hu:a[d]? =some u)(L:List (Nat×TypeId))(hL:∀x∈L,eW u x.1=some fB):SR P E Γ bs ow w a {st with own:=(L.map λx=>((d,x.1),x.2))++st.own}:=
 { h with
  ot:=λt k e he=>by
   rcases vaJ.1 he with he|he
   ·simp only[vah,Prod.mk.injEq]at he
    obtain⟨x,hx,⟨rfl,rfl⟩,rfl⟩:=he
    exact⟨u,fB,hu,hL x hx,⟨0,[],World.ownsRow_nil _ _ _ _,λb hb=>by simp[Value.ownBlock]at hb⟩,λb hb=>by simp[Value.ownBlock]at hb⟩
   ·exact h.ot t k e he}
theorem SR.takeOwn(h:SR P E Γ bs ow w a st){i b d k off:Nat}{e:TypeId}{u v:Value}{cs:List PVal}{own:List (Nat×TypeId)}(hi:bs[i]? =some (some b))(hB:st.boxes[i]? =some (.cells cs own))
  (hm:(off,e)∈own) (hu:a[d]? =some u) (hp:eW u k=some v) (hc:w.cell? ⟨b,off,none⟩=some v):
  ∃ow',SR P E Γ bs ow' w a {st with own:=((d,k),e)::st.own,boxes:=st.boxes.set i (.cells cs (own.filter λx=>x.1 !=off))}:=by
 obtain⟨v',q1,q2,q3⟩:=h.ob i off e cs own b hB hm hi
 rw[hc]at q1
 cases q1
 exact⟨_,(h.freeB (j:=off) hB).addOwn (d:=d) (k:=k) (e:=e) (u:=u) (v:=v) hu hp q2 (λb' hb'=>⟨by simp[q3 b' hb'],(h.on b' _ (q3 b' hb')).2⟩)⟩
theorem SR.takeOwns{i b d off:Nat}{u:Value}{cs:List PVal}(hi:bs[i]? =some (some b))(hu:a[d]? =some u):∀(L:List (Nat×TypeId)) {ow:Nat->Option jx} {st:az} {own:List (Nat×TypeId)},SR P E Γ bs ow w a st->st.boxes[i]? =some (.cells cs own)->
  (∀x∈L,(off+x.1,x.2)∈own)->(L.map (·.1)).Nodup->(∀x∈L,∃v,eW u x.1=some v/\w.cell? ⟨b,off+x.1,none⟩=some v)->
  ∃ow',SR P E Γ bs ow' w a ⟨st.tmps,st.boxes.set i (.cells cs (own.filter λx=>!L.any λy=>x.1==off+y.1)),(L.map λy=>((d,y.1),y.2)).reverse++st.own⟩
 | [],ow,st,own,h,hB,_,_,_ => by
  refine⟨ow,?_⟩
  have e2:(own.filter λx=>!([]:List (Nat×TypeId)).any λy=>x.1==off+y.1)=own:=by
   apply vcJ.2
   intro x _
   rfl
  have e1:st.boxes.set i (.cells cs (own.filter λx=>!([]:List (Nat×TypeId)).any λy=>x.1==off+y.1))=st.boxes:=by
   rw[e2]
   apply vbi
   intro j
   by_cases hj:i=j
   ·subst hj
    rw[vag (ag hB),hB]
   ·rw[vap hj]
  rw[e1]
  exact h
 | x :: L,ow,st,own,h,hB,hm,hn,hc => by
  rw[vaM,vbz]at hn
  obtain⟨v,hv1,hv2⟩:=hc x (by simp)
  obtain⟨ow1,h1⟩:=h.takeOwn hi hB (hm x (by simp)) hu hv1 hv2
  obtain⟨ow2,h2⟩:=SR.takeOwns (off:=off) hi hu L h1 (vag (ag hB)) (λy hy=>by
   refine vaW.2 ⟨hm y (by simp[hy]),?_⟩
   simp only[bne_iff_ne,ne_eq]
   exact λe=>hn.1 (vah.2 ⟨y,hy,by omega⟩)) hn.2 (λy hy=>hc y (by simp[hy]))
  refine⟨ow2,?_⟩
  simp only[vbE,vcL]at h2
  have e1:((x::L).map λy=>((d,y.1),y.2)).reverse++st.own=(L.map λy=>((d,y.1),y.2)).reverse++((d,x.1),x.2)::st.own:=by simp
  have e2:(own.filter λz=>!(x::L).any λy=>z.1==off+y.1)=own.filter λz=>(!L.any λy=>z.1==off+y.1)&&(z.1 !=off+x.1):=by
   congr 1
   funext z
   rw[List.any_cons]
   cases(L.any λy=>z.1==off+y.1)<;>cases hz:(z.1==off+x.1)<;>simp[bne,hz]
  rw[e1,e2]
  exact h2
theorem DS(h:SR P E Γ bs ow w a st){T:TypeId}{i off b:Nat}{cs:List PVal}{own:List (Nat×TypeId)}{l:List PVal}(hi:bs[i]? =some (some b))(hB:st.boxes[i]? =some (.cells cs own))(hp:aC P T (cs.drop off)=some (.agg l)):∃v,(loadVar T ⟨b,off,none⟩).run P w=.ok v w/\VR Γ bs w (.agg l) v/\((∃d,P.underlying T=some d/\(match d with|.struct _|.array _ _=>True|_=>False))->∀k,k<l.length->eW v k=w.cell? ⟨b,off+k,none⟩):=by
 obtain⟨c,t',h1,h2,h3,h4⟩:=h.box_cells hi hB
 have hval:∀(k:Nat) q,(cs.drop off)[k]? =some q->w.cell? ⟨b,off+k,none⟩=some (c.getD (off+k) undef)/\VR Γ bs w q (c.getD (off+k) undef):=by
  intro k q hq
  rw[va6]at hq
  have hlt:off+k<c.size:=vaF (ag hq) h2
  have hc:c[off+k]? =some (c.getD (off+k) undef):=by simp[vaB,hlt]
  exact⟨(h4 _).trans hc,h3 _ _ _ hq hc⟩
 obtain⟨v,hr,hv⟩:=gz hp (vals:=λk=>c.getD (off+k) undef) (λk q hq=>(hval k q hq).1) (λk q hq=>(hval k q hq).2)
 refine⟨v,hr,hv,λhagg k hk=>?_⟩
 obtain⟨dd,hd,hm⟩:=hagg
 have hlen:P.cellsOf T<=(cs.drop off).length/\l.length=P.cellsOf T:=by
  unfold aC at hp
  rw[hd]at hp
  have key:(if P.cellsOf T<=(cs.drop off).length then some (PVal.agg ((cs.drop off).take (P.cellsOf T)))else none)=some (.agg l):=by
   cases dd<;>simp only at hm<;>exact hp
  split at key
  ·rename_i hh;cases key;exact⟨hh,by rw[vaV];omega⟩
  ·cases key
 have hp2:aC P T ((List.range (cs.drop off).length).map λk=>PVal.val (c.getD (off+k) undef))=some (.agg (((List.range (cs.drop off).length).map λk=>PVal.val (c.getD (off+k) undef)).take (P.cellsOf T))):=by
  unfold aC
  rw[hd]
  cases dd<;>simp at hm<;>simp only<;>rw[vaA (by simpa using hlen.1)]
 obtain⟨v2,hr2,hv2⟩:=gz (Γ:=Γ) (bs:=bs) hp2 (vals:=λk=>c.getD (off+k) undef) (λk q hq=>by
   have hlt:k<(cs.drop off).length:=by have:=ag hq;simpa using this
   exact(hval k _ (vaa hlt)).1) (λk q hq=>by
   have hlt:k<(cs.drop off).length:=by have:=ag hq;simpa using this
   simp only[vax,vbk hlt,vak,var]at hq
   subst hq
   exact .val _)
 rw[hr]at hr2
 cases hr2
 have hk2:k<(cs.drop off).length:=by omega
 cases hv2 with
 | agg _ vs hl hvv =>
  have hd1:(cs.drop off).length=cs.length - off:=vbf
  have hkv:k<vs.size:=by rw[hl];simp;omega
  have hq:(((List.range (cs.drop off).length).map λk=>PVal.val (c.getD (off+k) undef)).take (P.cellsOf T))[k]? =some (.val (c.getD (off+k) undef)):=by
   rw[vas (by omega)]
   simp only[vax,vbk hk2,vak]
  have:=hvv k _ vs[k] hq (by simp[hkv])
  show vs[k]? =_
  rw[(hval k _ (vaa hk2)).1]
  rw[vaE hkv]
  generalize vs[k]=q at this
  generalize c.getD (off+k) undef=q2 at this
  cases this
  rfl
end
variable{a:Act}{st:az}
theorem um(h:SR P E Γ bs ow w a.tmps st){o:Oper}{id d:Nat}{T:TypeId}{parts:Array (Nat×Operand)}{p:PVal}{L:List (Nat×TypeId)}{K:az->Prop}(ho:o.op=.build T parts)(hdst:o.dst=some d)(hd:d<st.tmps.length)
  (hp:dF P T (parts.toList.map λx=>(x.1,opv E.GE st.tmps x.2))=some p) (hL:tB P T (parts.toList.map λx=>(x.1,opv E.GE st.tmps x.2)) L)
  (hK:K {st with tmps:=st.tmps.set d p,own:=(L.map λx=>((d,x.1),x.2))++be d st.own}) (Q:Exit->Act->World->Prop):
  o.wp P a w (ez P E bs id (aw o.op) a.defers K) Q:=by
 have hρ:∀x,VR Γ bs w (opv E.GE st.tmps x) (a.eval x):=λx=>h.opv a.defers x
 obtain⟨k1,k2⟩:=qJ hρ parts.toList
 obtain⟨v,r1,r2⟩:=rX k1 k2 hp
 obtain⟨cs,hcs,hn⟩:=hL
 obtain⟨ov,s1,s2,s3⟩:=Jr k1 k2 hcs
 rw[r1]at s1
 cases s1
 have hrun:(execOp a.eval o).run P w=.ok (.value (.agg ov)) w:=by
  have:(parts.map λx=>(x.1,a.eval x.2))=(parts.toList.map λx=>(x.1,a.eval x.2)).toArray:=by apply vbB;simp
  simp only[execOp,ho]
  rw[this]
  simp[r1]
 unfold Oper.wp
 rw[hrun,Oper.upon_value]
 have hds:d<a.tmps.size:=by rw[h.sz];exact hd
 have g1:=h.set (d:=d) r2
 have g2:=g1.ownNils (d:=d) (u:=.agg ov) (by simp[hds]) L λx hx=>by
  have hq:=DU hn x hx
  have hlt:x.1<ov.size:=by rw[s2];exact ag hq
  have hv:=s3 x.1 _ ov[x.1] hq (by simp[hlt])
  show ov[x.1]? =_
  rw[vaE hlt]
  generalize ov[x.1]=q at hv
  cases hv
  rfl
 have hput:∀v,(a.put o.dst v).tmps=a.tmps.setIfInBounds d v:=λv=>by rw[hdst];rfl
 rw[<-hput]at g2
 exact⟨aT _ _ _,Γ,bs,_,_,g2,hK,.inl rfl⟩
theorem SR.ownLe(h:SR P E Γ bs ow w a.tmps st){H0:List av}(hs:ownLe H0 st.boxes):SR P E Γ bs ow w a.tmps {st with boxes:=H0}:=
 { h with
  bl:=h.bl.trans hs.1.symm
  bx:=λi b B hb hB=>by
   obtain⟨B',hB',hx⟩:=hs.2 i B hB
   obtain⟨k1,k2,k3⟩:=h.bx i b B' hb hB'
   rcases hx with rfl|⟨cs,own,own',rfl,rfl,_⟩
   ·exact⟨k1,k2,k3⟩
   ·exact⟨k1,k2,k3⟩
  ob:=λi j e cs own b hB hj hb=>by
   obtain⟨B',hB',hx⟩:=hs.2 i _ hB
   rcases hx with rfl|⟨cs1,own1,own2,rfl,e2,hsub⟩
   ·exact h.ob i j e cs own b hB' hj hb
   ·cases e2;exact h.ob i j e _ own1 b hB' (hsub _ hj) hb}
theorem pC(h:SR P E Γ bs ow w a.tmps st){o:Oper}{id d:Nat}{f:Operand}{args:Array Operand}{tys:Array TypeId}{r:PVal}{ro:List (Nat×TypeId)}{H':List av}{oa:List OA}{K:az->Prop}(ho:o.op=.call {callee:=.value f,args,argTypes:=tys})(hdst:o.dst=some d)(hd:d<st.tmps.length)
  (hg:yf P E.GE f args.toList st r ro H' oa) (hK:K ⟨st.tmps.set d r,H',(ro.map λx=>((d,x.1),x.2))++be d (st.own.filter λz=>!oa.any λx=>z.1==(x.t,x.k))⟩) (Q:Exit->Act->World->Prop):
  o.wp P a w (ez P E bs id (aw o.op) a.defers K) Q:=by
 obtain⟨g,first,cap,argsC,ρ,H0,Hc,Hc',rc,hfv,hnd,hC,hle,hH,hH',hlen,hsame,hr,hal,ha,ho1,ho3⟩:=hg.ex
 have hρ:∀x,VR Γ bs w (opv E.GE st.tmps x) (a.eval x):=λx=>h.opv a.defers x
 have hf:=hρ f
 rw[hfv]at hf
 generalize hvf:a.eval f=vf at hf
 cases hf with
 |func _ _ _ fs cs hl hl' h1 h2=>
 have hargs:(fs++args.map a.eval++cs).size=(first++args.toList.map (opv E.GE st.tmps)++cap).length:=by simp[hl,hl']
 have hvr:∀(i:Nat) p v,(first++args.toList.map (opv E.GE st.tmps)++cap)[i]? =some p->(fs++args.map a.eval++cs)[i]? =some v->VR Γ bs w p v:=by
  refine vH (by simp[hl]) (vH hl h1 λi p v hp hv=>?_) h2
  exact rV hρ args.toList i p v hp (by simpa using hv)
 have hrun:(execOp a.eval o).run P w=.ok (.enter g (fs++args.map a.eval++cs)) w:=by
  simp[execOp,ho,resolve,hvf,Deferred.ofValue,invoke,hC.1]
 have hds:d<a.tmps.size:=by rw[h.sz];exact hd
 have hw:=h.ownLe hle
 unfold Oper.wp
 rw[hrun,Oper.upon_enter]
 refine(Oj hw hds hnd hC (λx hx=>?_) ho3 hH hH' (hlen.trans hle.1.symm) hsame hr hal ha hargs hvr).mono λe w' he=>?_
 ·obtain⟨j,hj,hj2⟩:=ho1 x hx
  have hat:∀{y:Operand},args.toList[j]? =some y->(fs++args.map a.eval++cs)[x.i]? =some (a.eval y):=by
   intro y hy
   have hjl:j<args.size:=by have:=ag hy;simpa using this
   have hja:args[j]? =some y:=by simpa using hy
   rw[hj,<-hl,vaT (by simp;omega),vbO (by omega),vbl]
   simp only[Array.getElem?_map,hja,vak]
  rcases hj2 with⟨hj2,hk⟩|⟨ht,hj2⟩
  ·exact .inl ⟨hat hj2,hk⟩
  ·obtain⟨u,v,e1,_⟩:=h.ot _ _ _ ht
   exact .inr ⟨ht,by rw[hat hj2,aL e1];exact e1.symm⟩
 ·obtain⟨v,Γ',ow',rfl,hS,_⟩:=he
  have hput:(a.put o.dst v).tmps=a.tmps.setIfInBounds d v:=by rw[hdst];rfl
  show ez P E bs id (aw o.op) a.defers K (a.put o.dst v) w'
  refine⟨aT _ _ _,Γ',bs,ow',_,?_,hK,.inl rfl⟩
  rw[hput];exact hS
theorem xI(h:SR P E Γ bs ow w a.tmps st){o:Oper}{id:Nat}{K:az->Prop}(hp:Eg P E.GE o K st)(Q:Exit->Act->World->Prop):o.wp P a w (ez P E bs id (aw o.op) a.defers K) Q:=by
 unfold Eg at hp
 split at hp
 ·rename_i T parts d ho hd
  obtain⟨p,L,h1,h2,h3,h4⟩:=hp
  exact um h ho hd h3 h1 h2 h4 Q
 ·rename_i T x t ho hd
  obtain⟨i,off,H,cs,own,L,l,hx,ht,hst,hB,hm,hn,hK⟩:=hp
  have htl:t<st.tmps.length:=by
   by_cases hlt:t<st.tmps.length
   ·exact hlt
   ·rw[van,vaU (vbT hlt)]at ht;cases ht
  have hta:t<a.tmps.size:=by rw[h.sz];exact htl
  have hu:a.tmps[t]? =some a.tmps[t]:=by simp[hta]
  generalize a.tmps[t]=u at hu
  have hvt:=nv h hu
  rw[ht]at hvt
  have hvx:VR Γ bs w (opv E.GE st.tmps x) (a.eval x):=h.opv a.defers x
  rw[hx]at hvx
  obtain⟨w',r1,r2,_,r4⟩:=u9 h hvx hvt hst
  have hrun:(execOp a.eval o).run P w=.ok .skip w':=by simp[execOp,ho,aL hu,r1]
  unfold Oper.wp
  rw[hrun,Oper.upon_skip]
  generalize a.eval x=vx at hvx r1
  cases hvx with
  |bptr _ _ b hb=>
  obtain⟨c1,_⟩:=r4 i off b rfl hb
  obtain⟨ow',g⟩:=SR.moveOwns (off:=off) hb hu L r2 hB hm hn λy hy=>by
   obtain⟨u',v,e1,e2,_,_⟩:=h.ot t y.1 y.2 (hm y hy)
   rw[hu]at e1
   cases e1
   refine⟨v,e2,?_⟩
   cases hvt with
   |agg _ vs _ _=>exact c1 y.1 v e2
  have hput:a.put o.dst undef=a:=by rw[hd];rfl
  rw[hput]
  exact⟨rfl,Γ,bs,ow',_,g,hK,.inl rfl⟩
 ·rename_i T x d ho hd
  obtain⟨i,off,cs,own,L,l,⟨fs,hfs⟩,hx,hB,hp,hm,hn,hll,hdl,hK⟩:=hp
  have hvx:VR Γ bs w (opv E.GE st.tmps x) (a.eval x):=h.opv a.defers x
  rw[hx]at hvx
  generalize hve:a.eval x=vx at hvx
  cases hvx with
  |bptr _ _ b hb=>
  obtain⟨v,r1,r2,r3⟩:=DS h hb hB hp
  have hrun:(execOp a.eval o).run P w=.ok (.value v) w:=by simp[execOp,ho,hve,Instr.loadAt,Instr.sureAddr,r1]
  unfold Oper.wp
  rw[hrun,Oper.upon_value]
  have hds:d<a.tmps.size:=by rw[h.sz];exact hdl
  have g1:=h.set (d:=d) r2
  obtain⟨ow',g2⟩:=SR.takeOwns (off:=off) (d:=d) (u:=v) hb (by simp[hds]) L g1 hB hm hn λy hy=>by
   have:=r3 ⟨_,hfs,vzz⟩ y.1 (hll y hy)
   obtain⟨v',q1,_⟩:=h.ob i (off+y.1) y.2 cs own b hB (hm y hy) hb
   exact⟨v',this.trans q1,q1⟩
  have hput:∀v,(a.put o.dst v).tmps=a.tmps.setIfInBounds d v:=λv=>by rw[hd];rfl
  rw[<-hput]at g2
  exact⟨aT _ _ _,Γ,bs,ow',_,g2,hK,.inl rfl⟩
 ·rename_i T x d ho hd
  obtain⟨vs,hvs,hdl,hK⟩:=hp
  have hvx:VR Γ bs w (opv E.GE st.tmps x) (a.eval x):=h.opv a.defers x
  generalize hve:a.eval x=vx at hvx
  obtain⟨k1,k2⟩:=hvx.cells hvs
  obtain⟨g1,hle⟩:=h.alloc_imm vx.cells T vx.cells.size (vaj _)
  have hrun:(execOp a.eval o).run P w=.ok (.value (.pointer (some ⟨w.heap.size,0,none⟩))) (w.alloc (.cells vx.cells T)):=by simp[execOp,ho,hve,Instr.box,newVar,newRow]
  unfold Oper.wp
  rw[hrun,Oper.upon_value]
  have hcell:∀j,(w.alloc (.cells vx.cells T)).cell? ⟨w.heap.size,j,none⟩=vx.cells[j]?:=λj=>cell_of_row _ _ _ _ _ _ (de w _)
  have hget:∀{k:Nat} {p:PVal},vs[k]? =some p->vx.cells[k]? =some (vx.cells.getD k undef):=λ{k p} hp=>by
   have hlt:k<vx.cells.size:=by rw[k1];exact ag hp
   simp[vaB,hlt]
  have hvr:VR (Γ.put w.heap.size vx.cells.size) bs (w.alloc (.cells vx.cells T)) (.eptr vs) (.pointer (some ⟨w.heap.size,0,none⟩)):=
   .eptr vs w.heap.size 0 vx.cells.size (λk=>vx.cells.getD k undef) (Γ.put_same _ _) (by omega)
    (λk p hp=>by rw[hcell,vaG];exact hget hp) (λk p hp=>(k2 k p _ hp (hget hp)).mono hle (.refl _))
  have g2:=g1.set (d:=d) hvr
  have hput:∀v,(a.put o.dst v).tmps=a.tmps.setIfInBounds d v:=λv=>by rw[hd];rfl
  rw[<-hput]at g2
  exact⟨aT _ _ _,_,bs,_,_,g2,hK,.inl rfl⟩
 ·rename_i f args tys d ho hd
  obtain⟨r,ro,H',oa,h1,h2,h3⟩:=hp
  exact pC h ho hd h2 h1 h3 Q
 ·exact hp.elim
theorem Ih(h:SR P E Γ bs ow w a.tmps st){A:List Nat}{o:Oper}{id:Nat}(hid:aw o.op=true->bs[id]? =some none){K:az->Prop}(hp:uY P E.GE A o id K st)(Q:Exit->Act->World->Prop):o.wp P a w (tL P E bs id (aw o.op) a.defers K) Q:=by
 rcases hp with hp|hp|hp|hp|hp|hp
 ·exact Oper.wp_mono (λ_ _ hA=>hA.to3) (JI h hid hp Q)
 ·exact Oper.wp_mono (λ_ _ hA=>hA.to3) (xI h hp Q)
 ·exact La h hp Q
 ·exact K8 h hp Q
 ·exact Np h hid hp Q
 ·exact NA h hp Q
theorem sb{bs0:bp}{ds:List Deferred}{A:List Nat}{ops:Array Oper}{K:az->Prop}{Q:Exit->Act->World->Prop}
  (hQ:∀a w st,a.defers=ds->Iv P E bs0 st a w->K st->Q .normal a w):
  ∀(rest:List Oper) (k id:Nat) (Γ:ax) (bs:bp) (ow:Nat->Option jx) (a:Act) (w:World) (st:az),(∀j,rest[j]? =ops[k+j]?)->SR P E Γ bs ow w a.tmps st->a.defers=ds->N7 bs0 bs->bs0.length<=id->
   (∀m,id<=m->m<id+bF rest->bs[m]? =some none)->dW P E.GE A ops K rest id st->wpOps P ops Q ((List.range ops.size).drop k) a w
 | [],k,id,Γ,bs,ow,a,w,st,hr,h,hd,hk,_,_,hp => by
  have hsz:ops.size<=k:=by
   have:=hr 0
   simp only[List.getElem?_nil,Nat.add_zero]at this
   exact vb9.1 this.symm
  rw[vbq (by simpa using hsz)]
  exact hQ a w st hd ⟨Γ,bs,ow,h,hk⟩ hp
 | o :: rest,k,id,Γ,bs,ow,a,w,st,hr,h,hd,hk,hid,hfree,hp => by
  have hok:ops[k]? =some o:=by have:=hr 0;simpa using this.symm
  have hlt:k<ops.size:=(vaf.1 hok).1
  have hcons:(List.range ops.size).drop k=k::(List.range ops.size).drop (k+1):=by
   rw[vaR (by simpa using hlt)];simp
  rw[hcons,wpOps_cons]
  unfold wpOp
  rw[hok]
  simp only
  have hcnt:bF (o::rest)=(if aw o.op then 1 else 0)+bF rest:=by
   unfold bF
   simp only[vbJ]
   split<;>simp<;>omega
  have hrest:∀j,rest[j]? =ops[k+1+j]?:=λj=>by
   have:=hr (j+1)
   simpa[vbQ,vcc 1 j]using this
  have hmk:aw o.op=true->bs[id]? =some none:=λhm=>hfree id (vaj _) (by rw[hcnt,hm];simp;omega)
  have step:uY P E.GE A o id (dW P E.GE A ops K rest (id+if aw o.op then 1 else 0)) st->o.wp P a w (wpOps P ops Q ((List.range ops.size).drop (k+1))) Q:=by
   intro hs
   refine Oper.wp_mono (λa' w' hA=>?_) (Ih h hmk hs Q)
   obtain⟨hd',Γ',bs',ow',st',h1,h2,h3⟩:=hA
   refine sb hQ rest (k+1) _ Γ' bs' ow' a' w' st' hrest h1 (hd'.trans hd) ?_ (by omega) ?_ h2
   ·rcases h3 with rfl|⟨hm,b,rfl⟩|⟨x,rfl⟩
    ·exact hk
    ·intro i hi
     rw[vap (by omega)]
     exact hk i hi
    ·intro i hi
     have hki:=hk i hi
     have hlt:i<bs.length:=by
      have h1:bs0[i]? =some bs0[i]:=vaa hi
      rw[h1]at hki
      exact ag hki
     rw[vac hlt]
     exact hki
   ·intro m hm1 hm2
    have hb:=hfree m (by omega) (by rw[hcnt];omega)
    rcases h3 with rfl|⟨hm,b,rfl⟩|⟨x,rfl⟩
    ·exact hb
    ·rw[hm]at hm1
     simp only[if_true]at hm1
     rw[vap (by omega)]
     exact hb
    ·rw[vac (ag hb)]
     exact hb
  have skip:dW P E.GE A ops K rest (id+if aw o.op then 1 else 0) (qg st o.dst (.val undef) [] st.boxes)->wpOps P ops Q ((List.range ops.size).drop (k+1)) (a.put o.dst undef) w:=by
   intro hs
   refine sb hQ rest (k+1) _ Γ bs ow (a.put o.dst undef) w _ hrest (h.putv_nil (.val undef) o.dst rfl) ((aT _ _ _).trans hd) hk (by omega) (λm hm1 hm2=>hfree m (by omega) (by rw[hcnt];omega)) hs
  simp only[dW]at hp
  have hgo:(Region.wanted o (yielded ops a.tmps)=true->o.wp P a w (wpOps P ops Q ((List.range ops.size).drop (k+1))) Q)/\(¬Region.wanted o (yielded ops a.tmps)=true->wpOps P ops Q ((List.range ops.size).drop (k+1)) (a.put o.dst undef) w):=by
   split at hp
   ·rename_i hg
    exact⟨λ_=>step hp,λhn=>absurd (by simp[Region.wanted,hg]) hn⟩
   ·rename_i j want hg
    split at hp
    ·rename_i x hx
     have hw:Region.wanted o (yielded ops a.tmps)=(x==some want):=by simp[Region.wanted,hg,By h hx]
     rw[hw]
     exact⟨λhx=>step (hp.1 (by simpa using hx)),λhx=>skip (hp.2 (by simpa using hx))⟩
    ·exact hp.elim
  by_cases hw:Region.wanted o (yielded ops a.tmps)=true
  ·rw[vaA hw];exact .inl (hgo.1 hw)
  ·rw[vaz hw];exact hgo.2 hw
theorem wN{bs0:bp}{A:List Nat}{ops:Array Oper}{K:az->Prop}{Q:Exit->Act->World->Prop}(hR:Iv P E bs0 st a w)(hl:bs0.length<=st.boxes.length)
  (hQ:∀a' w' st',a'.defers=a.defers->Iv P E bs0 st' a' w'->K st'->Q .normal a' w') (hp:dW P E.GE A ops K ops.toList st.boxes.length {st with boxes:=st.boxes++dV P ops.toList}):
  wpOps P ops Q (List.range ops.size) a w:=by
 obtain⟨Γ,bs,ow,h,hk⟩:=hR
 have hext:=h.extend (dV P ops.toList)
 have hlen:=sO P ops.toList
 have:=sb (P:=P) (E:=E) (bs0:=bs0) (ds:=a.defers) hQ ops.toList 0 st.boxes.length Γ _ ow a w _ (λj=>by simp) hext rfl (λi hi=>?_) hl (λm hm1 hm2=>?_) hp
 ·simpa using this
 ·rw[vac (by rw[h.bl];omega)];exact hk i hi
 ·rw[vad (by rw[h.bl];omega),vaX,vaA (by rw[h.bl];omega)]
end
def Hn(ro:Option Nat)(P:Program)(c:Code)(Q:Exit->Act->World->Prop)(a:Act)(w:World):Prop:=match ro with
 |none=>c.wp P Q a w
 |some l=>∀n,c.wpIn (Fence.wide.inRound l) n P Q a w
def cw(o:Oper):Bool:=match o.op with
 |.defer _=>false
 |_=>true
section
variable{P:Program}{ro:Option Nat}{Q:Exit->Act->World->Prop}{a:Act}{w:World}
theorem lZ{c:Code}{Q':Exit->Act->World->Prop}(h:Hn ro P c Q a w)(hq:∀e a w,Q e a w->Q' e a w):Hn ro P c Q' a w:=by
 cases ro with
 |none=>exact wp_mono h hq
 |some l=>exact λn=>wpIn_mono (h n) hq
theorem OB(h:Q .normal a w):Hn ro P .skip Q a w:=by
 cases ro with
 |none=>exact wp_skip h
 |some l=>exact λn=>wpIn_skip h
theorem MM{l:Nat}(h:Q .normal a w):Hn ro P (.label l) Q a w:=by
 cases ro with
 |none=>exact wp_label h
 |some l=>exact λn=>wpIn_label h
theorem Oz{id:Nat}(h:Q (.exit id) a w):Hn ro P (.exit id) Q a w:=by
 cases ro with
 |none=>exact wp_exit h
 |some l=>exact λn=>wpIn_exit h
theorem QK(h:Q .ret a w):Hn ro P .ret Q a w:=by
 cases ro with
 |none=>exact wp_ret h
 |some l=>exact λn=>wpIn_ret h
theorem QL{x y:Code}(h:Hn ro P x (Exit.then (Hn ro P y Q) Q) a w):Hn ro P (.seq x y) Q a w:=by
 cases ro with
 |none=>exact wp_seq h
 |some l=>exact λn=>wpIn_seq (wpIn_mono (h n) λe a w hq=>by cases e<;>first|exact hq n|exact hq)
theorem Oy{c:Operand}{x y:Code}{t:Bool}(hc:a.eval c=.bool t)(h1:t=true->Hn ro P x Q a w)(h2:t=false->Hn ro P y Q a w):Hn ro P (.cond c x y) Q a w:=by
 cases t with
 |true=>cases ro with
  |none=>exact wp_cond hc (h1 rfl)
  |some l=>exact λn=>wpIn_cond hc (h1 rfl n)
 |false=>cases ro with
  |none=>exact wp_cond hc (h2 rfl)
  |some l=>exact λn=>wpIn_cond hc (h2 rfl n)
theorem ML{id:Nat}{c:Code}(h:Hn ro P c (Exit.inBlock id Q) a w):Hn ro P (.block id c) Q a w:=by
 cases ro with
 |none=>exact wp_block h
 |some l=>exact λn=>wpIn_block (h n)
theorem Dr{c:Code}(I:Nat->Act->World->Prop)(n₀:Nat)(h₀:I n₀ a w)(round:∀n a w,I n a w->Hn ro P c (Exit.then (λa' w'=>∃n',n'<n/\I n' a' w') Q) a w):Hn ro P (.loop c) Q a w:=by
 cases ro with
 |none=>exact wp_loop_ghost I n₀ h₀ round
 |some l=>exact λn=>wpIn_loop_ghost I n₀ h₀ λk a w hI=>round k a w hI n
theorem Rr{l n:Nat}{row:String}{args:Array Value}{R:Value->World->Prop}(h:Rows P row args w R):RowsIn (Fence.wide.inRound l) n P row args w R:=λc cs _=>by
 obtain⟨v,w',r,s⟩:=h c cs
 exact⟨v,w',r,by rw[fenced_inRound];exact stepsIn_wide.2 s⟩
theorem Ol{l n:Nat}{f:FuncId}{args:Array Value}{R:Ending->World->Prop}(h:Calls P f args w R):CallsIn (Fence.wide.inRound l) n P f args w R:=CallsIn.inRound l (callsIn_wide.2 h)
theorem HZ{l n:Nat}{o:Oper}{next:Act->World->Prop}(hd:cw o=true)(h:o.wp P a w next Q):o.wpIn (Fence.wide.inRound l) n P a w next Q:=by
 refine⟨λ_ _=>trivial,?_⟩
 have hs:o.semAt (Fence.wide.inRound l).round a.eval=execOp a.eval o:=Oper.semAt_eq _ _ _ λc hc=>by unfold cw at hd;rw[hc]at hd;cases hd
 rw[hs]
 unfold Oper.wp at h
 generalize (execOp a.eval o).run P w=r at *
 have hdep:(Fence.wide.inRound l).depth.isSome=true->1<=n:=λh=>by simp[Fence.wide]at h
 cases r with
 | ok x w' =>
  cases x<;>simp only[Oper.upon]at h<;>simp only[Oper.uponIn]<;>first
   |exact h.elim
   |exact h
   |exact⟨hdep,Ol h⟩
   |exact⟨hdep,Rr h⟩
 |halt x w'=>cases x<;>simp only[Oper.upon]at h<;>simp only[Oper.uponIn]<;>exact h
theorem yW{l n:Nat}{ops:Array Oper}(hd:ops.toList.all cw=true)(hQ:¬LetsOut Q):∀(L:List Nat) (a:Act) (w:World),wpOps P ops Q L a w->wpOpsIn (Fence.wide.inRound l) n P ops Q L a w
 |[],a,w,h=>h
 | i :: rest,a,w,h => by
  unfold wpOps at h
  unfold wpOpsIn
  split at h
  ·rename_i ho;simp only[ho];exact yW hd hQ rest a w h
  ·rename_i o ho
   simp only[ho]
   have hn:cw o=true:=vao.1 hd o (by
    have:=vb2 ho
    simpa using this)
   split at h
   ·rename_i hw
    rw[vaA hw]
    rcases h with h|h
    ·exact Oper.wpIn_mono (λa w h=>yW hd hQ rest a w h) (HZ hn h)
    ·exact absurd h.2 hQ
   ·rename_i hw
    rw[vaz hw]
    exact⟨λ_ _=>trivial,yW hd hQ rest _ w h⟩
theorem Q9{l n:Nat}{ops:Array Oper}(hd:ops.toList.all cw=true)(hQ:¬LetsOut Q){i:Nat}{K:Act->World->Prop}(h:wpOp P ops Q i K a w):wpOpIn (Fence.wide.inRound l) n P ops Q i K a w:=by
 unfold wpOp at h
 unfold wpOpIn
 split at h
 ·rename_i ho;simp only[ho];exact h
 ·rename_i o ho
  simp only[ho]
  have hn:cw o=true:=vao.1 hd o (by
   have:=vb2 ho
   simpa using this)
  split at h
  ·rename_i hw
   rw[vaA hw]
   rcases h with h|h
   ·exact HZ hn h
   ·exact absurd h.2 hQ
  ·rename_i hw
   rw[vaz hw]
   exact⟨λ_ _=>trivial,h⟩
theorem II{l n:Nat}{md:Region.Mode}{ops:Array Oper}(hd:ops.toList.all cw=true)(hQ:¬LetsOut Q):∀(fuel:Nat) (listed:Array Bool) (a:Act) (w:World),wpAny P md ops Q fuel listed a w->wpAnyIn (Fence.wide.inRound l) n P md ops Q fuel listed a w
 |0,_,_,_,h=>h
 |fuel+1,_,_,_,h=>⟨h.1,λi hi=>wpOpIn_mono (λa w h=>II hd hQ fuel _ a w h) (Q9 hd hQ (h.2 i hi))⟩
theorem Kq{id:Nat}{ops:Array Oper}(hd:ops.toList.all cw=true)(hQ:¬LetsOut Q)(h:wpOps P ops Q (List.range ops.size) a w):Hn ro P (.region id ops false) Q a w:=by
 cases ro with
 |none=>exact wp_region h
 |some l=>exact λn=>wpIn_region (yW hd hQ _ _ _ h)
theorem uz{id:Nat}{ops:Array Oper}(hf:P.follows .mixedOrders=true)(hd:ops.toList.all cw=true)(hQ:¬LetsOut Q)
  (h:wpAny P .any ops Q ops.size (Array.replicate ops.size false) a {w with drawn:=w.drawn+1}):Hn ro P (.region id ops true) Q a w:=by
 cases ro with
 |none=>exact wp_region_any hf h
 |some l=>exact λn=>wpIn_region_any hf (II hd hQ _ _ _ _ h)
end
section plain
variable{σ X:Type}
def mR(body:σ->Option (σ⊕X)):Nat->σ->Option X
 |0,_=>none
 |n+1,s=>match body s with
  |none=>none
  |some (.inl s')=>mR body n s'
  |some (.inr x)=>some x
theorem DT{body:σ->Option (σ⊕X)}:∀{n:Nat} {s:σ} {x:X},mR body n s=some x->∀k,mR body (n+k) s=some x
 |0,_,_,h,_=>by cases h
 | n + 1,s,x,h,k => by
  rw[Nat.add_right_comm]
  unfold mR at h ⊢
  split at h
  ·cases h
  ·exact DT h k
  ·exact h
theorem GA{body:σ->Option (σ⊕X)}{n m:Nat}{s:σ}{x y:X}(h1:mR body n s=some x)(h2:mR body m s=some y):x=y:=by
 have h3:=DT h1 m
 have h4:=DT h2 n
 rw[vcc]at h4
 exact vaw (h3.symm.trans h4)
open Classical in
def O7(body:σ->Option (σ⊕X))(s:σ):Option X:=if h:∃x n,mR body n s=some x then some h.choose else none
def RH:Nat:=2 ^ 200
def loop(body:σ->Option (σ⊕X))(s:σ):Option X:=match mR body RH s with
 |some x=>some x
 |none=>O7 body s
theorem vN{body:σ->Option (σ⊕X)}{s:σ}{x:X}:loop body s=some x↔∃n,mR body n s=some x:=by
 have hC:O7 body s=some x↔∃n,mR body n s=some x:=by
  unfold O7
  constructor
  ·intro h
   split at h
   ·rename_i he;cases h;exact he.choose_spec
   ·cases h
  ·rintro⟨n,h⟩
   have he:∃x n,mR body n s=some x:=⟨x,n,h⟩
   rw[dif_pos he]
   obtain⟨m,hm⟩:=he.choose_spec
   rw[GA hm h]
 unfold loop
 split
 ·rename_i y hy
  exact⟨λh=>⟨RH,hy.trans h⟩,λ⟨n,h⟩=>vbp some (GA hy h)⟩
 ·exact hC
theorem jl(body:σ->Option (σ⊕X))(s:σ):loop body s=match body s with
  |none=>none
  |some (.inl s')=>loop body s'
  |some (.inr x)=>some x:=by
 have key:∀y,loop body s=some y↔(match body s with
  |none=>none
  |some (.inl s')=>loop body s'
  |some (.inr x)=>some x)=some y:=by
  intro y
  rw[vN]
  constructor
  ·rintro⟨n,h⟩
   cases n with
   |zero=>cases h
   | succ n =>
    unfold mR at h
    cases hb:body s with
    |none=>rw[hb]at h;cases h
    |some v=>
     cases v with
     |inl s'=>rw[hb]at h;exact vN.2 ⟨n,h⟩
     |inr x=>rw[hb]at h;exact h
  ·intro h
   cases hb:body s with
   |none=>rw[hb]at h;cases h
   | some v =>
    cases v with
    |inl s'=>
     rw[hb]at h
     obtain⟨n,hn⟩:=vN.1 h
     exact⟨n+1,by unfold mR;rw[hb];exact hn⟩
    |inr x=>rw[hb]at h;exact⟨1,by unfold mR;rw[hb];exact h⟩
 cases h1:loop body s with
 | none =>
  cases h2:(match body s with
   |none=>none
   |some (.inl s')=>loop body s'
   |some (.inr x)=>some x)with
  |none=>rfl
  |some y=>rw[(key y).2 h2]at h1;cases h1
 |some y=>exact((key y).1 h1).symm
def dn{α:Type}(l:List α)(i:Int):Option α:=if 0<=i then l[i.toNat]? else none
theorem Af{α β:Type}{o:Option α}{k:α->Option β}{x:β}(h:o.bind k=some x):∃a,o=some a/\k a=some x:=by
 cases o with
 |none=>cases h
 |some a=>exact⟨a,rfl,h⟩
theorem OI{β:Type}{b:Bool}{x y:Option β}{z:β}(h:(if b=true then x else y)=some z):(b=true/\x=some z)\/(b=false/\y=some z):=by
 cases b
 ·exact .inr ⟨rfl,h⟩
 ·exact .inl ⟨rfl,h⟩
end plain
structure N5(GE:List (Nat×List PVal))(m:Nat)(E:mo):Prop where
 ge:E.GE=GE
 low:∀b n,E.Γ b=some n->b<E.w.heap.size
 nt:m=0->∀b,¬E.T b
 gl:∀g cs,(g,cs)∈GE->VR E.Γ [] E.w (.eptr cs) (.pointer (some ⟨g,0,none⟩))
def cQ(P:Program)(GE:List (Nat×List PVal))(m:Nat)(c:Code)(Q:Exit->az->Prop)(st:az):Prop:=
 ∀(ro:Option Nat) (E:mo) (bs0:bp) (a:Act) (w:World),N5 GE m E->bs0.length=m % 1000->Iv P E bs0 st a w->Hn ro P c (F8 P E bs0 a.defers Q) a w
def EX(e:Exit)(st:az):Exit->az->Prop:=λe' st'=>e'=e/\st'=st
def oQ(P:Program)(m:Nat)(st st':az):Prop:=∀(E:mo) (bs0:bp) (a:Act) (w:World),bs0.length=m % 1000->Iv P E bs0 st a w->Iv P E bs0 st' a w
section
variable{P:Program}{GE:List (Nat×List PVal)}{m:Nat}
theorem oQ.refl(st:az):oQ P m st st:=λ_ _ _ _ _ h=>h
theorem oQ.trans{a b c:az}(h:oQ P m a b)(h':oQ P m b c):oQ P m a c:=λE bs0 x w hb h0=>h' E bs0 x w hb (h E bs0 x w hb h0)
theorem oQ.of_less{st st':az}(h:TB st st')(hm:m % 1000<=st'.boxes.length):oQ P m st st':=λ_ _ _ _ hb hR=>hR.less h (by rw[hb];exact hm)
theorem cQ.mono{c:Code}{Q Q':Exit->az->Prop}{st:az}(h:cQ P GE m c Q st)(hq:∀e st,Q e st->∃st',oQ P m st st'/\Q' e st'):cQ P GE m c Q' st:=
 λro E bs0 a w hE hb hR=>lZ (h ro E bs0 a w hE hb hR) λe a' w' hP=>by
  obtain⟨hd,st1,hR1,hQ⟩:=hP
  obtain⟨st2,hw,hQ2⟩:=hq e st1 hQ
  exact⟨hd,st2,hw E bs0 a' w' hb hR1,hQ2⟩
theorem cQ.imp{c:Code}{Q Q':Exit->az->Prop}{st:az}(h:cQ P GE m c Q st)(hq:∀e st,Q e st->Q' e st):cQ P GE m c Q' st:=h.mono λe st hQ=>⟨st,.refl st,hq e st hQ⟩
theorem cQ.weak{c:Code}{Q:Exit->az->Prop}{st st':az}(hw:oQ P m st st')(h:cQ P GE m c Q st'):cQ P GE m c Q st:=
 λro E bs0 a w hE hb hR=>h ro E bs0 a w hE hb (hw E bs0 a w hb hR)
theorem cQ.skip{Q:Exit->az->Prop}{st:az}(h:Q .normal st):cQ P GE m .skip Q st:=λ_ _ _ _ _ _ _ hR=>OB ⟨rfl,st,hR,h⟩
theorem cQ.label{l:Nat}{Q:Exit->az->Prop}{st:az}(h:Q .normal st):cQ P GE m (.label l) Q st:=λ_ _ _ _ _ _ _ hR=>MM ⟨rfl,st,hR,h⟩
theorem cQ.exit{id:Nat}{Q:Exit->az->Prop}{st:az}(h:Q (.exit id) st):cQ P GE m (.exit id) Q st:=λ_ _ _ _ _ _ _ hR=>Oz ⟨rfl,st,hR,h⟩
theorem cQ.ret{Q:Exit->az->Prop}{st:az}(h:Q .ret st):cQ P GE m .ret Q st:=λ_ _ _ _ _ _ _ hR=>QK ⟨rfl,st,hR,h⟩
theorem cQ.seq{x y:Code}{Q:Exit->az->Prop}{st:az}(h:cQ P GE m x (λe st'=>match e with|.normal=>cQ P GE m y Q st'|e=>Q e st') st):cQ P GE m (.seq x y) Q st:=by
 intro ro E bs0 a w hE hb hR
 refine QL (lZ (h ro E bs0 a w hE hb hR) λe a' w' hq=>?_)
 obtain⟨hd,st',hR',hq⟩:=hq
 cases e with
 |normal=>
  have:=hq ro E bs0 a' w' hE hb hR'
  rw[hd]at this
  exact this
 |exit id=>exact⟨hd,st',hR',hq⟩
 |goto l=>exact⟨hd,st',hR',hq⟩
 |ret=>exact⟨hd,st',hR',hq⟩
 |panic c=>exact⟨hd,st',hR',hq⟩
 |outgrown=>exact⟨hd,st',hR',hq⟩
theorem cQ.cond{c:Operand}{x y:Code}{Q:Exit->az->Prop}{st:az}{t:Bool}(hv:opv GE st.tmps c=.bool t)(h1:t=true->cQ P GE m x Q st)(h2:t=false->cQ P GE m y Q st):cQ P GE m (.cond c x y) Q st:=by
 intro ro E bs0 a w hE hb hR
 obtain⟨Γ,bs,ow,h,hk⟩:=hR
 have hv':=h.opv a.defers c
 rw[hE.ge,hv]at hv'
 generalize hc:(Act.mk a.tmps a.defers).eval c=vc at hv'
 cases hv'
 exact Oy (t:=t) hc (λht=>h1 ht ro E bs0 a w hE hb ⟨Γ,bs,ow,h,hk⟩) (λht=>h2 ht ro E bs0 a w hE hb ⟨Γ,bs,ow,h,hk⟩)
theorem cQ.block{id:Nat}{c:Code}{Q:Exit->az->Prop}{st:az}(h:cQ P GE m c (He id Q) st):cQ P GE m (.block id c) Q st:=by
 intro ro E bs0 a w hE hb hR
 refine ML (lZ (h ro E bs0 a w hE hb hR) λe a' w' hq=>?_)
 obtain⟨hd,st',hR',hq⟩:=hq
 cases e with
 | exit id' =>
  simp only[He]at hq
  simp only[Exit.inBlock]
  split at hq
  ·rename_i hid;rw[vaA hid];exact⟨hd,st',hR',hq⟩
  ·rename_i hid;rw[vaz hid];exact⟨hd,st',hR',hq⟩
 |normal=>exact⟨hd,st',hR',hq⟩
 |goto l=>exact⟨hd,st',hR',hq⟩
 |ret=>exact⟨hd,st',hR',hq⟩
 |panic c=>exact⟨hd,st',hR',hq⟩
 |outgrown=>exact⟨hd,st',hR',hq⟩
theorem cQ.text{A:List Nat}{id:Nat}{ops:Array Oper}{Q:Exit->az->Prop}{st:az}(hd:ops.toList.all cw=true)
  (h:dW P GE A ops (Q .normal) ops.toList st.boxes.length {st with boxes:=st.boxes++dV P ops.toList}):cQ P GE m (.region id ops false) Q st:=by
 intro ro E bs0 a w hE hb hR
 obtain⟨rfl,_,_,_⟩:=hE
 refine lZ (Kq (Q:=λe a' w'=>e=.normal/\F8 P E bs0 a.defers Q .normal a' w') hd (by rintro⟨_,_,h,_⟩;cases h) ?_) λe a' w' hq=>by obtain⟨rfl,hq⟩:=hq;exact hq
 exact wN hR hR.len (λa' w' st' hd hR' hK=>⟨rfl,hd,st',hR',hK⟩) h
def LQ{σ X:Type}(S:σ->az)(ex:X->Exit)(so:X->az):σ⊕X->Exit->az->Prop
 |.inl s,e,st=>e=.normal/\st=S s
 |.inr x,e,st=>e≠.normal/\e=ex x/\st=so x
theorem cQ.loop{σ X:Type}{S:σ->az}{ex:X->Exit}{so:X->az}{body:σ->Option (σ⊕X)}{c:Code}{s:σ}{x:X}(h:loop body s=some x)
  (hb:∀s y,body s=some y->cQ P GE m c (LQ S ex so y) (S s)):cQ P GE m (.loop c) (EX (ex x) (so x)) (S s):=by
 obtain⟨n,hn⟩:=vN.1 h
 intro ro E bs0 a w hE hb0 hR
 refine Dr (λk a' w'=>a'.defers=a.defers/\∃s',Iv P E bs0 (S s') a' w'/\mR body k s'=some x) n ⟨rfl,s,hR,hn⟩ ?_
 intro k a1 w1 hI
 obtain⟨hd1,s1,hR1,hl⟩:=hI
 cases k with
 |zero=>cases hl
 | succ k =>
  unfold mR at hl
  split at hl
  ·cases hl
  ·rename_i s2 hs2
   refine lZ (hb s1 _ hs2 ro E bs0 a1 w1 hE hb0 hR1) λe a' w' hq=>?_
   obtain⟨hd,st',hR',rfl,rfl⟩:=hq
   exact⟨k,vb3 k,hd.trans hd1,s2,hR',hl⟩
  ·rename_i x2 hs2
   cases hl
   refine lZ (hb s1 _ hs2 ro E bs0 a1 w1 hE hb0 hR1) λe a' w' hq=>?_
   obtain⟨hd,st',hR',hne,rfl,rfl⟩:=hq
   have hd':=hd.trans hd1
   cases hex:ex x with
   |normal=>exact absurd hex hne
   |exit id=>exact⟨hd',_,hR',rfl,rfl⟩
   |goto l=>exact⟨hd',_,hR',rfl,rfl⟩
   |ret=>exact⟨hd',_,hR',rfl,rfl⟩
   |panic c=>exact⟨hd',_,hR',rfl,rfl⟩
   |outgrown=>exact⟨hd',_,hR',rfl,rfl⟩
def Gp:List PVal->List PVal->List PVal
 |[],_=>[]
 |_::ps,[]=>.undef::Gp ps []
 |_::ps,.undef::qs=>.undef::Gp ps qs
 |p::ps,_::qs=>p::Gp ps qs
def oR:av->av->av
 |_,.dead=>.dead
 |.cells cs own,.cells _ own'=>.cells cs (match own'.all λx=>decide (x∈own)with
  |true=>own'
  |false=>own)
 |p,_=>p
def J1:List av->List av->List av
 |[],_=>[]
 |p::ps,[]=>p::J1 ps []
 |p::ps,q::qs=>oR p q::J1 ps qs
def Ws(B B':av):Prop:=B=.dead\/B=B'\/∃cs own own',B'=.cells cs own/\B=.cells cs own'/\∀x∈own',x∈own
theorem LT(p q:av):Ws (oR p q) p:=by
 unfold oR
 split
 ·exact .inl rfl
 ·split
  ·rename_i h
   exact .inr (.inr ⟨_,_,_,rfl,rfl,λx hx=>by simpa using vao.1 h x hx⟩)
  ·exact .inr (.inl rfl)
 ·exact .inr (.inl rfl)
theorem I0(p:PVal)(ps qs:List PVal):∃q r,Gp (p::ps) qs=q::Gp ps r/\(q=.undef\/q=p):=by
 cases qs with
 |nil=>exact⟨_,[],by simp[Gp],.inl rfl⟩
 |cons q qs=>cases q<;>first|(refine⟨p,qs,?_,.inr rfl⟩;simp only[Gp];done)|(refine⟨.undef,qs,?_,.inl rfl⟩;simp only[Gp];done)
theorem Hy:∀{l bs:List PVal} {i:Nat} {p:PVal},(Gp l bs)[i]? =some p->p=.undef\/l[i]? =some p
 |[],bs,i,p,h=>by simp[Gp]at h
 |q::l,bs,i,p,h=>by
  obtain⟨q',r,h1,h2⟩:=I0 q l bs
  rw[h1]at h
  cases i with
  |zero=>simp at h;subst h;rcases h2 with h2|h2<;>simp[h2]
  |succ i=>simpa using Hy (by simpa using h)
theorem Hz:∀{l bs:List PVal},(Gp l bs).length=l.length
 |[],bs=>by simp[Gp]
 |q::l,bs=>by obtain⟨q',r,h1,h2⟩:=I0 q l bs;rw[h1];simp[Hz]
theorem CB:∀{l bs:List av} {i:Nat} {B:av},(J1 l bs)[i]? =some B->∃B',l[i]? =some B'/\Ws B B'
 |[],bs,i,p,h=>by simp[J1]at h
 |q::l,[],i,B,h=>by
  simp only[J1]at h
  cases i with
  |zero=>simp at h;subst h;exact⟨q,rfl,.inr (.inl rfl)⟩
  |succ i=>simpa using CB (by simpa using h)
 |q::l,r::bs,i,B,h=>by
  simp only[J1]at h
  cases i with
  |zero=>simp at h;subst h;exact⟨q,rfl,LT q r⟩
  |succ i=>simpa using CB (by simpa using h)
theorem Hx:∀{l bs:List av},(J1 l bs).length=l.length
 |[],bs=>by simp[J1]
 |q::l,[]=>by simp only[J1,vaZ,Hx]
 |q::l,r::bs=>by simp only[J1,vaZ,Hx]
theorem oQ.forget{st:az}(bt:List PVal)(bb:List av)(own:List ((Nat×Nat)×TypeId))(ho:∀x∈own,x∈st.own):oQ P m st ⟨Gp st.tmps bt,J1 st.boxes bb,own⟩:=by
 intro E bs0 a w hb hR
 obtain⟨Γ,bs,ow,h,hk⟩:=hR
 refine⟨Γ,bs,ow,?_,hk⟩
 exact{h with
  sz:=by rw[h.sz];exact Hz.symm
  tm:=λt p v hp hv=>by
   rcases Hy hp with rfl|hp'
   ·exact .undef v
   ·exact h.tm t p v hp' hv
  bl:=by rw[h.bl];exact Hx.symm
  bx:=λi b B hib hB=>by
   obtain⟨B',hB',hx⟩:=CB hB
   obtain⟨k1,k2,k3⟩:=h.bx i b B' hib hB'
   rcases hx with rfl|rfl|⟨cs,own,own',rfl,rfl,_⟩
   ·exact⟨k1,k2,vzz⟩
   ·exact⟨k1,k2,k3⟩
   ·exact⟨k1,k2,k3⟩
  ot:=λt k e he=>h.ot t k e (ho _ he)
  ob:=λi j e cs own' b hB hj hib=>by
   obtain⟨B',hB',hx⟩:=CB hB
   rcases hx with hx|rfl|⟨cs1,own1,own2,rfl,e2,hs⟩
   ·cases hx
   ·exact h.ob i j e cs own' b hB' hj hib
   ·cases e2;exact h.ob i j e _ own1 b hB' (hs _ hj) hib}
theorem EX.of{c:Code}{e:Exit}{st st0:az}{Q:Exit->az->Prop}(h:cQ P GE m c (EX e st0) st)(hq:Q e st0):cQ P GE m c Q st:=
 h.imp λe' st' hx=>by obtain⟨rfl,rfl⟩:=hx;exact hq
end
end Go.Proofs.YtjddnhkahpfhdaaGreatDoor
