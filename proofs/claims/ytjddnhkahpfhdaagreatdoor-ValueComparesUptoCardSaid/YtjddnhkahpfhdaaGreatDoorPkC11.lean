/- PROVED: a part of the proof. Conditions: none. -/
import Derived.Test.YtjddnhkahpfhdaaGreatDoorPkC10
import Derived.Test.YtjddnhkahpfhdaaGreatDoorPkC9
import Derived.Test.YtjddnhkahpfhdaaGreatDoorProg
import Derived.Ground.SlgnProg
import Derived.Ground.SlsfProg
import Derived.Shelf.Lays
import Derived.Shelf.LaysM
import Derived.Shelf.SlGeneric
import Derived.Shelf.SlLaysE0
import Derived.Shelf.SlLaysF0
import Derived.Test.YtjddnhkahpfhdaaGreatDoorPkC8
import Derived.Shelf.Strconv.Itoa3
import Derived.Shelf.Strings.OnBuilder
set_option linter.unusedSimpArgs false
set_option linter.unusedVariables false
noncomputable section
namespace Go.Proofs.YtjddnhkahpfhdaaGreatDoor
open Go Go.RowKit
set_option linter.unusedVariables false
set_option linter.unusedSimpArgs false
abbrev no:Nat->Prop:=λ_=>False
class OkF (F:Fence):Prop where h:∀{P:Program} {n:Nat} {a:Act} {w:World} {next:Act->World->Prop} {Q:Exit->Act->World->Prop} {o:Oper},cw o=true->o.wp P a w next Q->o.wpIn F n P a w next Q
instance okW:OkF Fence.wide:=⟨Nl⟩
instance okR{l:Nat}:OkF (Fence.wide.inRound l):=⟨HZ⟩
theorem bR{F:Fence}{P:Program}{n:Nat}{ops:Array Oper}{Q:Exit->Act->World->Prop}{i:Nat}{rest:List Nat}{o:Oper}{a:Act}{w:World}(ho:ops[i]? =some o)(hg:o.guard=none)(h:o.wpIn F n P a w (wpOpsIn F n P ops Q rest) Q):wpOpsIn F n P ops Q (i::rest) a w:=by
 unfold wpOpsIn
 simp only[ho,Region.wanted,hg,if_true]
 exact h
structure Mv(GE:List (Nat×List PVal))(M:Nat->Prop)(Γ:ax)(w:World)(Γ':ax)(w':World):Prop where
 base:dQ GE Γ' w'
 step:N9 ⟨GE,Γ,w,M⟩ Γ' w'
structure Fr(Γ:ax)(w:World)(a:Array Value)(tm:List PVal):Prop where
 sz:a.size=tm.length
 tm:∀(t:Nat) p v,tm[t]? =some p->a[t]? =some v->VR Γ [] w p v
section
variable{P:Program}{GE:List (Nat×List PVal)}{M M1:Nat->Prop}{Γ Γ1 Γ2 Γ':ax}{w w1 w2 w':World}{a:Array Value}{tm:List PVal}
theorem Mv.refl(hB:dQ GE Γ w):Mv GE M Γ w Γ w:=⟨hB,N9.refl _ _ _ _⟩
theorem Mv.size(h:Mv GE M Γ w Γ' w'):w.heap.size<=w'.heap.size:=h.step.size
theorem Mv.le(h:Mv GE M Γ w Γ' w'):Γ.Le w Γ' w':=h.step.le
theorem Mv.keep(h:Mv GE M Γ w Γ' w'){b:Nat}(hb:b<w.heap.size)(hM:¬M b):w'.heap[b]? =w.heap[b]?:=(h.step.keep b hb hM).1
theorem Mv.gk(h:Mv GE M Γ w Γ' w'){b:Nat}(hb:b<w.heap.size)(hM:¬M b):Γ' b=Γ b:=(h.step.keep b hb hM).2
theorem Mv.trans(h:Mv GE M Γ w Γ1 w1)(h':Mv GE M1 Γ1 w1 Γ2 w2)(hM:∀b,M1 b->M b\/w.heap.size<=b):Mv GE M Γ w Γ2 w2:=⟨h'.base,{
 os:=h'.step.os.trans h.step.os
 tape:=h'.step.tape.trans h.step.tape
 output:=h'.step.output.trans h.step.output
 size:=vav h.step.size h'.step.size
 drawn:=vav h.step.drawn h'.step.drawn
 keep:=λb hb hn=>by
  have hb1:b<w1.heap.size:=vaF hb h.step.size
  have hn1:¬M1 b:=λhx=>(hM b hx).elim hn λhx=>absurd hx (vci.2 hb)
  exact⟨(h'.step.keep b hb1 hn1).1.trans (h.step.keep b hb hn).1,(h'.step.keep b hb1 hn1).2.trans (h.step.keep b hb hn).2⟩
 le:=h.step.le.trans h'.step.le}⟩
theorem Mv.mono(h:Mv GE M1 Γ w Γ1 w1)(hM:∀b,M1 b->M b\/w.heap.size<=b):Mv GE M Γ w Γ1 w1:=⟨h.base,{h.step with keep:=λb hb hn=>h.step.keep b hb λhx=>(hM b hx).elim hn λhx=>absurd hx (vci.2 hb)}⟩
theorem Mv.of{bs:bp}{ow:Nat->Option jx}{st:az}(h:SR P ⟨GE,Γ,w,M⟩ Γ' bs ow w' a st):Mv GE M Γ w Γ' w':=⟨h.base,h.step⟩
theorem Fr.mv(h:Fr Γ w a tm)(hle:Γ.Le w Γ' w'):Fr Γ' w' a tm:=⟨h.sz,λt p v hp hv=>(h.tm t p v hp hv).mono hle (.refl _)⟩
theorem Fr.set(h:Fr Γ w a tm){d:Nat}{p:PVal}{v:Value}(hv:VR Γ [] w p v):Fr Γ w (a.setIfInBounds d v) (tm.set d p):=⟨by simp[h.sz],λt q u hq hu=>by
 simp only[vbh]at hq
 rw[vbc]at hu
 by_cases hdt:d=t
 ·subst hdt
  simp only[if_true]at hq hu
  split at hu
  ·split at hq
   ·cases hu;cases hq;exact hv
   ·cases hq
  ·cases hu
 ·simp only[hdt,if_false]at hq hu
  exact h.tm t q u hq hu⟩
theorem Fr.forget(h:Fr Γ w a tm){tm':List PVal}(hf:Gp tm tm'=tm'):Fr Γ w a tm':=⟨by rw[h.sz,<-Hz (l:=tm) (bs:=tm'),hf],λt p v hp hv=>by
 rw[<-hf]at hp
 rcases Hy hp with rfl|hp'
 ·exact .undef v
 ·exact h.tm t p v hp' hv⟩
theorem Fr.of{E:mo}{bs:bp}{ow:Nat->Option jx}{st:az}(h:SR P E Γ bs ow w a st)(hc:dU 0 st.tmps):Fr Γ w a st.tmps:=⟨h.sz,λt p v hp hv=>(h.tm t p v hp hv).clo (gN hc hp)⟩
theorem Fr.sr(h:Fr Γ w a tm)(hB:dQ GE Γ w)(k:Nat):SR P (Sj GE Γ w) Γ (List.replicate k none) (λ_=>none) w a ⟨tm,List.replicate k .dead,[]⟩:=hB.fresh k h.sz h.tm
theorem Fr.get(h:Fr Γ w a tm){t:Nat}{p:PVal}(hp:tm[t]? =some p):∃v,a[t]? =some v/\VR Γ [] w p v:=by
 have ht:t<a.size:=by rw[h.sz];exact ag hp
 exact⟨a[t],vaE ht,h.tm t p _ hp (vaE ht)⟩
theorem Fr.ev(h:Fr Γ w a tm){t:Nat}{p:PVal}(hp:tm[t]? =some p)(ds:List Deferred):VR Γ [] w p ((Act.mk a ds).eval (.tmp t)):=by
 obtain⟨v,hv,hr⟩:=h.get hp
 rw[show(Act.mk a ds).eval (.tmp t)=v from aL hv]
 exact hr
theorem Fr.evb(h:Fr Γ w a tm){t:Nat}{x:Bool}(hp:tm[t]? =some (.bool x))(ds:List Deferred):(Act.mk a ds).eval (.tmp t)=.bool x:=by
 have:=h.ev hp ds
 generalize (Act.mk a ds).eval (.tmp t)=v at this
 cases this;rfl
theorem Fr.raw(h:Fr Γ w a tm){t:Nat}{u:Value}(hp:tm[t]? =some (.val u)):a[t]? =some u:=by
 obtain⟨v,hv,hr⟩:=h.get hp
 cases hr;exact hv
theorem Fr.piece{k n:Nat}{c:Code}{e:Exit}{st1:az}(hS:cQ P GE 0 c (EX e st1) ⟨tm,List.replicate k .dead,[]⟩)(hB:dQ GE Γ w)(h:Fr Γ w a tm)(ds:List Deferred):c.wpIn Fence.wide n P (λe' a' w'=>e'=e/\a'.defers=ds/\∃Γ' bs' ow',SR P (Sj GE Γ w) Γ' bs' ow' w' a'.tmps st1) ⟨a,ds⟩ w:=by
 refine wpIn_mono (hS.wide hB (h.sr hB k) n ds) ?_
 rintro e' a' w' ⟨hd,Γ',bs',ow',st',h',rfl,rfl⟩
 exact⟨rfl,hd,Γ',bs',ow',h'⟩
theorem Fr.piece0{k n:Nat}{c:Code}{e:Exit}{st1:az}(hS:cQ P GE 0 c (EX e st1) ⟨tm,List.replicate k .dead,[]⟩)(hB:dQ GE Γ w)(h:Fr Γ w a tm)(hc:dU 0 st1.tmps)(ds:List Deferred):c.wpIn Fence.wide n P (λe' a' w'=>e'=e/\a'.defers=ds/\∃Γ',Mv GE no Γ w Γ' w'/\Fr Γ' w' a'.tmps st1.tmps) ⟨a,ds⟩ w:=by
 refine wpIn_mono (h.piece hS hB ds) ?_
 rintro e' a' w' ⟨he,hd,Γ',bs',ow',h'⟩
 exact⟨he,hd,Γ',.of h',.of h' hc⟩
theorem dQ.lt(hB:dQ GE Γ w){b n:Nat}(h:Γ b=some n):b<w.heap.size:=by
 obtain⟨c,t,fr,h1,_⟩:=hB.wi b n h
 exact om h1
theorem dQ.world(hB:dQ GE Γ w)(hle:Γ.Le w Γ' w')(hwi:∀b n,Γ' b=some n->∃c t fr,w'.heap[b]? =some (.cells c t fr)/\n<=c.size)(hsz:w.heap.size<=w'.heap.size)(hg:∀g cs,(g,cs)∈GE->w'.heap[g]? =w.heap[g]?):dQ GE Γ' w' where
 wi:=hwi
 gl:=λg cs h=>(hB.gl g cs h).mono hle (.refl _)
 gc:=hB.gc
 gx:=λg cs h=>by
  obtain⟨h1,c,t,fr,h2,h3⟩:=hB.gx g cs h
  exact⟨vaF h1 hsz,c,t,fr,(hg g cs h).trans h2,h3⟩
end
def nD(GE:List (Nat×List PVal))(Γ:ax)(w:World)(b:Nat):Prop:=Γ b=none/\b<w.heap.size/\∀g cs,(g,cs)∈GE->g≠b
structure fA(P:Program)(GE:List (Nat×List PVal))(e:TypeId)(Γ:ax)(w:World)(cs:List PVal)(n:Nat)(v:Value):Prop where
 row:∃xs,w.ownsRow 0 e (P.cellsOf e) v n xs/\xs.length=cs.length/\(∀u∈xs,u.oneCell'=true)/\∀(i:Nat) p u,cs[i]? =some p->xs[i]? =some u->VR Γ [] w p u
 off:∀b,v.ownBlock=some b->nD GE Γ w b
section
variable{P:Program}{GE:List (Nat×List PVal)}{e:TypeId}{M:Nat->Prop}{Γ Γ':ax}{w w':World}{cs:List PVal}{n:Nat}{v:Value}
theorem nD.mv{b:Nat}(h:nD GE Γ w b)(hm:Mv GE M Γ w Γ' w')(hM:¬M b):nD GE Γ' w' b:=⟨(hm.gk h.2.1 hM).trans h.1,vaF h.2.1 hm.size,h.2.2⟩
theorem fA.mv(h:fA P GE e Γ w cs n v)(hm:Mv GE M Γ w Γ' w')(hM:∀b,v.ownBlock=some b->¬M b):fA P GE e Γ' w' cs n v:=by
 obtain⟨xs,h1,h2,h3,h4⟩:=h.row
 exact⟨⟨xs,yY h1 λb hb=>hm.keep (h.off b hb).2.1 (hM b hb),h2,h3,λi p u hp hu=>(h4 i p u hp hu).mono hm.le (.refl _)⟩,λb hb=>(h.off b hb).mv hm (hM b hb)⟩
theorem Mv.raw(hB:dQ GE Γ w)(hos:w'.os=w.os)(htp:w'.tape=w.tape)(hout:w'.output=w.output)(hsz:w.heap.size<=w'.heap.size)(hdr:dr GE w<=dr GE w')
  (hk:∀b,b<w.heap.size->¬M b->w'.heap[b]? =w.heap[b]?) (hM:∀b,M b->nD GE Γ w b\/w.heap.size<=b):Mv GE M Γ w Γ w':=by
 have hk':∀b n,Γ b=some n->w'.heap[b]? =w.heap[b]?:=λb n hb=>hk b (hB.lt hb) λhm=>by
  rcases hM b hm with h|h
  ·rw[h.1]at hb;cases hb
  ·have:=hB.lt hb;omega
 have hle:Γ.Le w Γ w':=λb n hb _=>⟨n,hb,vaj _,λo _=>bN (hk' b n hb) o⟩
 refine⟨hB.world hle (λb n hb=>?_) hsz (λg cs hg=>?_),⟨hos,htp,hout,hsz,hdr,λb hb hn=>⟨hk b hb hn,rfl⟩,hle⟩⟩
 ·obtain⟨c,t,fr,h1,h2⟩:=hB.wi b n hb
  exact⟨c,t,fr,(hk' b n hb).trans h1,h2⟩
 ·refine hk g (hB.gx g cs hg).1 λhm=>?_
  rcases hM g hm with h|h
  ·exact h.2.2 g cs hg rfl
  ·have:=(hB.gx g cs hg).1;omega
end
theorem Mv.drawn{GE:List (Nat×List PVal)}{M:Nat->Prop}{Γ:ax}{w:World}(hB:dQ GE Γ w)(k:Nat):Mv GE M Γ w Γ {w with drawn:=w.drawn+k}:=Mv.mono (M1:=no) (Mv.raw hB rfl rfl rfl (vaj _) (jV (vbI _ _)) (λ_ _ _=>rfl) (λb hb=>hb.elim)) (λb hb=>hb.elim)
theorem OD{F:Fence}{n:Nat}{P:Program}{ops:Array Oper}{Q:Exit->Act->World->Prop}(hg:∀(i:Nat) (o:Oper),ops[i]? =some o->o.guard=none)
  (hord:∀(k:Nat) (x:Oper),ops[k]? =some x->∀e∈x.after.toList,Region.binds .any e=true->e.on<k) (I:(Nat->Prop)->Act->World->Prop)
  (hstep:∀(L:Nat->Prop) a w i o,I L a w->ops[i]? =some o->¬L i->(∀e∈o.after.toList,Region.binds .any e=true->L e.on)->o.wpIn F n P a w (λa' w'=>I (λj=>L j\/j=i) a' w') Q)
  (hfin:∀L a w,I L a w->(∀i,i<ops.size->L i)->Q .normal a w):
  ∀(fuel:Nat) (listed:Array Bool) (a:Act) (w:World),listed.size=ops.size->I (bj listed) a w->ig ops.size listed<=fuel->wpAnyIn F n P .any ops Q fuel listed a w:=by
 have hready:∀listed:Array Bool,listed.size=ops.size->Region.ready .any ops listed=[]->∀j,j<ops.size->bj listed j:=by
  intro listed hs hr j
  induction j using Nat.strongRecOn with
  | _ j ih =>
   intro hj
   by_cases hl:bj listed j
   ·exact hl
   ·exfalso
    have hoj:ops[j]? =some ops[j]:=by simp[hj]
    have:j∈Region.ready .any ops listed:=mem_ready.2 ⟨by
     unfold bj at hl
     have:j<listed.size:=by omega
     simp[this]at hl ⊢;exact hl,_,hoj,λe he hb=>by
     have hlt:=hord j _ hoj e (by simpa using he) hb
     exact ih e.on hlt (by omega)⟩
    rw[hr]at this;cases this
 intro fuel
 induction fuel with
 | zero =>
  intro listed a w hs hI hu
  have hall:∀j,j<ops.size->bj listed j:=by
   intro j hj
   by_cases hl:bj listed j
   ·exact hl
   ·exfalso
    have:j∈(List.range ops.size).filter λi=>!listed.getD i false:=by
     rw[vaW,vbg]
     exact⟨hj,by unfold bj at hl;simpa using hl⟩
    have:=vcu this
    unfold ig at hu
    omega
  refine⟨?_,hfin _ a w hI hall⟩
  rw[vbj]
  intro j hj
  obtain⟨h0,o,ho,_⟩:=mem_ready.1 hj
  have hlt:=(vaf.1 ho).1
  have:=hall j hlt
  unfold bj at this
  have hls:j<listed.size:=by omega
  simp[hls]at this h0
  rw[this]at h0;cases h0
 | succ fuel ih =>
  intro listed a w hs hI hu
  refine⟨λhr=>hfin _ a w hI (hready listed hs hr),λj hj=>?_⟩
  obtain⟨h0,o,ho,ha⟩:=mem_ready.1 hj
  have hlt:=(vaf.1 ho).1
  have hls:j<listed.size:=by omega
  have hnl:¬bj listed j:=by unfold bj;simp[hls]at h0 ⊢;exact h0
  have hu2:ig ops.size (listed.setIfInBounds j true)<ig ops.size listed:=by
   unfold ig
   refine Bp (λi hi=>?_) (vbg.2 hlt) ?_ ?_
   ·have hnl:¬bj (listed.setIfInBounds j true) i:=by unfold bj;simpa using hi
    have:¬bj listed i:=λhx=>hnl ((cM hls).2 (.inr hx))
    unfold bj at this;simpa using this
   ·simp[hls]at h0;simp[hls,h0]
   ·simp[hls]
  have hw:Region.wanted o (yielded ops a.tmps)=true:=by simp[Region.wanted,hg j o ho]
  unfold wpOpIn
  rw[ho]
  simp only
  rw[vaA hw]
  refine Oper.wpIn_mono (λa' w' hI'=>ih _ a' w' (by simp[hs]) ?_ (by omega)) (hstep (bj listed) a w j o hI ho hnl λe he hb=>ha e (by simpa using he) hb)
  have:(λi=>bj listed i\/i=j)=bj (listed.setIfInBounds j true):=funext λi=>propext ⟨λh=>(cM hls).2 (h.symm.imp_left λh=>h),λh=>((cM hls).1 h).symm.imp_right λh=>h⟩
  rw[<-this]
  exact hI'
theorem Du{F:Fence}{n:Nat}{P:Program}{ops:Array Oper}{id:Nat}{Q:Exit->Act->World->Prop}(hm:P.follows .mixedOrders=true)(hg:ops.toList.all (λo=>o.guard.isNone)=true)
  (hord:(List.range ops.size).all (λk=>((ops[k]?).map λx=>x.after.toList.all λe=>!Region.binds .any e||decide (e.on<k)).getD true)=true) (I:(Nat->Prop)->Act->World->Prop)
  (hstep:∀(L:Nat->Prop) a w i o,I L a w->ops[i]? =some o->¬L i->(∀e∈o.after.toList,Region.binds .any e=true->L e.on)->o.wpIn F n P a w (λa' w'=>I (λj=>L j\/j=i) a' w') Q)
  (hfin:∀L a w,I L a w->(∀i,i<ops.size->L i)->Q .normal a w) {a:Act} {w:World} (h0:I (λ_=>False) a {w with drawn:=w.drawn+1}):(Code.region id ops true).wpIn F n P Q a w:=by
 refine wpIn_region_any hm (OD (λi o ho=>?_) (λk x hx e he hb=>?_) I hstep hfin _ _ _ _ (by simp) ?_ ?_)
 ·have:=vao.1 hg o (by have:=vb2 ho;simpa using this)
  simpa using this
 ·have:=vao.1 hord k (vbg.2 (vaf.1 hx).1)
  rw[hx]at this
  have:=vao.1 (by simpa only[vak,Option.getD_some]using this) e he
  rw[hb]at this
  simpa using this
 ·have:(bj (Array.replicate ops.size false))=λ_=>False:=funext λi=>propext ⟨λh=>by unfold bj at h;rw[vaB,vck]at h;split at h<;>simp at h,λh=>h.elim⟩
  rw[this];exact h0
 ·unfold ig
  refine vav (vcB _ _) ?_
  simp
section
variable{P:Program}{GE:List (Nat×List PVal)}{Γ:ax}{w:World}{a:Array Value}{tm:List PVal}{ds:List Deferred}{n:Nat}{next:Act->World->Prop}{Q:Exit->Act->World->Prop}{Fc:Fence}[hF:OkF Fc]
theorem cC{o:Oper}{v:Value}{w':World}(hd:cw o=true)(h:(execOp (Act.mk a ds).eval o).run P w=.ok (.value v) w')(hn:next ((Act.mk a ds).put o.dst v) w'):o.wpIn Fc n P ⟨a,ds⟩ w next Q:=
 hF.h hd (by unfold Oper.wp;rw[h,Oper.upon_value];exact hn)
theorem ku{o:Oper}{w':World}(hd:cw o=true)(h:(execOp (Act.mk a ds).eval o).run P w=.ok .skip w')(hn:next ((Act.mk a ds).put o.dst undef) w'):o.wpIn Fc n P ⟨a,ds⟩ w next Q:=
 hF.h hd (by unfold Oper.wp;rw[h];exact hn)
theorem Fr.op(h:Fr Γ w a tm)(hB:dQ GE Γ w){o:Oper}{p:PVal}(hd:cw o=true)(hm:aw o.op=false)(hp:iW P o.op 0 (opv GE tm) []=some (p,[]))
  (hn:∀v Γ' w',Mv GE no Γ w Γ' w'->VR Γ' [] w' p v->next ((Act.mk a ds).put o.dst v) w'):o.wpIn Fc n P ⟨a,ds⟩ w next Q:=by
 obtain⟨r,v,w',Γ',bs',hrun,hr,hS,hv,hle,hb,_⟩:=GQ (h.sr (P:=P) hB 0) ds (λhx=>by rw[hm]at hx;cases hx) hp
 have hbs:bs'=[]:=by
  rcases hb with rfl|⟨h1,_⟩
  ·rfl
  ·rw[hm]at h1;cases h1
 subst hbs
 have hx:=hn v Γ' w' (.of hS) hv
 rcases hr with rfl|⟨rfl,rfl⟩
 ·exact cC hd hrun hx
 ·exact ku hd hrun hx
def wc(w:World)(b:Nat)(v:Value):Prop:=∃t,w.heap[b]? =some (.cells #[v] t (0,0))
theorem wc.mv{M:Nat->Prop}{Γ':ax}{w':World}{b:Nat}{v:Value}(h:wc w b v)(hm:Mv GE M Γ w Γ' w')(hM:¬M b):wc w' b v:=by
 obtain⟨t,h⟩:=h
 exact⟨t,(hm.keep (om h) hM).trans h⟩
theorem wc.load{T:TypeId}{b:Nat}{v:Value}(hsc:(P.underlying T).any Mo=true)(h:wc w b v):(Instr.loadAt T (.pointer (some ⟨b,0,none⟩))).run P w=.ok v w:=by
 obtain⟨t,h⟩:=h
 have hcell:w.cell? ⟨b,0,none⟩=some v:=by rw[cell_of_row w b 0 _ t _ h];rfl
 obtain⟨v',hr,hv'⟩:=gz (P:=P) (w:=w) (Γ:=λ_=>none) (bs:=[]) (b:=b) (off:=0) (cs:=[.val v]) (vals:=λ_=>v) (AL hsc _ _)
  (λk q hq=>by
   have hk0:k=0:=by have:=ag hq;simp at this;exact this
   subst hk0;exact hcell)
  (λk q hq=>by
   have hk0:k=0:=by have:=ag hq;simp at this;exact this
   subst hk0;simp at hq;subst hq;exact .val v)
 cases hv'
 simp[Instr.loadAt,Instr.sureAddr,hr]
theorem wc.store{T:TypeId}{b:Nat}{v u:Value}(hB:dQ GE Γ w)(hinf:(P.info? T).isSome=true)(h1:P.cellsOf T=1)(hu:u.oneCell'=true)(h:wc w b v)(ho:nD GE Γ w b):∃w',(Instr.storeAt T (.pointer (some ⟨b,0,none⟩)) u).run P w=.ok () w'/\Mv GE (λx=>x=b) Γ w Γ w'/\wc w' b u:=by
 obtain⟨t,h⟩:=h
 obtain⟨inf,hinf⟩:=vaC.1 hinf
 have hc:u.cells=#[u]:=uo hu
 have hst:=run_storeCells_at P b 0 t [u] 0 #[v] w h (by simp) (by simpa using hu)
 refine⟨w.setRow b #[u],?_,Mv.raw hB rfl rfl rfl (by simp) (vaj _) (λx _ hx=>setRow_other w b x _ hx) (λx hx=>.inl (hx▸ho)),t,?_⟩
 ·simp[Instr.storeAt,Instr.sureAddr,storeVar,run_sizeOf w hinf,hc,h1]
  simpa using hst
 ·exact i7 w b _ _ t _ h
end
structure Tj(P:Program)(T e:TypeId):Prop where
 u:P.underlying T=some (.slice e)
 q:(P.info? e).any (λi=>(i.zero.any λz=>z.cells.size==i.size)&&decide (0<i.size)&&decide (i.bytes<=65536))=true
theorem Tj.get{P:Program}{T e:TypeId}(h:Tj P T e):∃i z,P.info? e=some i/\i.zero=some z/\z.cells.size=i.size/\0<i.size/\i.bytes<=65536/\P.cellsOf e=i.size:=by
 have hq:=h.q
 cases hi:P.info? e with
 |none=>rw[hi]at hq;cases hq
 | some i0 =>
  rw[hi]at hq
  simp only[Option.any_some,vae,vam]at hq
  obtain⟨⟨h1,h2⟩,h3⟩:=hq
  cases hz:i0.zero with
  |none=>rw[hz]at h1;cases h1
  |some z=>
   rw[hz]at h1
   simp only[Option.any_some,vaY]at h1
   exact⟨i0,z,rfl,hz,h1,h2,h3,by simp[Program.cellsOf,hi]⟩
section
variable{P:Program}{GE:List (Nat×List PVal)}{Γ:ax}{w:World}{T e:TypeId}
theorem Pq{zs:List PVal}{x:Value}(hx:VR Γ [] w (.slice [zs]) x)(h1:∀q∈zs,q.one=true):∃(a:Addr) (c:Nat) (news:List Value),x=.slice (some a) 1 c/\news.length=zs.length/\(∀(j:Nat) u,news[j]? =some u->w.cell? (a.add j)=some u)/\(∀u∈news,u.oneCell'=true)/\∀(i:Nat) p u,zs[i]? =some p->news[i]? =some u->VR Γ [] w p u:=by
 cases hx with
 | slice _ b off cap n sz vals hz0 hcap hg hn hsz hc hv =>
  have hget:∀(j:Nat) u,((List.range zs.length).map (vals 0))[j]? =some u->∃p,zs[j]? =some p/\u=vals 0 j:=by
   intro j u hu
   rw[vax]at hu
   by_cases hj:j<zs.length
   ·rw[vbk hj]at hu
    simp only[vak,var]at hu
    exact⟨_,vaa hj,hu.symm⟩
   ·rw[vaU (by simp;omega)]at hu;cases hu
  refine⟨⟨b,off,none⟩,cap,(List.range zs.length).map (vals 0),rfl,by simp,λj u hu=>?_,λu hu=>?_,λi p u hp hu=>?_⟩
  ·obtain⟨p,hp,rfl⟩:=hget j u hu
   have:=hc 0 zs j p rfl hp
   rw[Addr.add_lit]
   simpa using this
  ·obtain⟨j,hj⟩:=vbC hu
   obtain⟨p,hp,rfl⟩:=hget j u hj
   exact VR.one (hv 0 zs j p rfl hp) (h1 p (vaq hp))
  ·obtain⟨p',hp',rfl⟩:=hget i u hu
   rw[hp']at hp;cases hp
   exact hv 0 zs i _ rfl hp'
theorem xk{cs zs:List PVal}{xs news:List Value}(hl:xs.length=cs.length)(h:∀(i:Nat) p u,cs[i]? =some p->xs[i]? =some u->VR Γ [] w p u)(h':∀(i:Nat) p u,zs[i]? =some p->news[i]? =some u->VR Γ [] w p u):∀(i:Nat) p u,(cs++zs)[i]? =some p->(xs++news)[i]? =some u->VR Γ [] w p u:=λi p u hp hu=>by
 by_cases hi:i<cs.length
 ·rw[vac hi]at hp
  rw[vac (by omega)]at hu
  exact h i p u hp hu
 ·rw[vad (by omega)]at hp
  rw[vad (by omega),hl]at hu
  exact h' _ p u hp hu
theorem fA.append(hE:Tj P T e)(hB:dQ GE Γ w){cs zs:List PVal}{k:Nat}{v x:Value}(h:fA P GE e Γ w cs k v)(hx:VR Γ [] w (.slice [zs]) x)(hzl:zs.length=P.cellsOf e)(hzo:∀q∈zs,q.one=true)(hk:k+1<=cy)(ty:TypeId):∃v' w',(Builtin.append_ #[T,T] ty #[v,x]).run P w=.ok v' w'/\Mv GE (λb=>v.ownBlock=some b) Γ w Γ w'/\fA P GE e Γ w' (cs++zs) (k+1) v'/\(∀b,v'.ownBlock=some b->v.ownBlock=some b\/w.heap.size<=b)/\∃g cap,v'=.slice (some ⟨g,0,none⟩) (k+1) cap:=by
 obtain⟨i,z,hi,hz,hzs,hsz,hby,hco⟩:=hE.get
 obtain⟨xs,hown,hxl,hx1,hxv⟩:=h.row
 obtain⟨ad,c,news,rfl,hnl,hnc,hn1,hnv⟩:=Pq hx hzo
 have hnl':news.length=1 * P.cellsOf e:=by rw[vbw,hnl,hzl]
 have hb:(k+1) * i.bytes<=140737488355328:=by
  have:(k+1) * i.bytes<=1073741824 * 65536:=vb0 (by unfold cy at hk;omega) hby
  omega
 obtain⟨v',w',hrun,hcase⟩:=rE (P:=P) (ty:=ty) (m:=1) hE.u hi hz hco.symm (hzs.trans hco.symm) (by rw[hco];exact hsz) hown (.inr ⟨ad,c,rfl,hnc⟩) hnl' hn1 (by unfold maxLen;unfold cy at hk;omega) hb
 have hlen:(xs++news).length=(k+1) * P.cellsOf e:=by rw[vaD,hown.1,hnl',vaN]
 have hcl:(xs++news).length=(cs++zs).length:=by rw[vaD,vaD,hxl,hnl]
 have h1:∀u∈xs++news,u.oneCell'=true:=λu hu=>(vaJ.1 hu).elim (hx1 u) (hn1 u)
 rcases hcase with⟨_,_,h0⟩|⟨g,cap,cur,rfl,hg,hcs,hcm,htake,hroom,rfl,rfl⟩|⟨cap,rest,g1,g2,g3,rfl,rfl⟩
 ·cases h0
 ·have hoff:=h.off g rfl
  have hfit:k * P.cellsOf e+news.length<=cur.toList.length:=by
   have hcl:cur.toList.length=cur.size:=by simp
   rw[hcl,hcs,hnl',<-vaN];exact vaK _ hroom
  have hheap:=i7 w g cur (cur.toList.take (k * P.cellsOf e)++news++cur.toList.drop (k * P.cellsOf e+news.length)).toArray e (0,0) hg
  have hmv:Mv GE (λb=>(Value.slice (some ⟨g,0,none⟩) k cap).ownBlock=some b) Γ w Γ (w.setRow g (cur.toList.take (k * P.cellsOf e)++news++cur.toList.drop (k * P.cellsOf e+news.length)).toArray):=
   Mv.raw hB rfl rfl rfl (by simp) (vaj _) (λb _ hb=>setRow_other w g b _ λe=>hb (by rw[e];rfl)) (λb hb=>.inl (by simp[Value.ownBlock]at hb;subst hb;exact hoff))
  have hsz1:((cur.toList.take (k * P.cellsOf e)++news++cur.toList.drop (k * P.cellsOf e+news.length)).toArray).size=cur.size:=by
   simp only[vbs,vaD,vaV,vbf,Array.length_toList]at hfit ⊢;omega
  have htk:((cur.toList.take (k * P.cellsOf e)++news++cur.toList.drop (k * P.cellsOf e+news.length)).toArray).toList.take ((k+1) * P.cellsOf e)=xs++news:=by
   rw[htake,<-hlen]
   exact vbK
  refine⟨_,_,hrun,hmv,⟨⟨xs++news,⟨hlen,.inr ⟨g,cap,_,rfl,vaQ _,hheap,hroom,hcm,by rw[hsz1,hcs],htk⟩⟩,hcl,h1,xk hxl (λi p u hp hu=>(hxv i p u hp hu).mono hmv.le (.refl _)) λi p u hp hu=>(hnv i p u hp hu).mono hmv.le (.refl _)⟩,λb hb=>?_⟩,λb hb=>.inl hb,g,cap,rfl⟩
  simp[Value.ownBlock]at hb;subst hb
  exact⟨hoff.1,by simpa using hoff.2.1,hoff.2.2⟩
 ·have hcs:(xs++news++rest).toArray.size=cap * P.cellsOf e:=by
   simp only[vbs,vaD,hown.1,hnl',g3,<-vaN];congr 1;omega
  have hheap:(w.drew.alloc (.cells (xs++news++rest).toArray e)).heap[w.heap.size]? =some (.cells (xs++news++rest).toArray e (0,0)):=de w.drew _
  have hmv:Mv GE (λb=>v.ownBlock=some b) Γ w Γ (w.drew.alloc (.cells (xs++news++rest).toArray e)):=
   Mv.raw hB rfl rfl rfl (by simp[World.size_alloc]) (jV (vb7 _)) (λb hb _=>dK w.drew _ hb) (λb hb=>.inl (h.off b hb))
  have htk:((xs++news++rest).toArray).toList.take ((k+1) * P.cellsOf e)=xs++news:=by
   rw[<-hlen]
   exact vbK
  refine⟨_,_,hrun,hmv,⟨⟨xs++news,⟨hlen,.inr ⟨w.heap.size,cap,_,rfl,vaQ _,hheap,g1,g2,hcs,htk⟩⟩,hcl,h1,xk hxl (λi p u hp hu=>(hxv i p u hp hu).mono hmv.le (.refl _)) λi p u hp hu=>(hnv i p u hp hu).mono hmv.le (.refl _)⟩,λb hb=>?_⟩,λb hb=>?_,_,cap,rfl⟩
  ·simp[Value.ownBlock]at hb;subst hb
   refine⟨?_,by simp[World.size_alloc],λg cs hg hx=>?_⟩
   ·cases hΓ:Γ w.heap.size with
    |none=>rfl
    |some m=>exact absurd (hB.lt hΓ) (vbx _)
   ·exact absurd (hx▸(hB.gx g cs hg).1) (vbx _)
  ·simp[Value.ownBlock]at hb;subst hb
   exact .inr (vaj _)
theorem fA.store(hE:Tj P T e)(hB:dQ GE Γ w){cs zs ps:List PVal}{k g cap:Nat}{u:Value}(h:fA P GE e Γ w (cs++zs) (k+1) (.slice (some ⟨g,0,none⟩) (k+1) cap))(hc:cs.length=k * P.cellsOf e)(hzl:zs.length=P.cellsOf e)(hu:VR Γ [] w (.agg ps) u)(hpl:ps.length=P.cellsOf e)(hp1:∀q∈ps,q.one=true):∃w',(Instr.storeAt e (.pointer (some ⟨g,k * P.cellsOf e,none⟩)) u).run P w=.ok () w'/\Mv GE (λb=>b=g) Γ w Γ w'/\fA P GE e Γ w' (cs++ps) (k+1) (.slice (some ⟨g,0,none⟩) (k+1) cap):=by
 obtain⟨i,z,hi,hz,hzs,hsz,hby,hco⟩:=hE.get
 obtain⟨xs,hown,hxl,hx1,hxv⟩:=h.row
 have hoff:=h.off g rfl
 obtain⟨k1,k2⟩:=hu.cells (show bv (.agg ps)=some ps from rfl)
 have hone:∀x∈u.cells.toList,x.oneCell'=true:=by
  intro x hx
  obtain⟨j,hj⟩:=va7.1 hx
  have hj':u.cells[j]? =some x:=by simpa using hj
  have hlt:j<ps.length:=by rw[<-k1];exact(vaf.1 hj').1
  exact VR.one (k2 j _ x (vaa hlt) hj') (hp1 _ (vay hlt))
 rcases hown.2 with⟨hx,_⟩|⟨g',cap',cur,hx,_,hg,hnc,hcm,hcs,htake⟩
 ·cases hx
 cases hx
 have hul:u.cells.toList.length=P.cellsOf e:=by rw[Array.length_toList,k1,hpl]
 have hkm:(k+1) * P.cellsOf e=k * P.cellsOf e+P.cellsOf e:=by rw[vaN,vbw]
 have hle1:(k+1) * P.cellsOf e<=cur.size:=by rw[hcs];exact vaK _ hnc
 have hst:=run_storeCells_at P g (k * P.cellsOf e) e u.cells.toList 0 cur w hg (by rw[hul];omega) hone
 simp only[Nat.add_zero,hul]at hst
 have hheap:=i7 w g cur (cur.toList.take (k * P.cellsOf e)++u.cells.toList++cur.toList.drop (k * P.cellsOf e+P.cellsOf e)).toArray e (0,0) hg
 have hmv:Mv GE (λb=>b=g) Γ w Γ (w.setRow g (cur.toList.take (k * P.cellsOf e)++u.cells.toList++cur.toList.drop (k * P.cellsOf e+P.cellsOf e)).toArray):=
  Mv.raw hB rfl rfl rfl (by simp) (vaj _) (λb _ hb=>setRow_other w g b _ hb) (λb hb=>.inl (hb▸hoff))
 have hxs:xs.take (k * P.cellsOf e)=cur.toList.take (k * P.cellsOf e):=by rw[<-htake,vcG,vcy (by omega)]
 have htl:(cur.toList.take (k * P.cellsOf e)).length=k * P.cellsOf e:=by rw[vaV,Array.length_toList];omega
 have hl2:(cur.toList.take (k * P.cellsOf e)++u.cells.toList).length=(k+1) * P.cellsOf e:=by rw[vaD,htl,hul,hkm]
 refine⟨_,?_,hmv,⟨cur.toList.take (k * P.cellsOf e)++u.cells.toList,⟨hl2,.inr ⟨g,cap,_,rfl,vaQ _,hheap,hnc,hcm,?_,?_⟩⟩,?_,λx hx=>?_,xk (htl.trans hc.symm) (λj p x hp hx=>?_) λj p x hp hx=>?_⟩,λb hb=>?_⟩
 ·simp[Instr.storeAt,Instr.sureAddr,storeVar,run_sizeOf w hi,k1,hpl,hco]
  rw[<-hco];simp only[vcg]at hst;exact hst
 ·rw[<-hcs]
  simp only[vbs,vaD,htl,hul,vbf,Array.length_toList];omega
 ·show(cur.toList.take (k * P.cellsOf e)++u.cells.toList++cur.toList.drop (k * P.cellsOf e+P.cellsOf e)).take ((k+1) * P.cellsOf e)=_
  rw[<-hl2];exact vbK
 ·rw[hl2,vaD,hc,hpl,hkm]
 ·rcases vaJ.1 hx with hx|hx
  ·rw[<-hxs]at hx;exact hx1 x (vbR hx)
  ·exact hone x hx
 ·have hj:j<k * P.cellsOf e:=by rw[<-hc];exact ag hp
  rw[<-hxs,vas hj]at hx
  exact(hxv j p x (by rw[vac (by omega)];exact hp) hx).mono hmv.le (.refl _)
 ·exact(k2 j p x hp (by simpa using hx)).mono hmv.le (.refl _)
 ·simp[Value.ownBlock]at hb;subst hb
  exact⟨hoff.1,by simpa using hoff.2.1,hoff.2.2⟩
theorem fA.cut{cs zs:List PVal}{k g cap:Nat}(h:fA P GE e Γ w (cs++zs) (k+1) (.slice (some ⟨g,0,none⟩) (k+1) cap))(hc:cs.length=k * P.cellsOf e)(hzl:zs.length=P.cellsOf e):fA P GE e Γ w cs k (.slice (some ⟨g,0,none⟩) k cap):=by
 obtain⟨xs,hown,hxl,hx1,hxv⟩:=h.row
 rcases hown.2 with⟨hx,_⟩|⟨g',cap',cur,hx,_,hg,hnc,hcm,hcs,htake⟩
 ·cases hx
 cases hx
 have hkm:(k+1) * P.cellsOf e=k * P.cellsOf e+P.cellsOf e:=by rw[vaN,vbw]
 have hl:=hown.1
 refine⟨⟨xs.take (k * P.cellsOf e),⟨by rw[vaV];omega,.inr ⟨g,cap,cur,rfl,vaQ _,hg,by omega,hcm,hcs,?_⟩⟩,by rw[vaV];omega,λu hu=>hx1 u (vbR hu),λi p u hp hu=>?_⟩,λb hb=>h.off b hb⟩
 ·rw[<-htake,vcG,vcy (by omega)]
 ·have hi:=ag hp
  rw[vas (by omega)]at hu
  exact hxv i p u (by rw[vac hi];exact hp) hu
theorem fA.nil:fA P GE e Γ w [] 0 (.slice none 0 0):=⟨⟨[],World.ownsRow_nil _ _ _ _,rfl,by simp,by simp⟩,λb hb=>by simp[Value.ownBlock]at hb⟩
theorem fA.form{cs:List PVal}{k:Nat}{v:Value}(h:fA P GE e Γ w cs k v):(v=.slice none 0 0/\k=0)\/∃g cap,v=.slice (some ⟨g,0,none⟩) k cap:=by
 obtain⟨xs,hown,_⟩:=h.row
 rcases hown.2 with⟨rfl,rfl⟩|⟨g',cap',cur,rfl,_⟩
 ·exact .inl ⟨rfl,rfl⟩
 ·exact .inr ⟨g',cap',rfl⟩
end
open Go
theorem kK{a:Act}{d t:Nat}{v:Value}:(a.put (some d) v).tmps[t]? =if d=t then(if d<a.tmps.size then some v else none)else a.tmps[t]?:=by
 show(a.tmps.setIfInBounds d v)[t]? =_
 rw[vbc]
theorem JK{a:Act}{d:Nat}{v:Value}:(a.put (some d) v).tmps.size=a.tmps.size:=by
 show(a.tmps.setIfInBounds d v).size=_
 simp
def E9(o:Oper):List Nat:=(o.after.toList.filter λe=>Region.binds .any e).map λe=>e.on
theorem gO{o:Oper}{L:Nat->Prop}{j:Nat}(h:(E9 o).contains j=true)(hL:∀e∈o.after.toList,Region.binds .any e=true->L e.on):L j:=by
 unfold E9 at h
 rw[vbP,vah]at h
 obtain⟨e,he,rfl⟩:=h
 rw[vaW]at he
 exact hL e he.1 he.2
structure R1(T e:TypeId)(ops:Array Oper)(iA iX iS iH dL dN dB dA dX tE pH:Nat)(D:List Nat)(oA oX oS oH:Oper):Prop where
 a:ops[iA]? =some oA
 aop:oA.op=.call {callee:=.builtin .append,args:=#[.tmp dL,.tmp dB],argTypes:=#[T,T]}
 ad:oA.dst=some dA
 x:ops[iX]? =some oX
 xop:oX.op=.indexAddr T (.tmp dA) (.tmp dN)
 xd:oX.dst=some dX
 s:ops[iS]? =some oS
 sop:oS.op=.store e (.tmp dX) (.tmp tE)
 sd:oS.dst=none
 h:ops[iH]? =some oH
 hop:oH.op=.store T (.tmp pH) (.tmp dA)
 hd:oH.dst=none
 ea:(List.range ops.size).all (λj=>j==iA||j==iX||j==iS||j==iH||(E9 oA).contains j)=true
 ex:(E9 oX).contains iA=true
 es:((E9 oS).contains iX&&(E9 oS).contains iA)=true
 eh:(E9 oH).contains iA=true
 dis:(dA !=dN&&dA !=tE&&dA !=pH&&dX !=dA&&dX !=dN&&dX !=tE&&dX !=pH&&D.contains dA&&D.contains dX&&iA !=iX&&iA !=iS&&iA !=iH&&iX !=iS&&iX !=iH&&iS !=iH)=true
section
variable{P:Program}{GE:List (Nat×List PVal)}{n:Nat}{ops:Array Oper}{rid:Nat}{T e:TypeId}{iA iX iS iH dL dN dB dA dX tE pH:Nat}{D:List Nat}{oA oX oS oH:Oper}{Q:Exit->Act->World->Prop}{Fc:Fence}[hF:OkF Fc]
theorem JJ{a:Act}{v:Value}:a.put none v=a:=rfl
theorem Oh(hm:P.follows .mixedOrders=true)(hg:ops.toList.all (λo=>o.guard.isNone)=true)
  (hord:(List.range ops.size).all (λk=>((ops[k]?).map λx=>x.after.toList.all λe=>!Region.binds .any e||decide (e.on<k)).getD true)=true)
  (hE:Tj P T e) (hinf:(P.info? T).isSome=true) (hT1:P.cellsOf T=1) (hR:R1 T e ops iA iX iS iH dL dN dB dA dX tE pH D oA oX oS oH)
  {a0:Array Value} {ds:List Deferred} {Γ0:ax} {w0:World} {cs ps:List PVal} {k kb:Nat} {v:Value} (hB:dQ GE Γ0 w0) (hrow:fA P GE e Γ0 w0 cs k v) (hcs:cs.length=k * P.cellsOf e) (hh:wc w0 kb v) (ho:nD GE Γ0 w0 kb) (hne:v.ownBlock≠some kb)
  (hk:k+1<=cy) (hpl:ps.length=P.cellsOf e) (hp1:∀q∈ps,q.one=true) (IP:(Nat->Prop)->Act->ax->World->Prop)
  (hstep:∀(L:Nat->Prop) a Γ w i o,Mv GE no Γ0 w0 Γ w->IP L a Γ w->a.defers=ds->ops[i]? =some o->i≠iA->i≠iX->i≠iS->i≠iH->¬L i->(∀e∈o.after.toList,Region.binds .any e=true->L e.on)->
   o.wpIn Fc n P a w (λa' w'=>∃Γ',Mv GE no Γ w Γ' w'/\a'.defers=ds/\IP (λj=>L j\/j=i) a' Γ' w') Q)
  (hend:∀(L:Nat->Prop) a Γ w,Mv GE no Γ0 w0 Γ w->IP L a Γ w->(∀j,j<ops.size->j≠iA->j≠iX->j≠iS->j≠iH->L j)->∃zs u x,a.tmps[dL]? =some v/\a.tmps[dN]? =some (.int .i64 (k:Int))/\a.tmps[dB]? =some x/\VR Γ [] w (.slice [zs]) x/\
   zs.length=P.cellsOf e/\(∀q∈zs,q.one=true)/\a.tmps[tE]? =some u/\VR Γ [] w (.agg ps) u/\a.tmps[pH]? =some (.pointer (some ⟨kb,0,none⟩))/\a.tmps.size=a0.size/\∀t,D.contains t=false->a.tmps[t]? =a0[t]?)
  (hszA:dA<a0.size) (hszX:dX<a0.size)
  (h0:∀Γ w,Mv GE no Γ0 w0 Γ w->IP (λ_=>False) ⟨a0,ds⟩ Γ w)
  (hQ:∀a Γ w v',a.defers=ds->Mv GE (λb=>b=kb\/v.ownBlock=some b) Γ0 w0 Γ w->fA P GE e Γ w (cs++ps) (k+1) v'->wc w kb v'->nD GE Γ w kb->v'.ownBlock≠some kb->(∀b,v'.ownBlock=some b->v.ownBlock=some b\/w0.heap.size<=b)->a.tmps.size=a0.size->(∀t,D.contains t=false->a.tmps[t]? =a0[t]?)->Q .normal a w):
  (Code.region rid ops true).wpIn Fc n P Q ⟨a0,ds⟩ w0:=by
 have hdis:=hR.dis
 simp only[vae,bne_iff_ne,ne_eq]at hdis
 obtain⟨⟨⟨⟨⟨⟨⟨⟨⟨⟨⟨⟨⟨⟨d1,d2⟩,d3⟩,d4⟩,d5⟩,d6⟩,d7⟩,d8⟩,d9⟩,q1⟩,q2⟩,q3⟩,q4⟩,q5⟩,q6⟩:=hdis
 have hes:=hR.es
 simp only[vae]at hes
 obtain⟨i,z,hi,hz,hzs,hsz,hby,hco⟩:=hE.get
 refine Du hm hg hord (λL a w=>a.defers=ds/\∃Γ,(¬L iA/\¬L iX/\¬L iS/\¬L iH/\Mv GE no Γ0 w0 Γ w/\IP L a Γ w)\/
  (L iA/\(∀j,j<ops.size->j≠iA->j≠iX->j≠iS->j≠iH->L j)/\(L iS->L iX)/\∃xs g cap u hv,Mv GE (λb=>b=kb\/v.ownBlock=some b) Γ0 w0 Γ w/\fA P GE e Γ w (cs++xs) (k+1) (.slice (some ⟨g,0,none⟩) (k+1) cap)/\xs.length=P.cellsOf e/\(L iS->xs=ps)/\
   wc w kb hv/\(L iH->hv=.slice (some ⟨g,0,none⟩) (k+1) cap)/\nD GE Γ w kb/\g≠kb/\(v.ownBlock=some g\/w0.heap.size<=g)/\a.tmps[dA]? =some (.slice (some ⟨g,0,none⟩) (k+1) cap)/\a.tmps[dN]? =some (.int .i64 (k:Int))/\a.tmps[tE]? =some u/\VR Γ [] w (.agg ps) u/\
   a.tmps[pH]? =some (.pointer (some ⟨kb,0,none⟩))/\a.tmps.size=a0.size/\(L iX->a.tmps[dX]? =some (.pointer (some ⟨g,k * P.cellsOf e,none⟩)))/\∀t,D.contains t=false->a.tmps[t]? =a0[t]?)) ?_ ?_ ?_
 ·rintro L ⟨a,ds'⟩ w j o ⟨rfl,Γ,hI⟩ hj hnl hed
  by_cases hjA:j=iA
  ·have hjA':=hjA.symm
   subst hjA'
   rw[hR.a]at hj;cases hj
   rcases hI with⟨_,nX,nS,nH,hmv,hip⟩|⟨hx,_⟩
   rotate_left
   ·exact absurd hx hnl
   have hall:∀j,j<ops.size->j≠iA->j≠iX->j≠iS->j≠iH->L j:=λj hj h1 h2 h3 h4=>by
    have:=vao.1 hR.ea j (vbg.2 hj)
    simp only[va1,vaY]at this
    exact gO (by rcases this with(((h|h)|h)|h)|h<;>first|exact absurd h h1|exact absurd h h2|exact absurd h h3|exact absurd h h4|exact h) hed
   obtain⟨zs,u,x,e1,e2,e3,e4,e5,e6,e7,e8,e9,e11,e12⟩:=hend L _ Γ w hmv hip hall
   have hrow1:=hrow.mv hmv λb _=>id
   obtain⟨v',w',hrun,hmv',hrow',hown',g,cap,rfl⟩:=hrow1.append hE hmv.base e4 e5 e6 hk oA.type
   have hvL:(Act.mk a ds').eval (.tmp dL)=v:=aL e1
   have hvB:(Act.mk a ds').eval (.tmp dB)=x:=aL e3
   have hkb:¬v.ownBlock=some kb:=hne
   refine cC (by simp[cw,hR.aop]) (v:=.slice (some ⟨g,0,none⟩) (k+1) cap) (w':=w') ?_ ⟨aT _ _ _,Γ,.inr ⟨.inr rfl,λj h1 h2 h3 h4 h5=>.inl (hall j h1 h2 h3 h4 h5),λhx=>(hx.elim nS λh=>absurd h.symm q2).elim,zs,g,cap,u,v,?_⟩⟩
   ·simp only[execOp,hR.aop,resolve,invoke,builtin,Sem.run_bind,Sem.run_pure,Result.andThen_ok,vcT,vaM,vbV,hvL,hvB,hrun]
   ·have hgk:g≠kb:=λh=>(hown' g rfl).elim (λh'=>hne (h▸h')) λh'=>by have:=(ho.mv hmv id).2.1;omega
    have M1:Mv GE (λb=>b=kb\/v.ownBlock=some b) Γ0 w0 Γ w':=(hmv.mono (M:=λb=>b=kb\/v.ownBlock=some b) (λb h=>h.elim)).trans hmv' λb hb=>.inl (.inr hb)
    rw[hR.ad]
    refine⟨M1,hrow',e5,λhx=>(hx.elim nS λh=>absurd h.symm q2).elim,(hh.mv hmv id).mv hmv' hkb,λhx=>(hx.elim nH λh=>absurd h.symm q3).elim,(ho.mv hmv id).mv hmv' hkb,hgk,(hown' g rfl).imp id λh=>vav hmv.size h,?_,?_,?_,e8.mono hmv'.le (.refl _),?_,by rw[JK];exact e11,λhx=>(hx.elim nX λh=>absurd h.symm q1).elim,λt ht=>?_⟩
    ·rw[kK,vaA rfl,vaA (by rw[e11];exact hszA)]
    ·rw[kK,vaz d1];exact e2
    ·rw[kK,vaz d2];exact e7
    ·rw[kK,vaz d3];exact e9
    ·rw[kK,vaz (λh=>by rw[<-h,d8]at ht;cases ht)];exact e12 t ht
  by_cases hjX:j=iX
  ·have hjX':=hjX.symm
   subst hjX'
   rw[hR.x]at hj;cases hj
   have hLA:L iA:=gO hR.ex hed
   rcases hI with⟨hx,_⟩|⟨_,hall,hSX,xs,g,cap,u,hv,f1,f2,f3,f4,f5,f6,f7,f8,f9,f10,f11,f12,f13,f14,f15,f16,f17⟩
   ·exact absurd hLA hx
   have hvA:(Act.mk a ds').eval (.tmp dA)=.slice (some ⟨g,0,none⟩) (k+1) cap:=aL f10
   have hvN:(Act.mk a ds').eval (.tmp dN)=.int .i64 (k:Int):=aL f11
   refine cC (by simp[cw,hR.xop]) (v:=.pointer (some ⟨g,k * P.cellsOf e,none⟩)) (w':=w) ?_ ⟨aT _ _ _,Γ,.inr ⟨.inl hLA,λj h1 h2 h3 h4 h5=>.inl (hall j h1 h2 h3 h4 h5),λhx=>.inr rfl,xs,g,cap,u,hv,f1,f2,f3,λhx=>f4 (hx.elim id λh=>absurd h.symm q4),f5,λhx=>f6 (hx.elim id λh=>absurd h.symm q5),f7,f8,f9,?_,?_,?_,f13,?_,?_,λ_=>?_,λt ht=>?_⟩⟩
   ·simp only[execOp,hR.xop,Sem.run_bind,hvA,hvN]
    have hlt:(k:Int)<((k+1:Nat):Int):=by omega
    simp[Instr.indexAt,run_underlying hE.u,asIntOf,run_sizeOf w hi,hlt,Addr.add_lit,hco]
   all_goals rw[hR.xd]
   ·rw[kK,vaz d4];exact f10
   ·rw[kK,vaz d5];exact f11
   ·rw[kK,vaz d6];exact f12
   ·rw[kK,vaz d7];exact f14
   ·rw[JK];exact f15
   ·rw[kK,vaA rfl,vaA (by rw[f15];exact hszX)]
   ·rw[kK,vaz (λh=>by rw[<-h,d9]at ht;cases ht)];exact f17 t ht
  by_cases hjS:j=iS
  ·have hjS':=hjS.symm
   subst hjS'
   rw[hR.s]at hj;cases hj
   have hLA:L iA:=gO hes.2 hed
   have hLX:L iX:=gO hes.1 hed
   rcases hI with⟨hx,_⟩|⟨_,hall,hSX,xs,g,cap,u,hv,f1,f2,f3,f4,f5,f6,f7,f8,f9,f10,f11,f12,f13,f14,f15,f16,f17⟩
   ·exact absurd hLA hx
   have hvX:(Act.mk a ds').eval (.tmp dX)=.pointer (some ⟨g,k * P.cellsOf e,none⟩):=aL (f16 hLX)
   have hvE:(Act.mk a ds').eval (.tmp tE)=u:=aL f12
   obtain⟨w',hrun,hmv',hrow'⟩:=f2.store hE f1.base hcs f3 f13 hpl hp1
   have hkg:¬kb=g:=λh=>f8 h.symm
   refine ku (by simp[cw,hR.sop]) (w':=w') ?_ ⟨aT _ _ _,Γ,.inr ⟨.inl hLA,λj h1 h2 h3 h4 h5=>.inl (hall j h1 h2 h3 h4 h5),λ_=>.inl hLX,ps,g,cap,u,hv,?_⟩⟩
   ·simp[execOp,hR.sop,hvX,hvE,hrun]
   ·have M1:Mv GE (λb=>b=kb\/v.ownBlock=some b) Γ0 w0 Γ w':=f1.trans hmv' λb hb=>by
     have hb:b=g:=hb
     subst hb
     exact f9.imp .inr id
    rw[hR.sd,JJ]
    exact⟨M1,hrow',hpl,λ_=>rfl,f5.mv hmv' hkg,λhx=>f6 (hx.elim id λh=>absurd h.symm q6),f7.mv hmv' hkg,f8,f9,f10,f11,f12,f13.mono hmv'.le (.refl _),f14,f15,λhx=>f16 hLX,f17⟩
  by_cases hjH:j=iH
  ·have hjH':=hjH.symm
   subst hjH'
   rw[hR.h]at hj;cases hj
   have hLA:L iA:=gO hR.eh hed
   rcases hI with⟨hx,_⟩|⟨_,hall,hSX,xs,g,cap,u,hv,f1,f2,f3,f4,f5,f6,f7,f8,f9,f10,f11,f12,f13,f14,f15,f16,f17⟩
   ·exact absurd hLA hx
   have hvP:(Act.mk a ds').eval (.tmp pH)=.pointer (some ⟨kb,0,none⟩):=aL f14
   have hvA:(Act.mk a ds').eval (.tmp dA)=.slice (some ⟨g,0,none⟩) (k+1) cap:=aL f10
   obtain⟨w',hrun,hmv',hh'⟩:=f5.store (T:=T) (u:=.slice (some ⟨g,0,none⟩) (k+1) cap) f1.base hinf hT1 rfl f7
   refine ku (by simp[cw,hR.hop]) (w':=w') ?_ ⟨aT _ _ _,Γ,.inr ⟨.inl hLA,λj h1 h2 h3 h4 h5=>.inl (hall j h1 h2 h3 h4 h5),λhx=>.inl (hSX (hx.elim id λh=>absurd h q6)),xs,g,cap,u,.slice (some ⟨g,0,none⟩) (k+1) cap,?_⟩⟩
   ·simp[execOp,hR.hop,hvP,hvA,hrun]
   ·have M1:Mv GE (λb=>b=kb\/v.ownBlock=some b) Γ0 w0 Γ w':=f1.trans hmv' λb hb=>.inl (.inl hb)
    have hoff:nD GE Γ w' kb:=⟨f7.1,vaF f7.2.1 hmv'.size,f7.2.2⟩
    rw[hR.hd,JJ]
    exact⟨M1,f2.mv hmv' λb hb=>by
     simp[Value.ownBlock]at hb;subst hb
     exact f8,f3,λhx=>f4 (hx.elim id λh=>absurd h q6),hh',λ_=>rfl,hoff,f8,f9,f10,f11,f12,f13.mono hmv'.le (.refl _),f14,f15,λhx=>f16 (hx.elim id λh=>absurd h q5),f17⟩
  ·rcases hI with⟨nA,nX,nS,nH,hmv,hip⟩|⟨_,hall,_⟩
   ·refine Oper.wpIn_mono (λa' w' hx=>?_) (hstep L _ Γ w j o hmv hip rfl hj hjA hjX hjS hjH hnl hed)
    obtain⟨Γ',hmv',hd',hip'⟩:=hx
    exact⟨hd',Γ',.inl ⟨λh=>h.elim nA λh=>hjA h.symm,λh=>h.elim nX λh=>hjX h.symm,λh=>h.elim nS λh=>hjS h.symm,λh=>h.elim nH λh=>hjH h.symm,hmv.trans hmv' (λb h=>.inl h),hip'⟩⟩
   ·exact absurd (hall j (vaf.1 hj).1 hjA hjX hjS hjH) hnl
 ·rintro L a w ⟨hd,Γ,hI⟩ hall
  have lt:∀{j:Nat} {o:Oper},ops[j]? =some o->j<ops.size:=λh=>(vaf.1 h).1
  rcases hI with⟨nA,_⟩|⟨_,_,hSX,xs,g,cap,u,hv,f1,f2,f3,f4,f5,f6,f7,f8,f9,f10,f11,f12,f13,f14,f15,f16,f17⟩
  ·exact absurd (hall _ (lt hR.a)) nA
  ·obtain rfl:=f4 (hall _ (lt hR.s))
   obtain rfl:=f6 (hall _ (lt hR.h))
   refine hQ a Γ w _ hd f1 f2 f5 f7 (λh=>?_) (λb hb=>?_) f15 f17
   ·simp[Value.ownBlock]at h;exact f8 h
   ·simp[Value.ownBlock]at hb;subst hb;exact f9
 ·have hmv:Mv GE no Γ0 w0 Γ0 {w0 with drawn:=w0.drawn+1}:=Mv.drawn hB 1
  exact⟨rfl,Γ0,.inl ⟨id,id,id,id,hmv,h0 _ _ hmv⟩⟩
end
end Go.Proofs.YtjddnhkahpfhdaaGreatDoor
namespace Go.Proofs
open Go.Shelf
noncomputable def Tryz.laysM171_ren : Go.Shelf.Ren := ⟨fun | 171 => 83 | 243 => 103 | 246 => 128 | 283 => 158 | 284 => 159 | 285 => 160 | 286 => 161 | 129 => 157 | 317 => 180 | 318 => 181 | 319 => 182 | 320 => 183 | 337 => 195 | 338 => 196 | n => n, fun | 3 => 3 | 9 => 9 | 2 => 2 | 4 => 4 | 171 => 218 | 0 => 0 | 53 => 217 | 37 => 150 | 5 => 5 | 173 => 220 | 212 => 238 | 51 => 215 | 20 => 20 | 213 => 239 | 46 => 192 | 232 => 252 | 233 => 253 | n => n, fun | 17 => 1 | 18 => 2 | 19 => 3 | n => n⟩
theorem Tryz.laysM171 : Go.Proofs.LaysM.n171 Tryz.prog Tryz.laysM171_ren := {
 mixed := by kernel_rfl
 f129 := Tryz.func157.trans (congrArg some (by kernel_rfl))
 f171 := Tryz.func83.trans (congrArg some (by kernel_rfl))
 f243 := Tryz.func103.trans (congrArg some (by kernel_rfl))
 f246 := Tryz.func128.trans (congrArg some (by kernel_rfl))
 f283 := Tryz.func158.trans (congrArg some (by kernel_rfl))
 f284 := Tryz.func159.trans (congrArg some (by kernel_rfl))
 f285 := Tryz.func160.trans (congrArg some (by kernel_rfl))
 f286 := Tryz.func161.trans (congrArg some (by kernel_rfl))
 f317 := Tryz.func180.trans (congrArg some (by kernel_rfl))
 f318 := Tryz.func181.trans (congrArg some (by kernel_rfl))
 f319 := Tryz.func182.trans (congrArg some (by kernel_rfl))
 f320 := Tryz.func183.trans (congrArg some (by kernel_rfl))
 f337 := Tryz.func195.trans (congrArg some (by kernel_rfl))
 f338 := Tryz.func196.trans (congrArg some (by kernel_rfl))
 t0 := Tryz.underlying0
 a0 := Tryz.isAgg0
 z0 := Tryz.sizeOf0
 v0 := Tryz.zeroValue0
 t2 := Tryz.underlying2
 a2 := Tryz.isAgg2
 z2 := Tryz.sizeOf2
 v2 := Tryz.zeroValue2
 t3 := Tryz.underlying3
 a3 := Tryz.isAgg3
 z3 := Tryz.sizeOf3
 v3 := Tryz.zeroValue3
 t4 := Tryz.underlying4
 a4 := Tryz.isAgg4
 z4 := Tryz.sizeOf4
 v4 := Tryz.zeroValue4
 t5 := Tryz.underlying5
 a5 := Tryz.isAgg5
 z5 := Tryz.sizeOf5
 v5 := Tryz.zeroValue5
 t9 := Tryz.underlying9
 a9 := Tryz.isAgg9
 z9 := Tryz.sizeOf9
 v9 := Tryz.zeroValue9
 t20 := Tryz.underlying20
 a20 := Tryz.isAgg20
 z20 := Tryz.sizeOf20
 v20 := Tryz.zeroValue20
 t37 := Tryz.underlying150
 a37 := Tryz.isAgg150
 z37 := Tryz.sizeOf150
 v37 := Tryz.zeroValue150
 t46 := Tryz.underlying192
 a46 := Tryz.isAgg192
 z46 := Tryz.sizeOf192
 v46 := Tryz.zeroValue192
 t51 := Tryz.underlying215
 a51 := Tryz.isAgg215
 z51 := Tryz.sizeOf215
 v51 := Tryz.zeroValue215
 t53 := Tryz.underlying217
 a53 := Tryz.isAgg217
 z53 := Tryz.sizeOf217
 v53 := Tryz.zeroValue217
 t171 := Tryz.underlying218
 a171 := Tryz.isAgg218
 z171 := Tryz.sizeOf218
 v171 := Tryz.zeroValue218
 t173 := Tryz.underlying220
 a173 := Tryz.isAgg220
 z173 := Tryz.sizeOf220
 v173 := Tryz.zeroValue220
 t212 := Tryz.underlying238
 a212 := Tryz.isAgg238
 z212 := Tryz.sizeOf238
 v212 := Tryz.zeroValue238
 t213 := Tryz.underlying239
 a213 := Tryz.isAgg239
 z213 := Tryz.sizeOf239
 t232 := Tryz.underlying252
 a232 := Tryz.isAgg252
 z232 := Tryz.sizeOf252
 v232 := Tryz.zeroValue252
 t233 := Tryz.underlying253
 a233 := Tryz.isAgg253
 z233 := Tryz.sizeOf253
 v233 := Tryz.zeroValue253
 g17 := by kernel_rfl
 g18 := by kernel_rfl
 g19 := by kernel_rfl
 i0 := by kernel_rfl
 i2 := by kernel_rfl
 i3 := by kernel_rfl
 i4 := by kernel_rfl
 i5 := by kernel_rfl
 i9 := by kernel_rfl
 i20 := by kernel_rfl
 i37 := by kernel_rfl
 i46 := by kernel_rfl
 i51 := by kernel_rfl
 i53 := by kernel_rfl
 i171 := by kernel_rfl
 i173 := by kernel_rfl
 i212 := by kernel_rfl
 i232 := by kernel_rfl
 i233 := by kernel_rfl
 m17 := by kernel_rfl
 m18 := by kernel_rfl
 m19 := by kernel_rfl }
noncomputable def Tryz.lays156_ren : Go.Shelf.Ren := ⟨fun | 156 => 63 | 165 => 84 | 166 => 85 | 169 => 86 | 240 => 104 | 241 => 105 | 276 => 129 | 277 => 130 | n => n, fun | 31 => 32 | 9 => 9 | 3 => 3 | 4 => 4 | 0 => 0 | 20 => 20 | 72 => 152 | 76 => 156 | 70 => 149 | 37 => 150 | 75 => 155 | 127 => 170 | 164 => 194 | 5 => 5 | 80 => 158 | n => n, fun | n => n⟩
theorem Tryz.lays156 : Go.Proofs.Lays.n156 Tryz.prog Tryz.lays156_ren := {
 mixed := by kernel_rfl
 f156 := Tryz.func63.trans (congrArg some (by kernel_rfl))
 f165 := Tryz.func84.trans (congrArg some (by kernel_rfl))
 f166 := Tryz.func85.trans (congrArg some (by kernel_rfl))
 f169 := Tryz.func86.trans (congrArg some (by kernel_rfl))
 f240 := Tryz.func104.trans (congrArg some (by kernel_rfl))
 f241 := Tryz.func105.trans (congrArg some (by kernel_rfl))
 f276 := Tryz.func129.trans (congrArg some (by kernel_rfl))
 f277 := Tryz.func130.trans (congrArg some (by kernel_rfl))
 t0 := Tryz.underlying0
 a0 := Tryz.isAgg0
 z0 := Tryz.sizeOf0
 v0 := Tryz.zeroValue0
 t3 := Tryz.underlying3
 a3 := Tryz.isAgg3
 z3 := Tryz.sizeOf3
 v3 := Tryz.zeroValue3
 t4 := Tryz.underlying4
 a4 := Tryz.isAgg4
 z4 := Tryz.sizeOf4
 v4 := Tryz.zeroValue4
 t9 := Tryz.underlying9
 a9 := Tryz.isAgg9
 z9 := Tryz.sizeOf9
 v9 := Tryz.zeroValue9
 t20 := Tryz.underlying20
 a20 := Tryz.isAgg20
 z20 := Tryz.sizeOf20
 v20 := Tryz.zeroValue20
 t31 := Tryz.underlying32
 a31 := Tryz.isAgg32
 z31 := Tryz.sizeOf32
 v31 := Tryz.zeroValue32
 t37 := Tryz.underlying150
 a37 := Tryz.isAgg150
 z37 := Tryz.sizeOf150
 v37 := Tryz.zeroValue150
 t70 := Tryz.underlying149
 a70 := Tryz.isAgg149
 z70 := Tryz.sizeOf149
 v70 := Tryz.zeroValue149
 t72 := Tryz.underlying152
 a72 := Tryz.isAgg152
 z72 := Tryz.sizeOf152
 v72 := Tryz.zeroValue152
 t75 := Tryz.underlying155
 a75 := Tryz.isAgg155
 z75 := Tryz.sizeOf155
 v75 := Tryz.zeroValue155
 t76 := Tryz.underlying156
 a76 := Tryz.isAgg156
 z76 := Tryz.sizeOf156
 v76 := Tryz.zeroValue156
 t127 := Tryz.underlying170
 a127 := Tryz.isAgg170
 z127 := Tryz.sizeOf170
 v127 := Tryz.zeroValue170
 t164 := Tryz.underlying194
 a164 := Tryz.isAgg194
 z164 := Tryz.sizeOf194
 v164 := Tryz.zeroValue194 }
noncomputable def Tryz.lc124_ren : Go.Shelf.Ren := ⟨fun | 41 => 124 | n => n, fun | 22 => 31 | 23 => 36 | 4 => 4 | n => n, fun | n => n⟩
theorem Tryz.lc124 : Go.Proofs.SlLaysE0.n41 Tryz.prog Tryz.lc124_ren := {
 mixed := by kernel_rfl
 f41 := ⟨Tryz.f124.name, by decide, Tryz.func124.trans (congrArg some (by kernel_rfl))⟩
 t4 := Tryz.underlying4
 a4 := Tryz.isAgg4
 z4 := Tryz.sizeOf4
 v4 := Tryz.zeroValue4
 t22 := Tryz.underlying31
 a22 := Tryz.isAgg31
 z22 := Tryz.sizeOf31
 v22 := Tryz.zeroValue31 }
noncomputable def Tryz.sf99_ren : Go.Shelf.Ren := ⟨fun | 6 => 99 | 15 => 126 | 14 => 125 | 28 => 156 | 29 => 157 | 20 => 148 | 21 => 149 | 22 => 150 | 23 => 151 | 24 => 152 | 25 => 153 | 26 => 154 | 27 => 155 | 46 => 175 | 47 => 176 | 48 => 177 | 49 => 178 | 50 => 179 | 57 => 194 | n => n, fun | 22 => 31 | 24 => 36 | 25 => 61 | 3 => 3 | 39 => 192 | 0 => 0 | 53 => 215 | 55 => 217 | 4 => 4 | 46 => 209 | 45 => 208 | 50 => 182 | 5 => 5 | 9 => 9 | 66 => 231 | 70 => 235 | 76 => 248 | 77 => 249 | n => n, fun | n => n⟩
theorem Tryz.sf99 : Go.Proofs.SlLaysF0.n6 Tryz.prog Tryz.sf99_ren := {
 mixed := by kernel_rfl
 f6 := ⟨Tryz.f99.name, by decide, Tryz.func99.trans (congrArg some (by kernel_rfl))⟩
 f14 := ⟨Tryz.f125.name, by decide, Tryz.func125.trans (congrArg some (by kernel_rfl))⟩
 f15 := Tryz.func126.trans (congrArg some (by kernel_rfl))
 f20 := ⟨Tryz.f148.name, by decide, Tryz.func148.trans (congrArg some (by kernel_rfl))⟩
 f21 := ⟨Tryz.f149.name, by decide, Tryz.func149.trans (congrArg some (by kernel_rfl))⟩
 f22 := ⟨Tryz.f150.name, by decide, Tryz.func150.trans (congrArg some (by kernel_rfl))⟩
 f23 := ⟨Tryz.f151.name, by decide, Tryz.func151.trans (congrArg some (by kernel_rfl))⟩
 f24 := ⟨Tryz.f152.name, by decide, Tryz.func152.trans (congrArg some (by kernel_rfl))⟩
 f25 := ⟨Tryz.f153.name, by decide, Tryz.func153.trans (congrArg some (by kernel_rfl))⟩
 f26 := ⟨Tryz.f154.name, by decide, Tryz.func154.trans (congrArg some (by kernel_rfl))⟩
 f27 := ⟨Tryz.f155.name, by decide, Tryz.func155.trans (congrArg some (by kernel_rfl))⟩
 f28 := Tryz.func156.trans (congrArg some (by kernel_rfl))
 f29 := Tryz.func157.trans (congrArg some (by kernel_rfl))
 f46 := ⟨Tryz.f175.name, by decide, Tryz.func175.trans (congrArg some (by kernel_rfl))⟩
 f47 := Tryz.func176.trans (congrArg some (by kernel_rfl))
 f48 := Tryz.func177.trans (congrArg some (by kernel_rfl))
 f49 := ⟨Tryz.f178.name, by decide, Tryz.func178.trans (congrArg some (by kernel_rfl))⟩
 f50 := ⟨Tryz.f179.name, by decide, Tryz.func179.trans (congrArg some (by kernel_rfl))⟩
 f57 := ⟨Tryz.f194.name, by decide, Tryz.func194.trans (congrArg some (by kernel_rfl))⟩
 t0 := Tryz.underlying0
 a0 := Tryz.isAgg0
 z0 := Tryz.sizeOf0
 v0 := Tryz.zeroValue0
 t3 := Tryz.underlying3
 a3 := Tryz.isAgg3
 z3 := Tryz.sizeOf3
 v3 := Tryz.zeroValue3
 t4 := Tryz.underlying4
 a4 := Tryz.isAgg4
 z4 := Tryz.sizeOf4
 v4 := Tryz.zeroValue4
 t5 := Tryz.underlying5
 a5 := Tryz.isAgg5
 z5 := Tryz.sizeOf5
 v5 := Tryz.zeroValue5
 t9 := Tryz.underlying9
 a9 := Tryz.isAgg9
 z9 := Tryz.sizeOf9
 v9 := Tryz.zeroValue9
 t22 := Tryz.underlying31
 a22 := Tryz.isAgg31
 z22 := Tryz.sizeOf31
 v22 := Tryz.zeroValue31
 t25 := Tryz.underlying61
 a25 := Tryz.isAgg61
 z25 := Tryz.sizeOf61
 v25 := Tryz.zeroValue61
 t39 := Tryz.underlying192
 a39 := Tryz.isAgg192
 z39 := Tryz.sizeOf192
 v39 := Tryz.zeroValue192
 t45 := Tryz.underlying208
 a45 := Tryz.isAgg208
 z45 := Tryz.sizeOf208
 v45 := Tryz.zeroValue208
 t46 := Tryz.underlying209
 a46 := Tryz.isAgg209
 z46 := Tryz.sizeOf209
 v46 := Tryz.zeroValue209
 t50 := Tryz.underlying182
 a50 := Tryz.isAgg182
 z50 := Tryz.sizeOf182
 v50 := Tryz.zeroValue182
 t53 := Tryz.underlying215
 a53 := Tryz.isAgg215
 z53 := Tryz.sizeOf215
 v53 := Tryz.zeroValue215
 t55 := Tryz.underlying217
 a55 := Tryz.isAgg217
 z55 := Tryz.sizeOf217
 v55 := Tryz.zeroValue217
 t66 := Tryz.underlying231
 a66 := Tryz.isAgg231
 z66 := Tryz.sizeOf231
 v66 := Tryz.zeroValue231
 t70 := Tryz.underlying235
 a70 := Tryz.isAgg235
 z70 := Tryz.sizeOf235
 v70 := Tryz.zeroValue235
 t76 := Tryz.underlying248
 a76 := Tryz.isAgg248
 z76 := Tryz.sizeOf248
 v76 := Tryz.zeroValue248
 t77 := Tryz.underlying249
 a77 := Tryz.isAgg249
 z77 := Tryz.sizeOf249
 v77 := Tryz.zeroValue249 }
end Go.Proofs
namespace Go.Proofs.YtjddnhkahpfhdaaGreatDoor
open Go Go.Proofs.Tryz
set_option linter.unusedVariables false
set_option linter.defProp false
set_option maxRecDepth 100000
theorem Kg:rr Pg 124 36:=MI Tryz.lc124 rfl rfl (by kernel_rfl) call124
def RR(n:Int):Option ai:=if(decide (-9223372036854775808<=n)&&decide (n<=9223372036854775807))=true then some (Lib.itoa n)else none
theorem PM:hU=Lib.pow10Tab:=by kernel_rfl
theorem Q2{n:Int}{r:ai}(h:RR n=some r):CC Pg GE 83 [.int .i64 n] (.str r) []:=by
 rcases OI h with⟨b,h⟩|⟨b,h⟩
 ·obtain rfl:=lf h
  simp only[vae,vam]at b
  refine CC.grownIS call83 λE Γ bs ow w a st hE hS=>?_
  have htab:Lib.TabIs Pg w "internal/strconv.uint64pow10" .u64 Lib.pow10Tab:=Td hS (g:=1) (by rw[hE,←PM];simp[GE]) (by kernel_rfl)
  refine(Any.strconv_Itoa Tryz.laysM171 n b.1 b.2 w htab).mono λe w' he=>?_
  obtain⟨rfl,k,os,rfl⟩:=he
  exact⟨rfl,.of_grow _ _ _⟩
 ·cases h
open Go Go.Shelf Go.RowKit Go.Proofs.Tryz
def OT(l:List ai)(s:ai):Option ai:=if l.length<=1073741824/\(Lib.join l s).length<=1073741824 then some (Lib.join l s)else none
theorem Hu:Builder.Extra Pg Tryz.lays156_ren:={sizeBuilder:=by kernel_rfl,liesBuilder:=by kernel_rfl,t5:=by kernel_rfl,a5:=λw=>by kernel_rfl,z5:=λw=>by kernel_rfl,v5:=λw=>by kernel_rfl,infoByte:=by kernel_rfl,cellsByte:=by kernel_rfl,sizeByte:=by kernel_rfl,neB5:=by decide}
theorem Mz.of_below{w w':World}(h:Below w.heap.size w w'):Mz GE w w':=⟨h.os,h.tape,h.output,h.size,by unfold dr;rw[show U1 GE=false by kernel_rfl];exact vaj _,λb hb=>h.block b hb⟩
theorem OW{l:List ai}{s r:ai}(h:OT l s=some r):CC Pg GE 63 [sl cS l,.str s] (.str r) []:=by
 unfold OT at h
 split at h
 case isFalse=>cases h
 rename_i hl
 cases h
 refine⟨aI (ba Ix l)<|aI vzz vzz,call63,λΓ bs ow w vs hS=>?_⟩
 have hsz:vs.size=2:=hS.sz
 have h0:=hS.tm 0 _ vs[0] rfl (by simp[hsz])
 have h1:=hS.tm 1 _ vs[1] rfl (by simp[hsz])
 generalize hu:vs[0]=u at h0
 generalize hu1:vs[1]=u1 at h1
 have hvs:vs=#[u,u1]:=by
  refine Array.ext (by simp[hsz]) λi hi hi2=>?_
  have:i=0\/i=1:=by simp at hi2;omega
  rcases this with rfl|rfl
  ·simpa using hu
  ·simpa using hu1
 subst hvs
 cases h1
 have hJ:Calls Pg 63 #[u,.string ⟨s.toArray⟩] w λe w'=>e=.returned (.string ⟨(Lib.join l s).toArray⟩)/\Mz GE w w':=by
  unfold sl at h0
  generalize hes:l.map cS=es at h0
  cases h0 with
  |sliceNil=>
   have:l=[]:=by simpa using hes
   subst this
   exact(Any.strings_Join_none Tryz.lays156 Hu none 0 _ w).mono λe w' he=>⟨he.1,he.2▸.of_below (Below.refl _ _)⟩
  |sliceE a cap=>
   have:l=[]:=by simpa using hes
   subst this
   exact(Any.strings_Join_none Tryz.lays156 Hu (some a) cap _ w).mono λe w' he=>⟨he.1,he.2▸.of_below (Below.refl _ _)⟩
  | slice _ b off cap n sz vals q0 q1 q2 q3 q4 q5 q6 =>
   have hm:(l.map λs:ai=>(⟨s.toArray⟩:ByteArray)).map (·.data.toList)=l:=by rw[List.map_map];simp[Function.comp_def]
   have hlen:es.length=(l.map λs:ai=>(⟨s.toArray⟩:ByteArray)).length:=by rw[<-hes];simp
   have hbk:l≠[]->b<w.heap.size:=λ_=>by
    obtain⟨c,t,fr,k1,_⟩:=hS.wi b n q2
    exact(vaf.1 k1).1
   by_cases hl0:l=[]
   ·subst hl0
    simp at hes
    subst hes
    exact(Any.strings_Join_none Tryz.lays156 Hu _ cap _ w).mono λe w' he=>⟨he.1,he.2▸.of_below (Below.refl _ _)⟩
   have hJ:=Any.strings_Join Tryz.lays156 Hu b off cap (l.map λs:ai=>(⟨s.toArray⟩:ByteArray)) ⟨s.toArray⟩ w (λj x hx=>?_) (hbk hl0) (by simp;omega) (by rw[<-hlen];exact q1) (by rw[hm];simp only[];omega)
   ·rw[hm]at hJ
    rw[hlen]
    exact hJ.mono λe w' he=>⟨he.1,.of_below he.2⟩
   ·rw[vax]at hx
    obtain⟨y,hy,rfl⟩:=vaL.1 hx
    have he:es[j]? =some [.str y]:=by rw[<-hes,vax,hy];rfl
    have hz:sz=1:=(q4 j _ he).symm
    subst hz
    have k1:=q5 j _ 0 _ he rfl
    have k2:=q6 j _ 0 _ he rfl
    rw[show off+j * 1+0=off+j by omega]at k1
    rw[k1]
    generalize vals j 0=z at k2
    cases k2
    rfl
 refine hJ.mono λe w' he=>?_
 obtain⟨rfl,hg⟩:=he
 have hbl:bs.length=0:=hS.bl
 obtain rfl:bs=[]:=vai hbl
 have hW:=hS.world (Γ':=Γ) (w':=w') (λ_=>False) (λb m hb _=>⟨m,hb,vaj _,λo _=>bN (hg.keep b (hS.lt_of_ghost hb)) o⟩)
  (λb m hb=>by
   obtain⟨c,t,fr,h1,h2⟩:=hS.wi b m hb
   exact⟨c,t,fr,(hg.keep b (hS.lt_of_ghost hb)).trans h1,h2⟩) hg.os hg.tape hg.output hg.size (λb hb _=>⟨hg.keep b hb,rfl⟩) (λ_ hx=>hx.elim) (λ_ _ _ hx=>hx) (λ_ _ _ hx=>hx) hg.drawn
 refine⟨_,Γ,ow,rfl,{hW with
  sz:=rfl
  tm:=λt p v hp hv=>by
   cases t with
   |zero=>simp at hp hv;subst hp;subst hv;exact .str _
   |succ t=>simp at hp
  ot:=λt k e he=>by simp at he}⟩
end Go.Proofs.YtjddnhkahpfhdaaGreatDoor
