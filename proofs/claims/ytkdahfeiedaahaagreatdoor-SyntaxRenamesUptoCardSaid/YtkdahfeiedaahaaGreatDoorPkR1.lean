/- PROVED: a part of the proof. Conditions: none. -/
import Derived.WalkKit
import Derived.ProofKit
import Derived.Test.YtkdahfeiedaahaaGreatDoorPkR0
set_option linter.unusedSimpArgs false
set_option linter.unusedVariables false
noncomputable section
namespace Go.Proofs.YtkdahfeiedaahaaGreatDoor
open Go
inductive PVal where
 |undef
 |int (k:IntKind) (n:Int)
 |bool (b:Bool)
 |str (s:List UInt8)
 |val (v:Value)
 |agg (cs:List PVal)
 |tuple (vs:List PVal)
 |slice (es:List (List PVal))
 |eptr (cs:List PVal)
 |bptr (i off:Nat)
 |bsl (i off n:Nat)
 |mapr (i:Nat)
 |nptr (i:Nat) (T:TypeId)
 |func (fn:Fn) (first cap:List PVal)
 deriving Inhabited
abbrev aP:=Nat->Option Nat
abbrev be:=List (Option Nat)
inductive VR(Γ:aP)(bs:be)(w:World):PVal->Value->Prop where
 |undef (v:Value):VR Γ bs w .undef v
 |int (k:IntKind) (n:Int):VR Γ bs w (.int k n) (.int k n)
 |bool (b:Bool):VR Γ bs w (.bool b) (.bool b)
 |str (l:List UInt8):VR Γ bs w (.str l) (.string ⟨l.toArray⟩)
 |val (v:Value):VR Γ bs w (.val v) v
 | agg (cs:List PVal) (vs:Array Value) (hl:vs.size = cs.length)
   (h:∀(i:Nat) p v,cs[i]? =some p->vs[i]? =some v->VR Γ bs w p v):VR Γ bs w (.agg cs) (.agg vs)
 | tuple (cs:List PVal) (vs:Array Value) (hl:vs.size = cs.length)
   (h:∀(i:Nat) p v,cs[i]? =some p->vs[i]? =some v->VR Γ bs w p v):VR Γ bs w (.tuple cs) (.tuple vs)
 |sliceNil:VR Γ bs w (.slice []) (.slice none 0 0)
 |sliceE (a:Addr) (cap:Nat):VR Γ bs w (.slice []) (.slice (some a) 0 cap)
 | slice (es:List (List PVal)) (b off cap n sz:Nat) (vals:Nat→Nat→Value) (h0:0 < sz) (hcap:es.length ≤ cap) (hg:Γ b = some n)
   (hn:off+es.length * sz<=n) (hsz:∀(i:Nat) e,es[i]? =some e->e.length=sz)
   (hc:∀(i:Nat) e (k:Nat) p,es[i]? =some e->e[k]? =some p->w.cell? ⟨b,off+i * sz+k,none⟩=some (vals i k))
   (hv:∀(i:Nat) e (k:Nat) p,es[i]? =some e->e[k]? =some p->VR Γ bs w p (vals i k)):
   VR Γ bs w (.slice es) (.slice (some ⟨b,off,none⟩) es.length cap)
 |eptrE (b off:Nat):VR Γ bs w (.eptr []) (.pointer (some ⟨b,off,none⟩))
 | eptr (cs:List PVal) (b off n:Nat) (vals:Nat→Value) (hg:Γ b = some n) (hn:off + cs.length ≤ n)
   (hc:∀(k:Nat) p,cs[k]? =some p->w.cell? ⟨b,off+k,none⟩=some (vals k))
   (hv:∀(k:Nat) p,cs[k]? =some p->VR Γ bs w p (vals k)):
   VR Γ bs w (.eptr cs) (.pointer (some ⟨b,off,none⟩))
 |bptr (i off b:Nat) (h:bs[i]? =some (some b)):VR Γ bs w (.bptr i off) (.pointer (some ⟨b,off,none⟩))
 |bsl (i off n:Nat) (x:Option Addr) (cap:Nat) (hcap:n<=cap) (hnil:x=none->cap=0) (h:n=0\/∃b,x=some ⟨b,off,none⟩/\bs[i]? =some (some b)):VR Γ bs w (.bsl i off n) (.slice x n cap)
 |mapr (i b:Nat) (h:bs[i]? =some (some b)):VR Γ bs w (.mapr i) (.map (some b))
 |nptrN (i:Nat) (T:TypeId):VR Γ bs w (.nptr i T) (.pointer none)
 |nptr (i b:Nat) (T:TypeId) (h:bs[i]? =some (some b)):VR Γ bs w (.nptr i T) (.pointer (some ⟨b,0,none⟩))
 | func (fn:Fn) (first cap:List PVal) (fs cs:Array Value) (hl:fs.size = first.length) (hl':cs.size = cap.length)
   (h:∀(i:Nat) p v,first[i]? =some p->fs[i]? =some v->VR Γ bs w p v)
   (h':∀(i:Nat) p v,cap[i]? =some p->cs[i]? =some v->VR Γ bs w p v):VR Γ bs w (.func fn first cap) (.func fn fs cs)
def aP.Le(Γ:aP)(w:World)(Γ':aP)(w':World):Prop:=
 ∀b n,Γ b=some n->0<n->∃n',Γ' b=some n'/\n<=n'/\∀o,o<n->w'.cell? ⟨b,o,none⟩=w.cell? ⟨b,o,none⟩
theorem aP.Le.refl(Γ:aP)(w:World):Γ.Le w Γ w:=λ_ n h _=>⟨n,h,var _,λ_ _=>rfl⟩
theorem aP.Le.trans{Γ Γ' Γ'':aP}{w w' w'':World}(h:Γ.Le w Γ' w')(h':Γ'.Le w' Γ'' w''):Γ.Le w Γ'' w'':=by
 intro b n hb hp
 obtain⟨n',h1,h2,h3⟩:=h b n hb hp
 obtain⟨n'',h4,h5,h6⟩:=h' b n' h1 (by omega)
 exact⟨n'',h4,by omega,λo ho=>(h6 o (by omega)).trans (h3 o ho)⟩
def be.Sub(bs bs':be):Prop:=∀(i b:Nat),bs[i]? =some (some b)->bs'[i]? =some (some b)
theorem be.Sub.refl(bs:be):bs.Sub bs:=λ_ _ h=>h
theorem PA{i k L sz:Nat}(hi:i<L)(hk:k<sz):i * sz+k<L * sz:=by
 have h:(i+1) * sz<=L * sz:=vaY sz hi
 rw[vbo,vbY]at h
 omega
theorem aq{α:Type}{l:List α}{i:Nat}{x:α}(h:l[i]? =some x):i<l.length:=(vbM.1 h).1
theorem VR.mono{Γ Γ':aP}{bs bs':be}{w w':World}{p:PVal}{v:Value}(h:VR Γ bs w p v)(hle:Γ.Le w Γ' w')(hb:bs.Sub bs'):VR Γ' bs' w' p v:=by
 induction h with
 |undef v=>exact .undef v
 |int k n=>exact .int k n
 |bool b=>exact .bool b
 |str l=>exact .str l
 |val v=>exact .val v
 |agg cs vs hl _ ih=>exact .agg cs vs hl ih
 |tuple cs vs hl _ ih=>exact .tuple cs vs hl ih
 |sliceNil=>exact .sliceNil
 |sliceE a cap=>exact .sliceE a cap
 | slice es b off cap n sz vals h0 hcap hg hn hsz hc _ ih =>
  cases es with
  |nil=>exact .sliceE _ _
  |cons e0 es=>
  have hpos:0<(e0::es).length * sz:=vdd (by simp) h0
  obtain⟨n',h1,h2,h3⟩:=hle b n hg (by omega)
  refine .slice _ b off cap n' sz vals h0 hcap h1 (by omega) hsz (λi e k p he hp=>?_) ih
  rw[h3 _ _]
  ·exact hc i e k p he hp
  ·have:=PA (aq he) (show k<sz by have:=aq hp;rw[hsz i e he]at this;exact this)
   omega
 |eptrE b off=>exact .eptrE b off
 |bsl i off n x cap hcap hnil h=>exact .bsl i off n x cap hcap hnil (h.imp_right λ⟨b,h1,h2⟩=>⟨b,h1,hb i b h2⟩)
 |eptr cs b off n vals hg hn hc _ ih=>
  cases cs with
  |nil=>exact .eptrE _ _
  |cons c0 cs=>
  obtain⟨n',h1,h2,h3⟩:=hle b n hg (by simp at hn;omega)
  refine .eptr _ b off n' vals h1 (by omega) (λk p hp=>?_) ih
  rw[h3 _ (by have:=aq hp;omega)]
  exact hc k p hp
 |bptr i off b h=>exact .bptr i off b (hb i b h)
 |mapr i b h=>exact .mapr i b (hb i b h)
 |nptrN i T=>exact .nptrN i T
 |nptr i b T h=>exact .nptr i b T (hb i b h)
 |func fn first cap fs cs hl hl' _ _ ih ih'=>exact .func fn first cap fs cs hl hl' ih ih'
mutual
def PVal.cl(n:Nat):PVal->Prop
 |.undef|.int _ _|.bool _|.str _|.val _=>True
 |.agg cs=>gZ n cs
 |.tuple cs=>gZ n cs
 |.slice es=>rm n es
 |.eptr cs=>gZ n cs
 |.bptr i _=>i<n
 |.bsl i _ _=>i<n
 |.mapr i=>i<n
 |.nptr i _=>i<n
 |.func _ f c=>gZ n f/\gZ n c
def gZ(n:Nat):List PVal->Prop
 |[]=>True
 |p::ps=>p.cl n/\gZ n ps
def rm(n:Nat):List (List PVal)->Prop
 |[]=>True
 |p::ps=>gZ n p/\rm n ps
end
theorem kr{n:Nat}:∀{l:List PVal} {i:Nat} {p:PVal},gZ n l->l[i]? =some p->p.cl n
 |[],i,p,_,h=>by simp at h
 |q::l,0,p,h,hp=>by simp at hp;subst hp;simp only[gZ]at h;exact h.1
 |q::l,i+1,p,h,hp=>by simp only[gZ]at h;exact kr h.2 (by simpa using hp)
theorem Qz{n:Nat}:∀{l:List (List PVal)} {i:Nat} {p:List PVal},rm n l->l[i]? =some p->gZ n p
 |[],i,p,_,h=>by simp at h
 |q::l,0,p,h,hp=>by simp at hp;subst hp;simp only[rm]at h;exact h.1
 |q::l,i+1,p,h,hp=>by simp only[rm]at h;exact Qz h.2 (by simpa using hp)
theorem Sc{n:Nat}:∀{l:List PVal},(∀p∈l,p.cl n)->gZ n l
 |[],_=>by simp[gZ]
 |p::l,h=>by simp only[gZ];exact⟨h p (by simp),Sc λq hq=>h q (by simp[hq])⟩
theorem JL{n:Nat}:∀{l:List (List PVal)},(∀p∈l,gZ n p)->rm n l
 |[],_=>by simp[rm]
 |p::l,h=>by simp only[rm];exact⟨h p (by simp),JL λq hq=>h q (by simp[hq])⟩
theorem VR.restrict{Γ:aP}{bs bs':be}{w:World}{p:PVal}{v:Value}{n:Nat}(h:VR Γ bs w p v)(hc:p.cl n)
  (hb:∀(i b:Nat),i<n->bs[i]? =some (some b)->bs'[i]? =some (some b)):VR Γ bs' w p v:=by
 induction h with
 |undef v=>exact .undef v
 |int k n=>exact .int k n
 |bool b=>exact .bool b
 |str l=>exact .str l
 |val v=>exact .val v
 |agg cs vs hl _ ih=>simp only[PVal.cl]at hc;exact .agg cs vs hl λi p v hp hv=>ih i p v hp hv (kr hc hp)
 |tuple cs vs hl _ ih=>simp only[PVal.cl]at hc;exact .tuple cs vs hl λi p v hp hv=>ih i p v hp hv (kr hc hp)
 |sliceNil=>exact .sliceNil
 |sliceE a cap=>exact .sliceE a cap
 |slice es b off cap n sz vals h0 hcap hg hn hsz hcc _ ih=>
  simp only[PVal.cl]at hc
  exact .slice es b off cap n sz vals h0 hcap hg hn hsz hcc λi e k p he hp=>ih i e k p he hp (kr (Qz hc he) hp)
 |eptrE b off=>exact .eptrE b off
 |bsl i off k x cap hcap hnil h=>simp only[PVal.cl]at hc;exact .bsl i off k x cap hcap hnil (h.imp_right λ⟨b,h1,h2⟩=>⟨b,h1,hb i b hc h2⟩)
 |eptr cs b off n vals hg hn hcc _ ih=>
  simp only[PVal.cl]at hc
  exact .eptr cs b off n vals hg hn hcc λk p hp=>ih k p hp (kr hc hp)
 |bptr i off b h=>simp only[PVal.cl]at hc;exact .bptr i off b (hb i b hc h)
 |mapr i b h=>simp only[PVal.cl]at hc;exact .mapr i b (hb i b hc h)
 |nptrN i T=>exact .nptrN i T
 |nptr i b T h=>simp only[PVal.cl]at hc;exact .nptr i b T (hb i b hc h)
 |func fn first cap fs cs hl hl' _ _ ih ih'=>
  simp only[PVal.cl]at hc
  exact .func fn first cap fs cs hl hl' (λi p v hp hv=>ih i p v hp hv (kr hc.1 hp)) (λi p v hp hv=>ih' i p v hp hv (kr hc.2 hp))
theorem VR.demote{Γ Γ':aP}{bs:be}{w:World}{p:PVal}{v:Value}(h:VR Γ bs w p v)(hg:∀b n,Γ b=some n->0<n->Γ' b=some n):VR Γ' bs w p v:=by
 induction h with
 |undef v=>exact .undef v
 |int k n=>exact .int k n
 |bool b=>exact .bool b
 |str l=>exact .str l
 |val v=>exact .val v
 |agg cs vs hl _ ih=>exact .agg cs vs hl ih
 |tuple cs vs hl _ ih=>exact .tuple cs vs hl ih
 |sliceNil=>exact .sliceNil
 |sliceE a cap=>exact .sliceE a cap
 | slice es b off cap n sz vals h0 hcap hgb hn hsz hc _ ih =>
  cases es with
  |nil=>exact .sliceE _ _
  |cons e es=>
   have:0<(e::es).length * sz:=vdd (by simp) h0
   exact .slice _ b off cap n sz vals h0 hcap (hg b n hgb (by omega)) hn hsz hc ih
 |eptrE b off=>exact .eptrE b off
 |bsl i off n x cap hcap hnil h=>exact .bsl i off n x cap hcap hnil h
 |eptr cs b off n vals hgb hn hc _ ih=>
  cases cs with
  |nil=>exact .eptrE _ _
  |cons c cs=>exact .eptr _ b off n vals (hg b n hgb (by simp at hn;omega)) hn hc ih
 |bptr i off b h=>exact .bptr i off b h
 |mapr i b h=>exact .mapr i b h
 |nptrN i T=>exact .nptrN i T
 |nptr i b T h=>exact .nptr i b T h
 |func fn first cap fs cs hl hl' _ _ ih ih'=>exact .func fn first cap fs cs hl hl' ih ih'
inductive aA where
 |cells (cs:List PVal) (own:List (Nat×TypeId))
 |map (es:List (PVal×PVal))
 |dead
 deriving Inhabited
structure aB where
 tmps:List PVal
 boxes:List aA
 own:List ((Nat×Nat)×TypeId)
inductive iL where
 |tmp (t k:Nat)
 |box (i j:Nat)
 deriving DecidableEq
structure lh where
 GE:List (Nat×List PVal)
 Γ:aP
 w:World
 T:Nat->Prop
def qed:Value->Nat->Option Value
 |.slice none _ _,_=>some (.slice none 0 0)
 |.slice (some a) n cap,k=>if cap=0 then some (.slice none 0 0)else if a.off % k=0 then some (.slice (some ⟨a.block,0,a.spot⟩) (n+a.off / k) (cap+a.off / k))else none
 |_,_=>none
def jU:Value->Nat->Option Value
 |.tuple vs,k=>vs[k]?
 |.agg vs,k=>vs[k]?
 |v,k=>if k=0 then some v else qed v k
def fR(P:Program)(Γ:aP)(w:World)(v:Value)(e:TypeId):Prop:=
 ∃n xs,w.ownsRow 0 e (P.cellsOf e) v n xs/\∀b,v.ownBlock=some b->Γ b=some (n * P.cellsOf e)
def J1(ents:Array MapEntry)(clock:Nat):Prop:=(ents.toList.map (·.born)).Nodup/\∀x∈ents.toList,x.born<clock
def D1(cs:List PVal)(t:TypeId)(n:Nat):Prop:=∀(j i:Nat) T,cs[j]? =some (.nptr i T)->t=T/\n=cs.length
def BR(Γ:aP)(bs:be)(w:World):aA->Nat->Prop
 |.cells cs _,b=>∃c t,w.heap[b]? =some (.cells c t (0,0))/\cs.length<=c.size/\(∀(j:Nat) p v,cs[j]? =some p->c[j]? =some v->VR Γ bs w p v)/\D1 cs t c.size
 | .map es,b => ∃ ents clock,w.heap[b]? = some (.map ents clock)∧ents.size = es.length ∧
   (∀(j:Nat) k u x,es[j]? =some (k,u)->ents[j]? =some x->VR Γ bs w k x.key/\VR Γ bs w u x.val)/\J1 ents clock
 |.dead,_=>True
set_option linter.unusedVariables false in
abbrev dr(w:World):Nat:=0
set_option linter.unusedVariables false in
theorem E9{w w':World}(h:w.drawn<=w'.drawn):dr w<=dr w':=by first|exact h|exact var _
structure Zz(E:lh)(Γ:aP)(w:World):Prop where
 os:w.os=E.w.os
 tape:w.tape=E.w.tape
 output:w.output=E.w.output
 size:E.w.heap.size<=w.heap.size
 drawn:dr E.w<=dr w
 keep:∀b,b<E.w.heap.size->¬E.T b->w.heap[b]? =E.w.heap[b]?/\Γ b=E.Γ b
 le:E.Γ.Le E.w Γ w
structure SR(P:Program)(E:lh)(Γ:aP)(bs:be)(ow:Nat->Option iL)(w:World)(a:Array Value)(st:aB):Prop where
 wi:∀b n,Γ b=some n->∃c t fr,w.heap[b]? =some (.cells c t fr)/\n<=c.size
 sz:a.size=st.tmps.length
 tm:∀(t:Nat) p v,st.tmps[t]? =some p->a[t]? =some v->VR Γ bs w p v
 bl:bs.length=st.boxes.length
 bx:∀(i b:Nat) B,bs[i]? =some (some b)->st.boxes[i]? =some B->Γ b=none/\b<w.heap.size/\BR Γ bs w B b
 inj:∀(i j b:Nat),bs[i]? =some (some b)->bs[j]? =some (some b)->i=j
 bn:∀(i b:Nat),bs[i]? =some (some b)->E.T b\/E.w.heap.size<=b
 on:∀b L,ow b=some L->b<w.heap.size/\(E.T b\/E.w.heap.size<=b)
 ot:∀t k e,((t,k),e)∈st.own->∃u v,a[t]? =some u/\jU u k=some v/\fR P Γ w v e/\∀b,v.ownBlock=some b->ow b=some (.tmp t k)
 ob:∀(i j:Nat) e cs own (b:Nat),st.boxes[i]? =some (.cells cs own)->(j,e)∈own->bs[i]? =some (some b)->
  ∃v,w.cell? ⟨b,j,none⟩=some v/\fR P Γ w v e/\∀b',v.ownBlock=some b'->ow b'=some (.box i j)
 gl:∀g cs,(g,cs)∈E.GE->VR Γ bs w (.eptr cs) (.pointer (some ⟨g,0,none⟩))
 gc:∀g cs,(g,cs)∈E.GE->gZ 0 cs
 gx:∀g cs,(g,cs)∈E.GE->g<E.w.heap.size/\¬E.T g/\∃c t fr,E.w.heap[g]? =some (.cells c t fr)/\c.size=cs.length
 step:Zz E Γ w
theorem BR.mono{Γ Γ':aP}{bs bs':be}{w w':World}{B:aA}{b:Nat}(h:BR Γ bs w B b)(hle:Γ.Le w Γ' w')(hb:bs.Sub bs')
  (hh:w'.heap[b]? =w.heap[b]?):BR Γ' bs' w' B b:=by
 cases B with
 |cells cs own=>
  obtain⟨c,t,h1,h2,h3,h4⟩:=h
  exact⟨c,t,hh.trans h1,h2,λj p v hp hv=>(h3 j p v hp hv).mono hle hb,h4⟩
 |map es=>
  obtain⟨c,t,h1,h2,h3,h4⟩:=h
  exact⟨c,t,hh.trans h1,h2,λj k u x hp hv=>⟨(h3 j k u x hp hv).1.mono hle hb,(h3 j k u x hp hv).2.mono hle hb⟩,h4⟩
 |dead=>trivial
theorem PL{w w':World}{base:Nat}{e:TypeId}{size:Nat}{v:Value}{n:Nat}{xs:List Value}(h:w.ownsRow base e size v n xs)
  (hb:∀b,v.ownBlock=some b->w'.heap[b]? =w.heap[b]?):w'.ownsRow base e size v n xs:=by
 obtain⟨h1,h2⟩:=h
 refine⟨h1,?_⟩
 rcases h2 with h2|⟨g,cap,cur,rfl,hg,hh,r⟩
 ·exact .inl h2
 ·exact .inr ⟨g,cap,cur,rfl,hg,(hb g rfl).trans hh,r⟩
theorem fR.same{P:Program}{Γ Γ':aP}{w w':World}{v:Value}{e:TypeId}(h:fR P Γ w v e)
  (hb:∀b,v.ownBlock=some b->w'.heap[b]? =w.heap[b]?/\Γ' b=Γ b):fR P Γ' w' v e:=by
 obtain⟨n,xs,h1,h2⟩:=h
 exact⟨n,xs,PL h1 λb h=>(hb b h).1,λb h=>(hb b h).2.trans (h2 b h)⟩
theorem fR.lt{P:Program}{Γ:aP}{w:World}{v:Value}{e:TypeId}(h:fR P Γ w v e){b:Nat}(hb:v.ownBlock=some b):b<w.heap.size:=by
 obtain⟨n,xs,h1,_⟩:=h
 exact(h1.lt b hb).2
theorem bZ{w w':World}{b:Nat}(h:w'.heap[b]? =w.heap[b]?)(o:Nat):w'.cell? ⟨b,o,none⟩=w.cell? ⟨b,o,none⟩:=World.cell?_of_block (a:=⟨b,o,none⟩) h
section
variable{P:Program}{E:lh}{Γ:aP}{bs:be}{ow:Nat->Option iL}{w:World}{a:Array Value}{st:aB}
theorem SR.world(h:SR P E Γ bs ow w a st){Γ':aP}{w':World}(M:Nat->Prop)(hle:Γ.Le w Γ' w')
  (hwi:∀b n,Γ' b=some n->∃c t fr,w'.heap[b]? =some (.cells c t fr)/\n<=c.size)
  (hos:w'.os=w.os) (htp:w'.tape=w.tape) (hout:w'.output=w.output) (hsz:w.heap.size<=w'.heap.size)
  (hk:∀b,b<w.heap.size->¬M b->w'.heap[b]? =w.heap[b]?/\Γ' b=Γ b)
  (hM:∀b,M b->E.T b\/E.w.heap.size<=b) (hMb:∀(i b:Nat),bs[i]? =some (some b)->¬M b) (hMo:∀b L,ow b=some L->¬M b) (hdr:dr w<=dr w':=by first|exact var _|exact vca _|exact vbB _ _|assumption|omega):
  SR P E Γ' bs ow w' a st:={
 wi:=hwi
 sz:=h.sz
 tm:=λt p v hp hv=>(h.tm t p v hp hv).mono hle (.refl _)
 bl:=h.bl
 bx:=λi b B hb hB=>by
  obtain⟨h1,h2,h3⟩:=h.bx i b B hb hB
  have hm:=hk b h2 (hMb i b hb)
  exact⟨hm.2.trans h1,by omega,h3.mono hle (.refl _) hm.1⟩
 inj:=h.inj
 bn:=h.bn
 on:=λb L hL=>⟨vaM (h.on b L hL).1 hsz,(h.on b L hL).2⟩
 ot:=λt k e he=>by
  obtain⟨u,v,h1,h2,h3,h4⟩:=h.ot t k e he
  exact⟨u,v,h1,h2,h3.same λb hb=>hk b (h3.lt hb) (hMo b _ (h4 b hb)),h4⟩
 ob:=λi j e cs own b hB hj hb=>by
  obtain⟨v,h1,h3,h4⟩:=h.ob i j e cs own b hB hj hb
  have hbl:=(h.bx i b _ hb hB).2.1
  exact⟨v,(bZ (hk b hbl (hMb i b hb)).1 j).trans h1,h3.same λb hb=>hk b (h3.lt hb) (hMo b _ (h4 b hb)),h4⟩
 gl:=λg cs hg=>(h.gl g cs hg).mono hle (.refl _)
 gc:=h.gc
 gx:=h.gx
 step:={
  os:=hos.trans h.step.os
  tape:=htp.trans h.step.tape
  output:=hout.trans h.step.output
  size:=vaH h.step.size hsz
  drawn:=vaH h.step.drawn hdr
  keep:=λb hb hT=>by
   have hnM:¬M b:=λhm=>(hM b hm).elim hT (λhx=>by omega)
   have hlt:b<w.heap.size:=vaM hb h.step.size
   obtain⟨k1,k2⟩:=h.step.keep b hb hT
   exact⟨(hk b hlt hnM).1.trans k1,(hk b hlt hnM).2.trans k2⟩
  le:=h.step.le.trans hle}}
theorem SR.gnow(h:SR P E Γ bs ow w a st){g:Nat}{cs:List PVal}(hg:(g,cs)∈E.GE):g<w.heap.size/\(∀i b:Nat,bs[i]? =some (some b)->g≠b)/\ow g=none/\∃c t fr,w.heap[g]? =some (.cells c t fr)/\c.size=cs.length:=by
 obtain⟨h1,h2,c,t,fr,h3,h4⟩:=h.gx g cs hg
 refine⟨vaM h1 h.step.size,λi b hb e=>?_,?_,c,t,fr,((h.step.keep g h1 h2).1).trans h3,h4⟩
 ·subst e
  rcases h.bn i g hb with h5|h5
  ·exact h2 h5
  ·omega
 ·cases hL:ow g with
  |none=>rfl
  | some L =>
   rcases(h.on g L hL).2 with h5|h5
   ·exact absurd h5 h2
   ·omega
theorem bK{α:Type}{p:α->Bool}{l:List α}{x:α}(h:x∈l.filter p):x∈l/\p x=true:=by simpa using h
theorem SR.less(h:SR P E Γ bs ow w a st){own:List ((Nat×Nat)×TypeId)}(hs:∀x∈own,x∈st.own):SR P E Γ bs ow w a {st with own:=own}:=
 {h with ot:=λt k e he=>h.ot t k e (hs _ he),tm:=h.tm,bx:=h.bx,ob:=h.ob,sz:=h.sz,bl:=h.bl}
theorem SR.ow_drop(h:SR P E Γ bs ow w a st){ow':Nat->Option iL}(hs:∀b L,ow' b=some L->ow b=some L)
  (ht:∀t k e,((t,k),e)∈st.own->∀b,ow b=some (.tmp t k)->ow' b=some (.tmp t k))
  (hb:∀(i j:Nat) e cs own,st.boxes[i]? =some (.cells cs own)->(j,e)∈own->∀b,ow b=some (.box i j)->ow' b=some (.box i j)):
  SR P E Γ bs ow' w a st:=
 { h with
  on:=λb L hL=>h.on b L (hs b L hL)
  ot:=λt k e he=>by
   obtain⟨u,v,h1,h2,h3,h4⟩:=h.ot t k e he
   exact⟨u,v,h1,h2,h3,λb hb'=>ht t k e he b (h4 b hb')⟩
  ob:=λi j e cs own b hB hj hbb=>by
   obtain⟨v,h1,h3,h4⟩:=h.ob i j e cs own b hB hj hbb
   exact⟨v,h1,h3,λb' hb'=>hb i j e cs own hB hj b' (h4 b' hb')⟩}
def bu(d:Nat)(own:List ((Nat×Nat)×TypeId)):List ((Nat×Nat)×TypeId):=own.filter λx=>x.1.1 !=d
theorem cE{d:Nat}{own:List ((Nat×Nat)×TypeId)}{x:(Nat×Nat)×TypeId}(h:x∈bu d own):x∈own/\x.1.1≠d:=by
 simpa[bu]using h
theorem SR.set(h:SR P E Γ bs ow w a st){d:Nat}{p:PVal}{v:Value}(hv:VR Γ bs w p v):SR P E Γ bs ow w (a.setIfInBounds d v) {st with tmps:=st.tmps.set d p,own:=bu d st.own}:=
 { h with
  sz:=by simp[h.sz]
  tm:=λt q u hq hu=>by
   simp only[vbc]at hq
   rw[vbt]at hu
   by_cases hdt:d=t
   ·subst hdt
    simp only[if_true]at hq hu
    split at hu
    ·split at hq
     ·cases hu;cases hq;exact hv
     ·cases hq
    ·cases hu
   ·simp only[hdt,if_false]at hq hu
    exact h.tm t q u hq hu
  ot:=λt k e he=>by
   obtain⟨he,hd⟩:=cE he
   obtain⟨u,v',h1,h2,h3,h4⟩:=h.ot t k e he
   refine⟨u,v',?_,h2,h3,h4⟩
   rw[vaV (λe=>hd e.symm)]
   exact h1}
end
section
variable{P:Program}{E:lh}{Γ:aP}{bs:be}{ow:Nat->Option iL}{w:World}{a:Array Value}{st:aB}
theorem SR.addOwn(h:SR P E Γ bs ow w a st){d k:Nat}{e:TypeId}{u v:Value}(hu:a[d]? =some u)(hv:jU u k=some v)(ho:fR P Γ w v e)
  (hf:∀b,v.ownBlock=some b->ow b=none/\(E.T b\/E.w.heap.size<=b)):
  SR P E Γ bs (λb=>if v.ownBlock=some b then some (.tmp d k)else ow b) w a {st with own:=((d,k),e)::st.own}:=
 { h with
  on:=λb L hL=>by
   by_cases hb:v.ownBlock=some b
   ·exact⟨ho.lt hb,(hf b hb).2⟩
   ·simp only[hb,if_false]at hL;exact h.on b L hL
  ot:=λt k' e' he=>by
   simp only[vaB]at he
   rcases he with he|he
   ·cases he
    exact⟨u,v,hu,hv,ho,λb hb=>by simp[hb]⟩
   ·obtain⟨u',v',h1,h2,h3,h4⟩:=h.ot t k' e' he
    refine⟨u',v',h1,h2,h3,λb hb=>?_⟩
    have hne:v.ownBlock≠some b:=λhx=>by have:=(hf b hx).1;rw[h4 b hb]at this;cases this
    simp only[hne,if_false];exact h4 b hb
  ob:=λi j e' cs own b hB hj hb=>by
   obtain⟨v',h1,h3,h4⟩:=h.ob i j e' cs own b hB hj hb
   refine⟨v',h1,h3,λb' hb'=>?_⟩
   have hne:v.ownBlock≠some b':=λhx=>by have:=(hf b' hx).1;rw[h4 b' hb']at this;cases this
   simp only[hne,if_false];exact h4 b' hb'}
theorem SR.freeT(h:SR P E Γ bs ow w a st)(t k:Nat):SR P E Γ bs (λb=>if ow b=some (.tmp t k)then none else ow b) w a {st with own:=st.own.filter λx=>x.1 !=(t,k)}:=by
 have h':=h.less (own:=st.own.filter λx=>x.1 !=(t,k)) (λx hx=>(bK hx).1)
 refine h'.ow_drop (λb L hL=>?_) (λt' k' e he b hb=>?_) (λi j e cs own hB hj b hb=>?_)
 ·split at hL
  ·cases hL
  ·exact hL
 ·have:=(bK he).2
  have hne:¬(t'=t/\k'=k):=λ⟨x,y⟩=>by subst x;subst y;simp at this
  rw[van]
  ·exact hb
  ·rw[hb];intro hx;cases hx;exact hne ⟨rfl,rfl⟩
 ·rw[van]
  ·exact hb
  ·rw[hb];intro hx;cases hx
theorem AQ{bs:be}{id i b:Nat}{x:Option Nat}(hid:bs[id]? =some none)(h:bs[i]? =some (some b)):(bs.set id x)[i]? =some (some b):=by
 rw[vai]
 ·exact h
 ·intro e;subst e;rw[hid]at h;cases h
def aP.put(Γ:aP)(b n:Nat):aP:=λx=>if x=b then some n else Γ x
theorem aP.put_same(Γ:aP)(b n:Nat):Γ.put b n b=some n:=by simp[aP.put]
theorem aP.put_other(Γ:aP){b n x:Nat}(h:x≠b):Γ.put b n x=Γ x:=by simp[aP.put,h]
theorem SR.lt_of_ghost(h:SR P E Γ bs ow w a st){b n:Nat}(hb:Γ b=some n):b<w.heap.size:=by
 obtain⟨c,t,fr,h1,_⟩:=h.wi b n hb
 exact(vaj.1 h1).1
theorem eJ(w:World)(o:Obj):(w.alloc o).heap[w.heap.size]? =some o:=heap_alloc_new w o
theorem dF(w:World)(o:Obj){b:Nat}(h:b<w.heap.size):(w.alloc o).heap[b]? =w.heap[b]?:=by
 show(w.heap.push o)[b]? =_
 rw[vbS,van (by omega)]
theorem SR.alloc_imm(h:SR P E Γ bs ow w a st)(c:Array Value)(t:TypeId)(n:Nat)(hn:n<=c.size):SR P E (Γ.put w.heap.size n) bs ow (w.alloc (.cells c t)) a st/\Γ.Le w (Γ.put w.heap.size n) (w.alloc (.cells c t)):=by
 have hle:Γ.Le w (Γ.put w.heap.size n) (w.alloc (.cells c t)):=λb m hb _=>by
  have hlt:=h.lt_of_ghost hb
  exact⟨m,(Γ.put_other (by omega)).trans hb,var _,λo _=>bZ (dF w _ hlt) o⟩
 refine⟨h.world (λ_=>False) hle (λb m hb=>?_) rfl rfl rfl (by simp) (λb hb _=>⟨dF w _ hb,Γ.put_other (by omega)⟩) (λ_ hx=>hx.elim) (λ_ _ _ hx=>hx) (λ_ _ _ hx=>hx),hle⟩
 by_cases hbb:b=w.heap.size
 ·subst hbb
  rw[Γ.put_same]at hb
  cases hb
  exact⟨c,t,(0,0),eJ w _,hn⟩
 ·rw[Γ.put_other hbb]at hb
  obtain⟨c',t',fr,h1,h2⟩:=h.wi b m hb
  exact⟨c',t',fr,(dF w _ (h.lt_of_ghost hb)).trans h1,h2⟩
theorem SR.drew(h:SR P E Γ bs ow w a st):SR P E Γ bs ow w.drew a st:=
 h.world (λ_=>False) (λ_ m hb _=>⟨m,hb,var _,λ_ _=>rfl⟩) h.wi rfl rfl rfl (var _) (λ_ _ _=>⟨rfl,rfl⟩) (λ_ hx=>hx.elim) (λ_ _ _ hx=>hx) (λ_ _ _ hx=>hx)
theorem SR.alloc_box(h:SR P E Γ bs ow w a st){id:Nat}(hid:bs[id]? =some none)(o:Obj)(B:aA)
  (hB:∀bs':be,bs.Sub bs'->BR Γ bs' (w.alloc o) B w.heap.size) (hcell:∀cs own,B=.cells cs own->∀j e,(j,e)∈own->∃v,(w.alloc o).cell? ⟨w.heap.size,j,none⟩=some v/\v.ownBlock=none/\fR P Γ (w.alloc o) v e):
  SR P E Γ (bs.set id (some w.heap.size)) ow (w.alloc o) a {st with boxes:=st.boxes.set id B}:=by
 have hle:Γ.Le w Γ (w.alloc o):=λ_ m hb _=>⟨m,hb,var _,λo' _=>bZ (dF w _ (h.lt_of_ghost hb)) o'⟩
 have hsub:bs.Sub (bs.set id (some w.heap.size)):=λi b hb=>AQ hid hb
 have hw:=h.world (λ_=>False) (Γ':=Γ) (w':=w.alloc o) hle (λb m hb=>by
  obtain⟨c',t',fr,h1,h2⟩:=h.wi b m hb
  exact⟨c',t',fr,(dF w _ (h.lt_of_ghost hb)).trans h1,h2⟩) rfl rfl rfl (by simp) (λb hb _=>⟨dF w _ hb,rfl⟩) (λ_ hx=>hx.elim) (λ_ _ _ hx=>hx) (λ_ _ _ hx=>hx)
 have hidlt:id<bs.length:=aq hid
 have hcase:∀{i b:Nat},(bs.set id (some w.heap.size))[i]? =some (some b)->(i=id/\b=w.heap.size)\/(i≠id/\bs[i]? =some (some b)):=by
  intro i b hb
  by_cases hi:i=id
  ·subst hi
   rw[vae hidlt]at hb
   cases hb;exact .inl ⟨rfl,rfl⟩
  ·rw[vai (λe=>hi e.symm)]at hb
   exact .inr ⟨hi,hb⟩
 have hbox:∀{i:Nat} {B':aA},i≠id->(st.boxes.set id B)[i]? =some B'->st.boxes[i]? =some B':=by
  intro i B' hi hB'
  rwa[vai (λe=>hi e.symm)]at hB'
 have hself:∀{B':aA},(st.boxes.set id B)[id]? =some B'->B'=B:=by
  intro B' hB'
  rw[vae (by rw[<-h.bl];exact hidlt)]at hB'
  cases hB';rfl
 exact{
  wi:=hw.wi
  sz:=hw.sz
  tm:=λt p v hp hv=>(hw.tm t p v hp hv).mono (.refl _ _) hsub
  bl:=by simp[h.bl]
  bx:=λi b B' hb hB'=>by
   rcases hcase hb with⟨rfl,rfl⟩|⟨hi,hb⟩
   ·have:=hself hB';subst this
    refine⟨?_,by simp,hB _ hsub⟩
    cases hg:Γ w.heap.size with
    |none=>rfl
    |some m=>exact absurd (h.lt_of_ghost hg) (vb1 _)
   ·obtain⟨h1,h2,h3⟩:=hw.bx i b B' hb (hbox hi hB')
    exact⟨h1,h2,h3.mono (.refl _ _) hsub rfl⟩
  inj:=λi j b hi hj=>by
   rcases hcase hi with⟨rfl,rfl⟩|⟨hi',hb⟩<;>rcases hcase hj with⟨rfl,hb'⟩|⟨hj',hb''⟩
   ·rfl
   ·have:=(hw.bx j _ (st.boxes[j]'(by rw[<-h.bl];exact aq hb'')) hb'' (by simp)).2.1
    have:=(h.bx j _ (st.boxes[j]'(by rw[<-h.bl];exact aq hb'')) hb'' (by simp)).2.1
    omega
   ·have:=(h.bx i _ (st.boxes[i]'(by rw[<-h.bl];exact aq hb)) hb (by simp)).2.1
    omega
   ·exact h.inj i j b hb hb''
  bn:=λi b hb=>by
   rcases hcase hb with⟨rfl,rfl⟩|⟨hi,hb⟩
   ·exact .inr h.step.size
   ·exact h.bn i b hb
  on:=hw.on
  ot:=hw.ot
  ob:=λi j e cs own b hB' hj hb=>by
   rcases hcase hb with⟨rfl,rfl⟩|⟨hi,hb⟩
   ·have:=hself hB';subst this
    obtain⟨v,h1,h2,h3⟩:=hcell cs own rfl j e hj
    exact⟨v,h1,h3,λb' hb'=>by rw[h2]at hb';cases hb'⟩
   ·exact hw.ob i j e cs own b (hbox hi hB') hj hb
  gl:=λg cs hg=>(hw.gl g cs hg).mono (.refl _ _) hsub
  gc:=h.gc
  gx:=h.gx
  step:=hw.step}
theorem SR.box_write(h:SR P E Γ bs ow w a st){i b:Nat}(hi:bs[i]? =some (some b)){w':World}{B:aA}{ow':Nat->Option iL}
  (hos:w'.os=w.os) (htp:w'.tape=w.tape) (hout:w'.output=w.output) (hsz:w'.heap.size=w.heap.size)
  (hk:∀b',b'≠b->w'.heap[b']? =w.heap[b']?) (hB:BR Γ bs w' B b)
  (hsame:∀b' L,ow b'=some L->(∀j,L≠.box i j)->ow' b'=some L) (hon:∀b' L,ow' b'=some L->b'<w.heap.size/\(E.T b'\/E.w.heap.size<=b'))
  (hown:∀cs own,B=.cells cs own->∀j e,(j,e)∈own->∃v,w'.cell? ⟨b,j,none⟩=some v/\fR P Γ w' v e/\∀b',v.ownBlock=some b'->ow' b'=some (.box i j)) (hdr:dr w<=dr w':=by first|exact var _|exact vca _|exact vbB _ _|assumption|omega):
  SR P E Γ bs ow' w' a {st with boxes:=st.boxes.set i B}:=by
 have hilt:i<st.boxes.length:=by rw[<-h.bl];exact aq hi
 have hg:Γ b=none:=(h.bx i b (st.boxes[i]'hilt) hi (by simp)).1
 have hne:∀{b' n},Γ b'=some n->b'≠b:=λhb e=>by subst e;rw[hg]at hb;cases hb
 have hle:Γ.Le w Γ w':=λb' m hb _=>⟨m,hb,var _,λo' _=>bZ (hk b' (hne hb)) o'⟩
 have hos':∀{v e},fR P Γ w v e->fR P Γ w' v e:=λ{v e} ho=>ho.same λb' hb'=>by
  obtain⟨n,xs,h1,h2⟩:=ho
  exact⟨hk b' (hne (h2 b' hb')),rfl⟩
 have hbox:∀{j:Nat} {B':aA},j≠i->(st.boxes.set i B)[j]? =some B'->st.boxes[j]? =some B':=by
  intro j B' hj hB'
  rwa[vai (λe=>hj e.symm)]at hB'
 have hself:∀{B':aA},(st.boxes.set i B)[i]? =some B'->B'=B:=by
  intro B' hB'
  rw[vae hilt]at hB'
  cases hB';rfl
 have hbne:∀{j b':Nat},bs[j]? =some (some b')->j≠i->b'≠b:=λhj hji e=>by subst e;exact hji (h.inj _ _ _ hj hi)
 exact{
  wi:=λb' n hb'=>by
   obtain⟨c,t,fr,h1,h2⟩:=h.wi b' n hb'
   exact⟨c,t,fr,(hk b' (hne hb')).trans h1,h2⟩
  sz:=h.sz
  tm:=λt p v hp hv=>(h.tm t p v hp hv).mono hle (.refl _)
  bl:=by simp[h.bl]
  bx:=λj b' B' hb' hB'=>by
   by_cases hj:j=i
   ·subst hj
    have:=hself hB';subst this
    have:b'=b:=by rw[hi]at hb';cases hb';rfl
    subst this
    exact⟨hg,by rw[hsz];exact(h.bx j b' (st.boxes[j]'hilt) hi (by simp)).2.1,hB⟩
   ·obtain⟨h1,h2,h3⟩:=h.bx j b' B' hb' (hbox hj hB')
    exact⟨h1,by rw[hsz];exact h2,h3.mono hle (.refl _) (hk b' (hbne hb' hj))⟩
  inj:=h.inj
  bn:=h.bn
  on:=λb' L hL=>⟨by rw[hsz];exact(hon b' L hL).1,(hon b' L hL).2⟩
  ot:=λt k e he=>by
   obtain⟨u,v,h1,h2,h3,h4⟩:=h.ot t k e he
   exact⟨u,v,h1,h2,hos' h3,λb' hb'=>hsame b' _ (h4 b' hb') (λj hx=>by cases hx)⟩
  ob:=λj k e cs own b' hB' hj hb'=>by
   by_cases hji:j=i
   ·subst hji
    have:=hself hB';subst this
    have:b'=b:=by rw[hi]at hb';cases hb';rfl
    subst this
    exact hown cs own rfl k e hj
   ·obtain⟨v,h1,h3,h4⟩:=h.ob j k e cs own b' (hbox hji hB') hj hb'
    exact⟨v,(bZ (hk b' (hbne hb' hji)) k).trans h1,hos' h3,λx hx=>hsame x _ (h4 x hx) (λy hy=>by cases hy;exact hji rfl)⟩
  gl:=λg cs hg=>(h.gl g cs hg).mono hle (.refl _)
  gc:=h.gc
  gx:=h.gx
  step:={
   os:=hos.trans h.step.os
   tape:=htp.trans h.step.tape
   output:=hout.trans h.step.output
   size:=by rw[hsz];exact h.step.size
   drawn:=vaH h.step.drawn hdr
   keep:=λb' hb' hT=>by
    have hbb:b'≠b:=λe=>by subst e;exact(h.bn i b' hi).elim hT (λhx=>by omega)
    obtain⟨k1,k2⟩:=h.step.keep b' hb' hT
    exact⟨(hk b' hbb).trans k1,k2⟩
   le:=h.step.le.trans hle}}
end
def absC:Value->PVal
 |.int k n=>.int k n
 |.bool b=>.bool b
 |.string s=>.str s.data.toList
 |.slice none 0 0=>.slice []
 |v=>.val v
def absV:Value->PVal
 |.agg cs=>.agg (cs.toList.map absC)
 |v=>absC v
theorem VR.absC{Γ:aP}{bs:be}{w:World}(v:Value):VR Γ bs w (absC v) v:=by
 unfold Go.Proofs.YtkdahfeiedaahaaGreatDoor.absC
 split
 ·exact .int _ _
 ·exact .bool _
 ·rename_i s;exact .str s.data.toList
 ·exact .sliceNil
 ·exact .val _
theorem VR.absV{Γ:aP}{bs:be}{w:World}(v:Value):VR Γ bs w (absV v) v:=by
 unfold Go.Proofs.YtkdahfeiedaahaaGreatDoor.absV
 split
 ·rename_i cs
  refine .agg _ cs (by simp) λi p v hp hv=>?_
  simp only[vav,va2,hv,vak,vax]at hp
  subst hp;exact .absC v
 ·exact .absC v
def BG:List (Nat×List PVal)->Nat->PVal
 |[],_=>.undef
 |(g,cs)::r,x=>if g=x then .eptr cs else BG r x
def opv(GE:List (Nat×List PVal))(tmps:List PVal):Operand->PVal
 |.tmp t=>tmps.getD t .undef
 |.const v=>absV v
 |.global g=>BG GE g
 |.func f=>.func (.func f) [] []
theorem PI{GE:List (Nat×List PVal)}{g:Nat}:BG GE g=.undef\/∃cs,(g,cs)∈GE/\BG GE g=.eptr cs:=by
 induction GE with
 |nil=>exact .inl rfl
 | cons x r ih =>
  obtain⟨h,cs⟩:=x
  simp only[BG]
  split
  ·rename_i e;subst e;exact .inr ⟨cs,by simp,rfl⟩
  ·rcases ih with ih|⟨cs',h1,h2⟩
   ·exact .inl ih
   ·exact .inr ⟨cs',by simp[h1],h2⟩
section
variable{P:Program}{E:lh}{Γ:aP}{bs:be}{ow:Nat->Option iL}{w:World}{a:Array Value}{st:aB}
theorem SR.opv(h:SR P E Γ bs ow w a st)(ds:List Deferred)(x:Operand):VR Γ bs w (opv E.GE st.tmps x) ((Act.mk a ds).eval x):=by
 cases x with
 | tmp t =>
  show VR Γ bs w (st.tmps.getD t .undef) (a.getD t undef)
  by_cases ht:t<a.size
  ·have h1:st.tmps[t]? =some (st.tmps[t]'(by rw[<-h.sz];exact ht)):=by simp
   have h2:a[t]? =some a[t]:=by simp[ht]
   have:=h.tm t _ _ h1 h2
   rw[vaq,h1]
   simpa[vaF,ht]using this
  ·have:st.tmps[t]? =none:=vaK (by rw[<-h.sz];exact vb5 ht)
   rw[vaq,this]
   exact .undef _
 |const v=>exact .absV v
 | global g =>
  show VR Γ bs w (BG E.GE g) _
  rcases PI (GE:=E.GE) (g:=g)with h1|⟨cs,h1,h2⟩
  ·rw[h1];exact .undef _
  ·rw[h2];exact h.gl g cs h1
 |func f=>exact .func _ [] [] #[] #[] rfl rfl (λi p v hp _=>by simp at hp) (λi p v hp _=>by simp at hp)
def _root_.Go.Proofs.YtkdahfeiedaahaaGreatDoor.PVal.one:PVal->Bool
 |.undef|.agg _|.tuple _|.nptr _ _=>false
 |.val v=>v.oneCell'
 |_=>true
theorem VR.one{p:PVal}{v:Value}(h:VR Γ bs w p v)(hp:p.one=true):v.oneCell'=true:=by
 cases h<;>first|rfl|(simp[PVal.one]at hp;done)|exact hp
theorem H9{v:Value}(h:v.oneCell'=true):v.cells=#[v]:=by
 cases v<;>simp[Value.oneCell']at h<;>rfl
def cj:PVal->Option (List PVal)
 |.agg cs=>some cs
 |p=>if p.one then some [p]else none
theorem VR.cells{p:PVal}{v:Value}{cs:List PVal}(h:VR Γ bs w p v)(hp:cj p=some cs):v.cells.size=cs.length/\∀(i:Nat) q u,cs[i]? =some q->v.cells[i]? =some u->VR Γ bs w q u:=by
 have hone:∀{p:PVal} {v:Value},VR Γ bs w p v->p.one=true->v.cells.size=[p].length/\∀(i:Nat) q u,[p][i]? =some q->v.cells[i]? =some u->VR Γ bs w q u:=by
  intro p v h ho
  rw[H9 (VR.one h ho)]
  refine⟨rfl,λi q u hq hu=>?_⟩
  match i,hq,hu with
  |0,hq,hu=>
   simp at hq hu
   subst hq;subst hu;exact h
 unfold cj at hp
 split at hp
 ·cases hp
  cases h with
  |agg cs vs hl h=>exact⟨hl,h⟩
 ·split at hp
  ·rename_i ho
   cases hp
   exact hone h ho
  ·cases hp
def aY(P:Program)(t:TypeId)(cs:List PVal):Option PVal:=
 match P.underlying t with
 |some (.struct _)|some (.array _ _)=>if P.cellsOf t<=cs.length then some (.agg (cs.take (P.cellsOf t)))else none
 |some _=>cs.head?
 |none=>none
theorem sP{t:TypeId}{d:TypeDesc}(h:P.underlying t=some d):∃i,P.info? t=some i:=by
 unfold Program.underlying at h
 cases hi:P.info? t with
 |some i=>exact⟨i,rfl⟩
 |none=>simp[hi]at h
theorem kW{t:TypeId}{b off:Nat}{cs:List PVal}{vals:Nat->Value}{p:PVal}(hp:aY P t cs=some p)
  (hc:∀(k:Nat) q,cs[k]? =some q->w.cell? ⟨b,off+k,none⟩=some (vals k)) (hv:∀(k:Nat) q,cs[k]? =some q->VR Γ bs w q (vals k)):
  ∃v,(loadVar t ⟨b,off,none⟩).run P w=.ok v w/\VR Γ bs w p v:=by
 have hagg:∀{d},P.underlying t=some d->(match d with|.struct _|.array _ _=>True|_=>False)->P.cellsOf t<=cs.length->
   ∃v,(loadVar t ⟨b,off,none⟩).run P w=.ok v w/\VR Γ bs w (.agg (cs.take (P.cellsOf t))) v:=by
  intro d hd hm hl
  obtain⟨i,hi⟩:=sP hd
  have hrun:=run_loadCells (P:=P) w ⟨b,off,none⟩ (P.cellsOf t) vals (λj hj=>by
   rw[Addr.add_lit]
   exact hc j _ (vab (by omega)))
  refine⟨.agg ((List.range (P.cellsOf t)).map vals).toArray,?_,.agg _ _ (by simp;omega) λk q u hq hu=>?_⟩
  ·cases d<;>simp at hm<;>simp[loadVar,isAgg,run_underlying hd,run_sizeOf w hi,hrun]
  ·have hk:k<P.cellsOf t:=by have:=aq hq;simp at this;omega
   rw[vap hk]at hq
   simp[hk]at hu
   subst hu
   exact hv k q hq
 unfold aY at hp
 split at hp
 ·rename_i fs hd
  split at hp
  ·cases hp;exact hagg hd vzz ‹_›
  ·cases hp
 ·rename_i n e hd
  split at hp
  ·cases hp;exact hagg hd vzz ‹_›
  ·cases hp
 ·rename_i d hns hna hd
  cases cs with
  |nil=>simp at hp
  |cons q cs=>
   simp at hp;subst hp
   have h0:=hc 0 q rfl
   simp only[Nat.add_zero]at h0
   refine⟨vals 0,?_,hv 0 q rfl⟩
   cases d<;>simp at hns hna<;>simp[loadVar,isAgg,run_underlying hd,h0]
 ·cases hp
end
def Sv:Nat:=4611686018427387904
def qce(k:IntKind)(a b:Int):Int:=k.wrap ((BitVec.ofInt k.bits a ^^^ BitVec.ofInt k.bits b).toNat:Int)
def Xa(op:BinOp)(k:IntKind)(a b:Int):Option PVal:=
 match op with
 |.add=>some (.int k (k.wrap (a+b)))
 |.sub=>some (.int k (k.wrap (a - b)))
 |.mul=>some (.int k (k.wrap (a * b)))
 |.quo=>if b=0 then none else some (.int k (k.wrap (a.tdiv b)))
 |.rem=>if b=0 then none else some (.int k (a.tmod b))
 |.eql=>some (.bool (a==b))
 |.neq=>some (.bool (a !=b))
 |.lss=>some (.bool (decide (a<b)))
 |.leq=>some (.bool (decide (a<=b)))
 |.gtr=>some (.bool (decide (a>b)))
 |.geq=>some (.bool (decide (a>=b)))
 |.xor=>some (.int k (qce k a b))
 |_=>none
def YO(op:BinOp)(a b:List UInt8):Option PVal:=
 match op with
 |.add=>if a.length+b.length<=Sv then some (.str (a++b))else none
 |.eql=>some (.bool (a==b))
 |.neq=>some (.bool !(a==b))
 |.lss=>some (.bool (Op.bytesLess a b))
 |.leq=>some (.bool (Op.bytesLess a b||a==b))
 |.gtr=>some (.bool !(Op.bytesLess a b||a==b))
 |.geq=>some (.bool !(Op.bytesLess a b))
 |_=>none
def TR(op:BinOp)(a b:Bool):Option PVal:=
 match op with
 |.eql=>some (.bool (a==b))
 |.neq=>some (.bool !(a==b))
 |_=>none
def wV(P:Program)(xs ys:List PVal):List Field->Option Bool
 |[]=>some true
 |f::r=>if f.name= "_" then none else
  match wV P xs ys r,P.underlying f.type,xs[f.offset]?,ys[f.offset]? with
  |some b,some (.int _),some (.int k a),some (.int k' c)=>if k=k' then some ((a==c)&&b)else none
  |some b,some .string,some (.str a),some (.str c)=>some ((a==c)&&b)
  |some b,some .bool,some (.bool a),some (.bool c)=>some ((a==c)&&b)
  |_,_,_,_=>none
def BU(P:Program)(T:TypeId)(xs ys:List PVal):Option Bool:=
 match P.stoodInHeld T,P.eqGuardType P.depth T,P.underlying T with
 |false,false,some (.struct fs)=>wV P xs ys fs.toList
 |_,_,_=>none
def LO(P:Program)(op:BinOp)(T:TypeId)(x y:PVal):Option PVal:=
 match x,y with
 |.int k a,.int k' b=>if k=k' then Xa op k a b else none
 |.str a,.str b=>YO op a b
 |.bool a,.bool b=>match P.underlying T with|some .bool=>TR op a b|_=>none
 |.agg xs,.agg ys=>match op with
  |.eql=>(BU P T xs ys).map .bool
  |.neq=>(BU P T xs ys).map λb=>.bool !b
  |_=>none
 |_,_=>none
def qcF(op:UnOp)(x:PVal):Option PVal:=
 match op,x with
 |.not,.bool b=>some (.bool !b)
 |.neg,.int k n=>some (.int k (k.wrap (0 - n)))
 |_,_=>none
def yj:List (List PVal)->Option (List UInt8)
 |[]=>some []
 |[.int .u8 n]::r=>if 0<=n/\n<256 then(yj r).map (UInt8.ofNat n.toNat::·)else none
 |_::_=>none
def Iv(P:Program)(src dst:TypeId)(x:PVal):Option PVal:=
 match P.underlying src,P.underlying dst,x with
 |some (.slice e),some .string,.slice es=>match P.underlying e with
  |some (.int .u8)=>(yj es).map .str
  |_=>none
 |some (.int _),some (.int k),.int _ n=>some (.int k (k.wrap n))
 |some .string,some .string,.str s=>some (.str s)
 |_,_,_=>none
def bv(P:Program)(s:TypeId)(x:PVal)(f:Nat):Option PVal:=
 match P.underlying s with
 | some (.struct fs) =>
  match fs[f]? with
  |some fd=>if P.cellsOf fd.type=0 then none else
   match x with
   |.eptr cs=>if fd.offset<=cs.length then some (.eptr (cs.drop fd.offset))else none
   |.bptr i off=>some (.bptr i (off+fd.offset))
   |_=>none
  |none=>none
 |_=>none
def iq(P:Program)(t:TypeId)(x ix:PVal):Option PVal:=
 match P.underlying t,x,ix with
 | some (.slice e),.slice es,.int _ i =>
  if 0<=i then match es[i.toNat]? with
   |some el=>if el.length=P.cellsOf e/\(P.info? e).isSome then some (.eptr el)else none
   |none=>none
  else none
 |some (.slice e),.bsl b off n,.int _ i=>if 0<=i/\i<n/\(P.info? e).isSome then some (.bptr b (off+i.toNat * P.cellsOf e))else none
 |some (.array n e),.eptr cs,.int _ i=>if 0<=i/\i<n/\(P.info? e).isSome/\i.toNat * P.cellsOf e<=cs.length then some (.eptr (cs.drop (i.toNat * P.cellsOf e)))else none
 |some (.array n e),.bptr b off,.int _ i=>if 0<=i/\i<n/\(P.info? e).isSome then some (.bptr b (off+i.toNat * P.cellsOf e))else none
 |_,_,_=>none
def PU(P:Program)(t:TypeId)(x:PVal)(f:Nat):Option PVal:=
 match P.underlying t,x with
 |some (.struct fs),.agg cs=>match fs[f]? with
  |some fd=>aY P fd.type (cs.drop fd.offset)
  |none=>none
 |_,_=>none
def yk(P:Program)(t:TypeId)(x ix:PVal):Option PVal:=
 match P.underlying t,x,ix with
 |some (.array n e),.agg cs,.int _ i=>if 0<=i/\i<n/\(P.info? e).isSome then aY P e (cs.drop (i.toNat * P.cellsOf e))else none
 |some .string,.str s,.int _ i=>if 0<=i then(s[i.toNat]?).map λc=>.int .u8 c.toNat else none
 |_,_,_=>none
def nS(x:PVal)(i:Nat):Option PVal:=match x with|.tuple vs=>vs[i]? |_=>none
def Ju(x:Option PVal)(d:Nat):Option Nat:=
 match x with
 |none=>some d
 |some (.int _ i)=>if 0<=i then some i.toNat else none
 |some _=>none
def AO(P:Program)(t:TypeId)(x:PVal)(lo hi mx:Option PVal):Option PVal:=
 match P.underlying t,x,mx with
 |some .string,.str s,none=>
  match Ju lo 0,Ju hi s.length with
  |some l,some h=>if l<=h/\h<=s.length then some (.str ((s.take h).drop l))else none
  |_,_=>none
 |some (.slice e),.slice es,none=>
  match Ju lo 0,Ju hi es.length with
  |some l,some h=>if l<=h/\h<=es.length/\(P.info? e).isSome/\(∀x∈es.take 1,x.length=P.cellsOf e)then some (.slice ((es.take h).drop l))else none
  |_,_=>none
 |some (.slice e),.bsl i off n,none=>
  match Ju lo 0,Ju hi n with
  |some l,some h=>if l<=h/\h<=n/\(P.info? e).isSome then some (.bsl i (off+l * P.cellsOf e) (h - l))else none
  |_,_=>none
 |_,_,_=>none
section
variable{P:Program}{E:lh}{Γ:aP}{bs:be}{ow:Nat->Option iL}{w:World}{a:Array Value}{st:aB}
theorem Xb{op:BinOp}{k:IntKind}{x y:Int}{p:PVal}(T:TypeId)(ox oy:Operand)(h:Xa op k x y=some p):∃v,(do eqGuard op T ox oy (.int k x) (.int k y);binOp op T (.int k x) (.int k y):Sem Value).run P w=.ok v w/\VR Γ bs w p v:=by
  cases op<;>simp only[Xa]at h
  all_goals first
    |(cases h;done)
    |(cases h;refine⟨_,?_,.int _ _⟩;simp[eqGuard,binOp,Op.intArith];done)
    |(cases h;refine⟨_,?_,.int _ _⟩;simp[eqGuard,binOp,Op.intBits,qce];done)
    |(cases h;refine⟨_,?_,.bool _⟩;simp[eqGuard,binOp,Op.intCmp];done)
    | (split at h
       ·cases h
       ·cases h;refine⟨_,?_,.int _ _⟩;simp[eqGuard,binOp,Op.intDiv, *])
theorem Xi {op:BinOp} {x y:List UInt8} {p:PVal} (T:TypeId) (ox oy:Operand) (h:YO op x y = some p) :∃ v,(do eqGuard op T ox oy (.string ⟨x.toArray⟩) (.string ⟨y.toArray⟩); binOp op T (.string ⟨x.toArray⟩) (.string ⟨y.toArray⟩):Sem Value).run P w = .ok v w∧VR Γ bs w p v:=by
  cases op<;>simp only[YO]at h
  all_goals first
    |(cases h;done)
    |(cases h;refine⟨_,?_,.bool _⟩;simp[eqGuard,binOp,Op.stringOp];done)
    | (split at h
       · rename_i hl
         cases h
         refine⟨.string ⟨(x++y).toArray⟩,?_,.str _⟩
         have hsz:¬(((ByteArray.mk x.toArray).size+(ByteArray.mk y.toArray).size:Nat):Int)>IntKind.i64.max:=by
           show ¬(((x.toArray.size+y.toArray.size:Nat):Int)>IntKind.i64.max)
           simp only[vb2]
           have:(IntKind.i64.max:Int)=9223372036854775807:=by decide
           unfold Sv at hl
           omega
         have happ:ByteArray.mk x.toArray++ByteArray.mk y.toArray=ByteArray.mk (x++y).toArray:=by
           apply ByteArray.ext;simp
         simp only[eqGuard,binOp,Op.stringOp,van hsz,happ]
         simp
       ·cases h)
theorem Ma{T:TypeId}(hT:P.underlying T=some .bool)(x y:Bool):(Op.equal T (.bool x) (.bool y)).run P w=.ok (x==y) w:=by
 show(Op.equalIn (9999+1) T (.bool x) (.bool y)).run P w=_
 rw[Op.equalIn]
 simp[run_underlying hT]
theorem Fb{d:Nat}{xs ys:List PVal}{vs us:Array Value}(h1:∀(i:Nat) p v,xs[i]? =some p->vs[i]? =some v->VR Γ bs w p v)(h2:∀(i:Nat) p v,ys[i]? =some p->us[i]? =some v->VR Γ bs w p v)
  (hz1:vs.size=xs.length) (hz2:us.size=ys.length):∀{fs:List Field} {b:Bool},wV P xs ys fs=some b->(Op.eqFields (d+1) vs us fs).run P w=.ok b w
 |[],b,h=>by cases h;simp[Op.eqFields]
 | f :: r,b,h => by
  unfold wV at h
  split at h
  ·cases h
  ·rename_i hn
   have step:∀{x y:PVal} {b1 b2:Bool} {D:TypeDesc},P.underlying f.type=some D->(match D with|.struct _|.array _ _=>False|_=>True)->xs[f.offset]? =some x->ys[f.offset]? =some y->wV P xs ys r=some b2->
     (∀{v u},VR Γ bs w x v->VR Γ bs w y u->(Op.equalIn (d+1) f.type v u).run P w=.ok b1 w)->(Op.eqFields (d+1) vs us (f::r)).run P w=.ok (b1&&b2) w:=by
    intro x y b1 b2 D hD hnD hx hy hr hk
    have ih:=Fb h1 h2 hz1 hz2 (d:=d) hr
    obtain⟨v,hv⟩:∃v,vs[f.offset]? =some v:=⟨_,vaE (by rw[hz1];exact aq hx)⟩
    obtain⟨u,hu⟩:∃u,us[f.offset]? =some u:=⟨_,vaE (by rw[hz2];exact aq hy)⟩
    have hp1:(part f.type vs f.offset).run P w=.ok v w:=by cases D<;>simp at hnD<;>simp[part,isAgg,run_underlying hD,hv]
    have hp2:(part f.type us f.offset).run P w=.ok u w:=by cases D<;>simp at hnD<;>simp[part,isAgg,run_underlying hD,hu]
    have hq:=hk (h1 _ _ _ hx hv) (h2 _ _ _ hy hu)
    unfold Op.eqFields
    rw[vah hn]
    cases b1<;>simp[hp1,hp2,hq,ih]
   split at h
   ·rename_i b2 k' k a k2 c hr hD hx hy
    split at h
    ·rename_i hk;subst hk
     cases h
     refine step hD vzz hx hy hr λhv hu=>?_
     cases hv;cases hu
     exact run_equalIn_int w d f.type _ _ _ _ hD
    ·cases h
   ·rename_i b2 a c hr hD hx hy
    cases h
    refine step hD vzz hx hy hr λhv hu=>?_
    cases hv;cases hu
    rw[run_equalIn_string w d f.type _ _ hD]
    simp
   ·rename_i b2 a c hr hD hx hy
    cases h
    refine step hD vzz hx hy hr λhv hu=>?_
    cases hv;cases hu
    exact run_equalIn_bool' w d f.type _ _ hD
   ·cases h
theorem W3 {op:BinOp} {T:TypeId} {x y p:PVal} {vx vy:Value} (hx:VR Γ bs w x vx) (hy:VR Γ bs w y vy) (ox oy:Operand) (h:LO P op T x y = some p) :∃ v,(do eqGuard op T ox oy vx vy; binOp op T vx vy:Sem Value).run P w = .ok v w∧VR Γ bs w p v:=by
  unfold LO at h
  split at h
  · split at h
    · rename_i hk; subst hk
      cases hx;cases hy
      exact Xb T ox oy h
    ·cases h
  · cases hx; cases hy
    exact Xi T ox oy h
  · split at h
    · rename_i hT
      cases hx;cases hy
      cases op<;>simp only[TR]at h
      all_goals first
        |(cases h;done)
        |(cases h;refine⟨_,?_,.bool _⟩;simp[eqGuard,binOp,Ma hT];done)
    ·cases h
  · rename_i xs ys
    cases hx with
    | agg _ vs hl1 hv1 =>
      cases hy with
      | agg _ us hl2 hv2 =>
        have key:∀{b},BU P T xs ys=some b->P.eqGuardType P.depth T=false/\(Op.equalIn 10000 T (.agg vs) (.agg us)).run P w=.ok b w:=by
          intro b hb
          unfold BU at hb
          split at hb
          · rename_i fs h1 h2 h3
            have hf:P.fieldsOf T=fs:=by unfold Program.fieldsOf;rw[h3]
            refine⟨h2,?_⟩
            rw[run_equalIn_struct w 9999 T vs us (by rw[hf];exact h3) h1,hf]
            exact Fb (d:=9998) hv1 hv2 (by omega) (by omega) hb
          ·cases hb
        cases op<;>simp only at h<;>first
          |(cases h;done)
          | (rw [vaJ] at h
             obtain⟨b,hb,rfl⟩:=h
             obtain⟨k1,k2⟩:=key hb
             refine⟨_,?_,.bool _⟩
             simp[run_eqGuard_agg w _ T ox oy vs us k1,run_eql_struct,run_neq_struct,k2])
  ·cases h
theorem YP{op:UnOp}{x p:PVal}{vx:Value}(hx:VR Γ bs w x vx)(h:qcF op x=some p):∃v,(Op.unary op vx).run P w=.ok v w/\VR Γ bs w p v:=by
 unfold qcF at h
 split at h
 ·cases h;cases hx;exact⟨_,by simp[Op.unary],.bool _⟩
 ·cases h;cases hx;exact⟨_,by simp[Op.unary,Op.intArith],.int _ _⟩
 ·cases h
theorem LP:∀{es:List (List PVal)} {l:List UInt8},yj es=some l->es.length=l.length/\∀(i:Nat) (h:i<l.length),es[i]? =some [.int .u8 (l[i].toNat:Int)]
 |[],l,h=>by simp[yj]at h;subst h;simp
 | e :: r,l,h => by
  unfold yj at h
  split at h
  ·rename_i h1;cases h1
  ·rename_i n r' h1
   cases h1
   split at h
   ·rename_i hn
    cases hr:yj r with
    |none=>rw[hr]at h;cases h
    | some l' =>
     rw[hr]at h
     cases h
     obtain⟨k1,k2⟩:=LP hr
     refine⟨by simp[k1],λi hi=>?_⟩
     cases i with
     |zero=>
      simp only[List.getElem?_cons_zero,List.getElem_cons_zero,vax,vbN,vci,PVal.int.injEq,vcj]
      rw[UInt8.toNat_ofNat_of_lt' (by show n.toNat<256;omega)]
      omega
     |succ i=>simpa using k2 i (by simpa using hi)
   ·cases h
  ·cases h
theorem UQ{src dst:TypeId}{x p:PVal}{vx:Value}(hx:VR Γ bs w x vx)(h:Iv P src dst x=some p):∃v,(convert src dst vx).run P w=.ok v w/\VR Γ bs w p v:=by
 unfold Iv at h
 split at h
 ·rename_i e es h1 h2
  split at h
  ·rename_i h3
   cases hb:yj es with
   |none=>rw[hb]at h;cases h
   | some l =>
    rw[hb]at h
    cases h
    obtain⟨k1,k2⟩:=LP hb
    cases hx with
    |sliceNil=>
     have hl:l=[]:=by simpa using k1.symm
     subst hl
     refine⟨.string ⟨#[]⟩,?_,.str []⟩
     rw[run_convert_bytes_string w src dst e none 0 0 h1 h3 h2]
     rfl
    |sliceE a cap=>
     have hl:l=[]:=by simpa using k1.symm
     subst hl
     exact⟨.string ⟨#[]⟩,run_convert_bytes_back w src dst e a cap [] h1 h3 h2 (λj hj=>by simp at hj),.str []⟩
    |slice _ b off cap n sz vals hz0 hcap hg hn hsz hc hv=>
     refine⟨.string ⟨l.toArray⟩,?_,.str l⟩
     rw[k1]
     refine run_convert_bytes_back w src dst e ⟨b,off,none⟩ cap l h1 h3 h2 λj hj=>?_
     have hj2:=k2 j hj
     have hs1:sz=1:=by have:=hsz j _ hj2;simpa using this.symm
     subst hs1
     have e1:=hc j _ 0 _ hj2 rfl
     have e2:=hv j _ 0 _ hj2 rfl
     rw[Addr.add_lit]
     rw[show off+j * 1+0=off+j by omega]at e1
     rw[e1]
     generalize vals j 0=q at e2
     cases e2
     rfl
  ·cases h
 ·rename_i h1 h2
  cases h;cases hx
  exact⟨_,by simp[convert,run_underlying h1,run_underlying h2,Conv.intToInt],.int _ _⟩
 ·rename_i h1 h2
  cases h;cases hx
  exact⟨_,by simp[convert,run_underlying h1,run_underlying h2],.str _⟩
 ·cases h
theorem VR.eptr_drop{cs:List PVal}{v:Value}(h:VR Γ bs w (.eptr cs) v){d:Nat}(hd:d<=cs.length):∃b off,v=.pointer (some ⟨b,off,none⟩)/\VR Γ bs w (.eptr (cs.drop d)) (.pointer (some ⟨b,off+d,none⟩)):=by
 cases h with
 |eptrE b off=>exact⟨b,off,rfl,by simpa using .eptrE b (off+d)⟩
 | eptr cs b off n vals hg hn hc hv =>
  refine⟨b,off,rfl,.eptr _ b (off+d) n (λk=>vals (d+k)) hg (by simp;omega) (λk p hp=>?_) (λk p hp=>?_)⟩
  ·rw[vbg]at hp
   have:=hc _ _ hp
   rwa[<-vb9]at this
  ·rw[vbg]at hp
   exact hv _ _ hp
theorem AJ{s:TypeId}{f:Nat}{x p:PVal}{vx:Value}(hx:VR Γ bs w x vx)(h:bv P s x f=some p):∃v,(Instr.fieldAt s vx f).run P w=.ok v w/\VR Γ bs w p v:=by
 unfold bv at h
 split at h
 ·rename_i fs hs
  split at h
  ·rename_i fd hf
   split at h
   ·cases h
   ·rename_i hz
    have hinfo:∃i,P.info? fd.type=some i:=by
     cases hi:P.info? fd.type with
     |some i=>exact⟨i,rfl⟩
     |none=>simp[Program.cellsOf,hi]at hz
    obtain⟨i,hi⟩:=hinfo
    split at h
    ·split at h
     ·rename_i cs hd
      cases h
      obtain⟨b,off,rfl,hv⟩:=hx.eptr_drop hd
      refine⟨_,?_,hv⟩
      simp[Instr.fieldAt,run_underlying hs,hf,Instr.sureAddr,fieldPlace,run_sizeOf w hi,hz,Addr.add_lit]
     ·cases h
    ·cases h
     cases hx with
     |bptr i' off b hb=>
      refine⟨_,?_,.bptr _ _ _ hb⟩
      simp[Instr.fieldAt,run_underlying hs,hf,Instr.sureAddr,fieldPlace,run_sizeOf w hi,hz,Addr.add_lit]
    ·cases h
  ·cases h
 ·cases h
theorem LW{t:TypeId}{x ix p:PVal}{vx vi:Value}(hx:VR Γ bs w x vx)(hi:VR Γ bs w ix vi)(h:iq P t x ix=some p):∃v,(Instr.indexAt t vx vi).run P w=.ok v w/\VR Γ bs w p v:=by
 unfold iq at h
 split at h
 ·rename_i e es k i ht
  cases hi
  split at h
  ·rename_i h0
   split at h
   ·rename_i el hel
    split at h
    ·rename_i hel2
     obtain⟨hsz',hinf⟩:=hel2
     obtain⟨inf,hinf⟩:=vaT.1 hinf
     cases h
     have hlt:=aq hel
     cases hx with
     |sliceNil=>simp at hlt
     |sliceE a cap=>simp at hlt
     | slice es b off cap n sz vals hz0 hcap hg hn hsz hc hv =>
      have hs:=hsz _ _ hel
      have hsz2:sz=P.cellsOf e:=by omega
      have hix:i<(es.length:Int):=by omega
      refine⟨.pointer (some ⟨b,off+i.toNat * sz,none⟩),?_,.eptr el b _ n (λk=>vals i.toNat k) hg ?_ (λk p hp=>hc _ _ _ _ hel hp) (λk p hp=>hv _ _ _ _ hel hp)⟩
      ·simp[Instr.indexAt,run_underlying ht,asIntOf,run_sizeOf w hinf,h0,hix,Addr.add_lit,hsz2]
      ·have h2:(i.toNat+1) * sz<=es.length * sz:=vaY sz hlt
       rw[vbo,vbY]at h2
       omega
    ·cases h
   ·cases h
  ·cases h
 ·rename_i e bx off n k i ht
  cases hi
  split at h
  ·rename_i hh
   obtain⟨h0,h1,hinf⟩:=hh
   obtain⟨inf,hinf⟩:=vaT.1 hinf
   cases h
   cases hx with
   | bsl _ _ _ x cap hcap hnil hxb =>
    rcases hxb with rfl|⟨b,rfl,hb⟩
    ·exact absurd h1 (by omega)
    ·refine⟨_,?_,.bptr _ _ _ hb⟩
     simp[Instr.indexAt,run_underlying ht,asIntOf,run_sizeOf w hinf,h0,h1,Addr.add_lit]
  ·cases h
 ·rename_i n e cs k i ht
  cases hi
  split at h
  ·rename_i hh
   obtain⟨h0,h1,hinf,hd⟩:=hh
   obtain⟨inf,hinf⟩:=vaT.1 hinf
   cases h
   obtain⟨b,off,rfl,hv⟩:=hx.eptr_drop hd
   refine⟨_,?_,hv⟩
   simp[Instr.indexAt,run_underlying ht,asIntOf,Instr.sureAddr,run_sizeOf w hinf,h0,h1,Addr.add_lit]
  ·cases h
 ·rename_i n e bx off k i ht
  cases hi
  split at h
  ·rename_i hh
   obtain⟨h0,h1,hinf⟩:=hh
   obtain⟨inf,hinf⟩:=vaT.1 hinf
   cases h
   cases hx with
   |bptr i' off b hb=>
    refine⟨_,?_,.bptr _ _ _ hb⟩
    simp[Instr.indexAt,run_underlying ht,asIntOf,Instr.sureAddr,run_sizeOf w hinf,h0,h1,Addr.add_lit]
  ·cases h
 ·cases h
end
section
variable{P:Program}{E:lh}{Γ:aP}{bs:be}{ow:Nat->Option iL}{w:World}{a:Array Value}{st:aB}
theorem Q9{t:TypeId}{cs:List PVal}{vs:Array Value}{off:Nat}{p:PVal}(hl:vs.size=cs.length)
  (hv:∀(i:Nat) q v,cs[i]? =some q->vs[i]? =some v->VR Γ bs w q v) (h:aY P t (cs.drop off)=some p):
  ∃v,(part t vs off).run P w=.ok v w/\VR Γ bs w p v:=by
 have hagg:∀{d},P.underlying t=some d->(match d with|.struct _|.array _ _=>True|_=>False)->P.cellsOf t<=(cs.drop off).length->
   ∃v,(part t vs off).run P w=.ok v w/\VR Γ bs w (.agg ((cs.drop off).take (P.cellsOf t))) v:=by
  intro d hd hm hl'
  obtain⟨i,hi⟩:=sP hd
  refine⟨.agg (vs.extract off (off+P.cellsOf t)),?_,.agg _ _ ?_ λk q u hq hu=>?_⟩
  ·cases d<;>simp at hm<;>simp[part,isAgg,run_underlying hd,run_sizeOf w hi]
  ·simp at hl' ⊢;omega
  ·have hk:k<P.cellsOf t:=by have:=aq hq;simp at this;omega
   rw[vap hk,vbg]at hq
   have hlt:k<off+P.cellsOf t - off:=by omega
   rw[Array.getElem?_extract]at hu
   split at hu
   ·exact hv _ _ _ hq hu
   ·cases hu
 unfold aY at h
 split at h
 ·rename_i fs hd
  split at h
  ·cases h;exact hagg hd vzz ‹_›
  ·cases h
 ·rename_i n e hd
  split at h
  ·cases h;exact hagg hd vzz ‹_›
  ·cases h
 ·rename_i d hns hna hd
  rw[List.head?_drop]at h
  have hlt:off<vs.size:=by rw[hl];exact aq h
  refine⟨vs[off],?_,hv off _ _ h (by simp[hlt])⟩
  cases d<;>simp at hns hna<;>simp[part,isAgg,run_underlying hd,hlt]
 ·cases h
theorem SG{t:TypeId}{f:Nat}{x p:PVal}{vx:Value}(hx:VR Γ bs w x vx)(h:PU P t x f=some p):∃v,(Instr.field t vx f).run P w=.ok v w/\VR Γ bs w p v:=by
 unfold PU at h
 split at h
 ·rename_i fs cs ht
  split at h
  ·rename_i fd hf
   cases hx with
   |agg cs vs hl hv=>
    obtain⟨v,hr,hp⟩:=Q9 hl hv h
    exact⟨v,by simp[Instr.field,run_underlying ht,hf,asAgg,hr],hp⟩
  ·cases h
 ·cases h
theorem SH{t:TypeId}{x ix p:PVal}{vx vi:Value}(hx:VR Γ bs w x vx)(hi:VR Γ bs w ix vi)(h:yk P t x ix=some p):∃v,(Instr.index t vx vi).run P w=.ok v w/\VR Γ bs w p v:=by
 unfold yk at h
 split at h
 ·rename_i n e cs k i ht
  cases hi
  split at h
  ·rename_i hh
   obtain⟨h0,h1,hinf⟩:=hh
   obtain⟨inf,hinf⟩:=vaT.1 hinf
   cases hx with
   |agg cs vs hl hv=>
    obtain⟨v,hr,hp⟩:=Q9 hl hv h
    exact⟨v,by simp[Instr.index,run_underlying ht,asIntOf,h0,h1,run_sizeOf w hinf,hr],hp⟩
  ·cases h
 ·rename_i s k i ht
  cases hi;cases hx
  split at h
  ·rename_i h0
   simp only[vaJ]at h
   obtain⟨c,hc,rfl⟩:=h
   have hlt:=aq hc
   have hlt':i.toNat<(ByteArray.mk s.toArray).size:=by show i.toNat<s.toArray.size;simpa using hlt
   have hget:(ByteArray.mk s.toArray)[i.toNat]? =some c:=by
    rw[getElem?_pos (ByteArray.mk s.toArray) i.toNat hlt']
    congr 1
    show s.toArray[i.toNat]=c
    rw[vab hlt]at hc
    simpa using hc
   exact⟨_,by simp[Instr.index,run_underlying ht,asIntOf,h0,hget],.int _ _⟩
  ·cases h
 ·cases h
theorem FF{x p:PVal}{vx:Value}{i:Nat}(hx:VR Γ bs w x vx)(h:nS x i=some p):∃v,(Instr.extract vx i).run P w=.ok v w/\VR Γ bs w p v:=by
 unfold nS at h
 split at h
 ·cases hx with
  |tuple cs vs hl hv=>
   have hlt:i<vs.size:=by rw[hl];exact aq h
   exact⟨vs[i],by simp[Instr.extract,hlt],hv i _ _ h (by simp[hlt])⟩
 ·cases h
theorem nY{k:IntKind}{i:Int}{y:Nat}(code:BoundsCode)(h0:0<=i)(h1:i.toNat<=y):(Instr.sliceBound (.int k i) y code).run P w=.ok i.toNat w:=by
 have:i<=(y:Int):=by omega
 simp[Instr.sliceBound,asIntOf,h0,this]
theorem L3{x:Option PVal}{vx:Option Value}{d n:Nat}(h:Ju x d=some n)(r:∀p,x=some p->∃v,vx=some v/\VR Γ bs w p v)(e:x=none->vx=none):(vx=none/\n=d)\/∃k i,vx=some (.int k i)/\0<=i/\n=i.toNat:=by
 cases x with
 |none=>simp[Ju]at h;exact .inl ⟨e rfl,h.symm⟩
 |some p=>
  obtain⟨v,rfl,hv⟩:=r p rfl
  cases p<;>simp[Ju]at h
  cases hv
  exact .inr ⟨_,_,rfl,h.1,h.2.symm⟩
theorem jW{isSlice:Bool}{len cap:Nat}{lo hi:Option PVal}{vlo vhi:Option Value}{l h:Nat}(hlo:Ju lo 0=some l)(hhi:Ju hi len=some h)
  (rlo:∀p,lo=some p->∃v,vlo=some v/\VR Γ bs w p v) (nlo:lo=none->vlo=none) (rhi:∀p,hi=some p->∃v,vhi=some v/\VR Γ bs w p v) (nhi:hi=none->vhi=none)
  (hlh:l<=h) (hle:h<=len) (hlc:len<=cap):(Instr.sliceBounds isSlice len cap vlo vhi none).run P w=.ok (l,h,cap) w:=by
 rcases L3 hhi rhi nhi with⟨rfl,rfl⟩|⟨k,i,rfl,h0,rfl⟩<;>rcases L3 hlo rlo nlo with⟨rfl,rfl⟩|⟨k',i',rfl,h0',rfl⟩
 ·simp[Instr.sliceBounds]
 ·simp[Instr.sliceBounds,nY _ h0' hlh]
 ·simp[Instr.sliceBounds,nY _ h0 (vaH hle hlc)]
 ·simp[Instr.sliceBounds,nY _ h0 (vaH hle hlc),nY _ h0' hlh]
theorem SM{t:TypeId}{x p:PVal}{lo hi:Option PVal}{vx:Value}{vlo vhi:Option Value}(hx:VR Γ bs w x vx)
  (rlo:∀p,lo=some p->∃v,vlo=some v/\VR Γ bs w p v) (nlo:lo=none->vlo=none) (rhi:∀p,hi=some p->∃v,vhi=some v/\VR Γ bs w p v) (nhi:hi=none->vhi=none)
  (h:AO P t x lo hi none=some p):
  ∃v,(Instr.sliceAt t vx vlo vhi none).run P w=.ok v w/\VR Γ bs w p v:=by
 unfold AO at h
 split at h
 ·rename_i s ht _
  cases hx
  split at h
  ·rename_i l hh hl hhi
   split at h
   ·rename_i hb
    cases h
    have hb:=jW (P:=P) (isSlice:=false) (cap:=s.length) hl hhi rlo nlo rhi nhi hb.1 hb.2 (var _)
    refine⟨.string ⟨((s.take hh).drop l).toArray⟩,?_,.str _⟩
    have hsz:(ByteArray.mk s.toArray).size=s.length:=by show s.toArray.size=_;simp
    have hex:(ByteArray.mk s.toArray).extract l hh=ByteArray.mk ((s.take hh).drop l).toArray:=by
     apply ByteArray.ext
     apply vbO
     simp
     rw[List.drop_take]
    simp[Instr.sliceAt,Instr.slice,run_underlying ht,hsz,hb,hex]
   ·cases h
  ·cases h
 ·rename_i e es ht _
  split at h
  ·rename_i l hh hl hhi
   split at h
   ·rename_i hb
    obtain⟨hlh,hle,hinf,hel⟩:=hb
    obtain⟨inf,hinf⟩:=vaT.1 hinf
    cases h
    cases hx with
    |sliceNil=>
     have hb:=jW (P:=P) (isSlice:=true) (cap:=0) hl hhi rlo nlo rhi nhi hlh hle (var _)
     simp at hle;subst hle
     simp at hlh;subst hlh
     refine⟨.slice none 0 0,?_,.sliceNil⟩
     have hb':(Instr.sliceBounds true 0 0 vlo vhi none).run P w=.ok (0,0,0) w:=hb
     simp[Instr.sliceAt,Instr.slice,run_underlying ht,hb',run_sizeOf w hinf]
    |sliceE a cap=>
     have hb:=jW (P:=P) (isSlice:=true) (cap:=cap) hl hhi rlo nlo rhi nhi hlh hle (vaN _)
     simp at hle;subst hle
     simp at hlh;subst hlh
     refine⟨.slice (some a) 0 cap,?_,.sliceE a cap⟩
     have hb':(Instr.sliceBounds true 0 cap vlo vhi none).run P w=.ok (0,0,cap) w:=hb
     simp[Instr.sliceAt,Instr.slice,run_underlying ht,hb',run_sizeOf w hinf,Addr.add]
    | slice es b off cap n sz vals hz0 hcap hg hn hsz hc hv =>
     have hb:=jW (P:=P) (isSlice:=true) (cap:=cap) hl hhi rlo nlo rhi nhi hlh hle hcap
     have hlen:((es.take hh).drop l).length=hh - l:=by simp;omega
     have hget:∀{i:Nat} {x:List PVal},((es.take hh).drop l)[i]? =some x->es[l+i]? =some x:=by
      intro i x hx
      rw[vbg]at hx
      have:l+i<hh:=by have:=aq hx;simp at this;omega
      rwa[vap this]at hx
     have hszE:es≠[]->sz=P.cellsOf e:=by
      intro hne
      cases es with
      |nil=>exact absurd rfl hne
      |cons y ys=>rw[<-hel y (by simp)];exact(hsz 0 y rfl).symm
     have hmain:VR Γ bs w (.slice ((es.take hh).drop l)) (.slice (some ⟨b,if cap=l then off else off+l * sz,none⟩) (hh - l) (cap - l)):=by
      rw[<-hlen]
      have hmul:l * sz+(hh - l) * sz=hh * sz:=by rw[<-vbo];congr 1;omega
      have hmul2:hh * sz<=es.length * sz:=vaY sz hle
      by_cases hcl:cap=l
      ·have h0:(es.take hh).drop l=[]:=by apply vat;omega
       rw[h0,vah hcl]
       exact .slice [] b off (cap - l) n sz vals hz0 (by simp) hg (by simp;omega) (by simp) (by simp) (by simp)
      ·rw[van hcl]
       refine .slice _ b (off+l * sz) (cap - l) n sz (λi k=>vals (l+i) k) hz0 (by omega) hg (by rw[hlen];omega) (λi x hx=>hsz _ _ (hget hx)) (λi x k q hx hq=>?_) (λi x k q hx hq=>hv _ _ _ _ (hget hx) hq)
       have:=hc _ _ _ _ (hget hx) hq
       rw[vbo]at this
       rw[<-this]
       congr 2
       omega
     refine⟨_,?_,hmain⟩
     by_cases hne:es=[]
     ·subst hne
      simp at hle;subst hle
      simp at hlh;subst hlh
      have hb':(Instr.sliceBounds true 0 cap vlo vhi none).run P w=.ok (0,0,cap) w:=hb
      simp[Instr.sliceAt,Instr.slice,run_underlying ht,hb',run_sizeOf w hinf,Addr.add_lit]
     ·have:=hszE hne;subst this
      simp[Instr.sliceAt,Instr.slice,run_underlying ht,hb,run_sizeOf w hinf,Addr.add_lit]
      split<;>simp
   ·cases h
  ·cases h
 ·rename_i e bx off n ht _
  split at h
  ·rename_i l hh hl hhi
   split at h
   ·rename_i hb
    obtain⟨hlh,hle,hinf⟩:=hb
    obtain⟨inf,hinf⟩:=vaT.1 hinf
    cases h
    cases hx with
    | bsl _ _ _ x cap hcap hnil hxb =>
     have hb:=jW (P:=P) (isSlice:=true) (cap:=cap) hl hhi rlo nlo rhi nhi hlh hle hcap
     cases x with
     | none =>
      rcases hxb with rfl|⟨b,hb1,_⟩
      ·obtain rfl:hh=0:=by omega
       obtain rfl:l=0:=by omega
       refine⟨.slice none 0 cap,?_,.bsl _ _ _ _ _ (vaN _) hnil (.inl rfl)⟩
       simp[Instr.sliceAt,Instr.slice,run_underlying ht,hb,run_sizeOf w hinf]
      ·cases hb1
     | some ad =>
      by_cases hcl:cap=l
      ·subst hcl
       refine⟨.slice (some ad) (hh - cap) (cap - cap),?_,.bsl _ _ _ _ _ (by omega) (λh=>by cases h) (.inl (by omega))⟩
       simp[Instr.sliceAt,Instr.slice,run_underlying ht,hb,run_sizeOf w hinf]
      ·refine⟨.slice (some (ad.add (l * P.cellsOf e))) (hh - l) (cap - l),?_,.bsl _ _ _ _ _ (by omega) (λh=>by cases h) ?_⟩
       ·simp[Instr.sliceAt,Instr.slice,run_underlying ht,hb,run_sizeOf w hinf,hcl]
       ·rcases hxb with rfl|⟨b,hb1,hb2⟩
        ·exact .inl (by omega)
        ·cases hb1
         exact .inr ⟨b,by rw[Addr.add_lit],hb2⟩
   ·cases h
  ·cases h
 ·cases h
end
def jx(P:Program)(t:TypeId)(x:PVal)(H:List aA):Option PVal:=
 match x with
 |.eptr cs=>aY P t cs
 |.bptr i off=>match H[i]? with
  |some (.cells cs _)=>aY P t (cs.drop off)
  |_=>none
 |_=>none
def di(P:Program)(t:TypeId)(x v:PVal)(H:List aA):Option (List aA):=
 match x,cj v with
 | .bptr i off,some vs => match H[i]? with
  | some (.cells cs own) =>
   if vs.length=P.cellsOf t/\(P.info? t).isSome/\off+vs.length<=cs.length/\vs.all PVal.one then
    some (H.set i (.cells (cs.take off++vs++cs.drop (off+vs.length)) (own.filter λy=>y.1<off||off+vs.length<=y.1)))
   else none
  |_=>none
 |_,_=>none
def eD(P:Program)(t:TypeId):Option (List PVal):=((P.info? t).bind (·.zero)).map λz=>z.cells.toList.map absC
def kR:Value->Bool
 |.slice none 0 0=>true
 |_=>false
def IB(P:Program)(t:TypeId):List (Nat×TypeId):=
 match(P.info? t).bind (·.zero),P.cellTypes P.depth t with
 | some z,some ts => (List.range z.cells.size).filterMap fun j =>
   match z.cells[j]?,(ts[j]?).bind P.underlying with
   |some v,some (.slice e)=>if kR v then some (j,e)else none
   |_,_=>none
 |_,_=>[]
section
variable{P:Program}{E:lh}{Γ:aP}{bs:be}{ow:Nat->Option iL}{w:World}{a:Array Value}{st:aB}
theorem SR.box_cells(h:SR P E Γ bs ow w a st){i b:Nat}{cs:List PVal}{own:List (Nat×TypeId)}(hi:bs[i]? =some (some b))(hB:st.boxes[i]? =some (.cells cs own)):∃c t,w.heap[b]? =some (.cells c t (0,0))/\cs.length<=c.size/\(∀(j:Nat) p v,cs[j]? =some p->c[j]? =some v->VR Γ bs w p v)/\∀j,w.cell? ⟨b,j,none⟩=c[j]?:=by
 obtain⟨_,_,c,t,h1,h2,h3,_⟩:=h.bx i b _ hi hB
 exact⟨c,t,h1,h2,h3,λj=>cell_of_row w b j c t _ h1⟩
theorem SR.box_self(h:SR P E Γ bs ow w a st){i b:Nat}{cs:List PVal}{own:List (Nat×TypeId)}(hi:bs[i]? =some (some b))(hB:st.boxes[i]? =some (.cells cs own)){c:Array Value}{t:TypeId}{fr:Nat×Nat}(hc:w.heap[b]? =some (.cells c t fr)):D1 cs t c.size:=by
 obtain⟨_,_,c',t',h1,_,_,h4⟩:=h.bx i b _ hi hB
 rw[hc]at h1
 cases h1
 exact h4
theorem BW(h:SR P E Γ bs ow w a st){t:TypeId}{x p:PVal}{vx:Value}(hx:VR Γ bs w x vx)(hp:jx P t x st.boxes=some p):∃v,(Instr.loadAt t vx).run P w=.ok v w/\VR Γ bs w p v:=by
 unfold jx at hp
 split at hp
 ·cases hx with
  |eptrE b off=>
   obtain⟨v,hr,hv'⟩:=kW (w:=w) (Γ:=Γ) (bs:=bs) (b:=b) (off:=off) (vals:=λ_=>undef) hp (by simp) (by simp)
   exact⟨v,by simp[Instr.loadAt,Instr.sureAddr,hr],hv'⟩
  |eptr cs b off n vals hg hn hc hv=>
   obtain⟨v,hr,hv'⟩:=kW hp hc hv
   exact⟨v,by simp[Instr.loadAt,Instr.sureAddr,hr],hv'⟩
 ·rename_i i off
  split at hp
  ·rename_i cs own hB
   cases hx with
   | bptr i off b hi =>
    obtain⟨c,t',h1,h2,h3,h4⟩:=h.box_cells hi hB
    have hval:∀(k:Nat) q,(cs.drop off)[k]? =some q->w.cell? ⟨b,off+k,none⟩=some (c.getD (off+k) undef)/\VR Γ bs w q (c.getD (off+k) undef):=by
     intro k q hq
     rw[vbg]at hq
     have hlt:off+k<c.size:=vaM (aq hq) h2
     have hc:c[off+k]? =some (c.getD (off+k) undef):=by simp[vaF,hlt]
     exact⟨(h4 _).trans hc,h3 _ _ _ hq hc⟩
    obtain⟨v,hr,hv'⟩:=kW hp (vals:=λk=>c.getD (off+k) undef) (λk q hq=>(hval k q hq).1) (λk q hq=>(hval k q hq).2)
    exact⟨v,by simp[Instr.loadAt,Instr.sureAddr,hr],hv'⟩
  ·cases hp
 ·cases hp
theorem ir{α:Type}{cs vs:List α}{off:Nat}(h:off+vs.length<=cs.length)(j:Nat):(cs.take off++vs++cs.drop (off+vs.length))[j]? =if j<off then cs[j]? else if j<off+vs.length then vs[j - off]? else cs[j]?:=by
 have hlen:(cs.take off).length=off:=by simp;omega
 by_cases h1:j<off
 ·rw[vaL,vac (by omega),vap h1,vah h1]
 ·rw[van h1]
  by_cases h2:j<off+vs.length
  ·rw[vah h2,vac (by simp;omega),vaf (by omega),hlen]
  ·rw[van h2,vaf (by simp;omega),vbg]
   congr 1
   simp
   omega
theorem uV(w:World)(g:Nat)(cur cs:Array Value)(t:TypeId)(fr:Nat×Nat)(h:w.heap[g]? =some (.cells cur t fr)):(w.setRow g cs).heap[g]? =some (.cells cs t fr):=setRow_heap w g cur cs t fr h
theorem D1.splice{cs vs:List PVal}{t:TypeId}{n off:Nat}(h:D1 cs t n)(hv:∀v∈vs,v.one=true)(h2:off+vs.length<=cs.length):D1 (cs.take off++vs++cs.drop (off+vs.length)) t n:=by
 intro j i T hj
 have hl:(cs.take off++vs++cs.drop (off+vs.length)).length=cs.length:=by simp only[vam,vaQ,vbC];omega
 rw[hl]
 rw[ir h2]at hj
 by_cases h3:j<off
 ·rw[vah h3]at hj;exact h j i T hj
 ·rw[van h3]at hj
  by_cases h4:j<off+vs.length
  ·rw[vah h4]at hj
   have:=hv _ (vaA hj)
   cases this
  ·rw[van h4]at hj;exact h j i T hj
theorem uT(h:SR P E Γ bs ow w a st){t:TypeId}{x v:PVal}{vx vv:Value}{H:List aA}(hx:VR Γ bs w x vx)(hv:VR Γ bs w v vv)(hp:di P t x v st.boxes=some H):∃w',(Instr.storeAt t vx vv).run P w=.ok () w'/\SR P E Γ bs ow w' a {st with boxes:=H}/\Γ.Le w Γ w'/\
   ∀i off b,x=.bptr i off->bs[i]? =some (some b)->(∀(j:Nat) u,vv.cells[j]? =some u->w'.cell? ⟨b,off+j,none⟩=some u)/\∀b',b'≠b->w'.heap[b']? =w.heap[b']?:=by
 unfold di at hp
 split at hp
 ·rename_i i off vs hvs
  split at hp
  ·rename_i cs own hB
   split at hp
   ·rename_i hc
    obtain⟨h1,hinf,h2,h3⟩:=hc
    obtain⟨inf,hinf⟩:=vaT.1 hinf
    cases hp
    cases hx with
    | bptr i off b hi =>
     obtain⟨c,t',e1,e2,e3,e4⟩:=h.box_cells hi hB
     obtain⟨k1,k2⟩:=hv.cells hvs
     have hone:∀u∈vv.cells.toList,u.oneCell'=true:=by
      intro u hu
      obtain⟨j,hj⟩:=vbi.1 hu
      have hj':vv.cells[j]? =some u:=by simpa using hj
      have hlt:j<vs.length:=by rw[<-k1];exact(vaj.1 hj').1
      exact VR.one (k2 j _ u (vab hlt) hj') (vas.1 h3 _ (vaC hlt))
     have hst:=run_storeCells_at P b off t' vv.cells.toList 0 c w e1 (by simp;omega) hone
     simp only[Nat.add_zero,Array.length_toList]at hst
     have hsz:vv.cells.size=P.cellsOf t:=by omega
     refine⟨w.setRow b (c.toList.take off++vv.cells.toList++c.toList.drop (off+vv.cells.size)).toArray,?_,?_,?_,?_⟩
     ·simp[Instr.storeAt,Instr.sureAddr,storeVar,run_sizeOf w hinf,hsz,hst]
     ·have hheap:=uV w b c (c.toList.take off++vv.cells.toList++c.toList.drop (off+vv.cells.size)).toArray t' (0,0) e1
      refine h.box_write hi rfl rfl rfl (by simp) (λb' hb'=>setRow_other w b b' _ hb') ?_ (λb' L hL _=>hL) h.on ?_
      ·refine⟨_,t',hheap,?_,λj p u hp hu=>?_,?_⟩
       ·simp only[vb2,vam,vaQ,vbC,Array.length_toList];omega
       ·have hu':(c.toList.take off++vv.cells.toList++c.toList.drop (off+vv.cells.toList.length))[j]? =some u:=by simpa using hu
        rw[ir h2]at hp
        rw[ir (by simp;omega)]at hu'
        have hmono:∀{q u},VR Γ bs w q u->VR Γ bs (w.setRow b (c.toList.take off++vv.cells.toList++c.toList.drop (off+vv.cells.size)).toArray) q u:=λhq=>
         hq.mono (λb' m hb' _=>⟨m,hb',var _,λo _=>bZ (setRow_other w b b' _ (λe=>by subst e;have:=(h.bx i b' _ hi hB).1;rw[this]at hb';cases hb')) o⟩) (.refl _)
        by_cases hj:j<off
        ·rw[vah hj]at hp hu'
         exact hmono (e3 j p u hp (by simpa using hu'))
        ·rw[van hj]at hp hu'
         by_cases hj2:j<off+vs.length
         ·rw[vah hj2]at hp
          rw[vah (by simp;omega)]at hu'
          exact hmono (k2 _ p u hp (by simpa using hu'))
         ·rw[van hj2]at hp
          rw[van (by simp;omega)]at hu'
          exact hmono (e3 j p u hp (by simpa using hu'))
       ·have hs1:=(h.box_self hi hB e1).splice (off:=off) (λv hv=>vas.1 h3 v hv) h2
        have hs2:(c.toList.take off++vv.cells.toList++c.toList.drop (off+vv.cells.size)).toArray.size=c.size:=by simp only[vb2,vam,vaQ,vbC,Array.length_toList];omega
        rw[hs2];exact hs1
      ·intro cs' own' heq j e hj
       cases heq
       obtain⟨hj,hj2⟩:=bK hj
       simp only[va3,vao]at hj2
       obtain⟨v',r1,r2,r3⟩:=h.ob i j e cs own b hB hj hi
       refine⟨v',?_,r2.same λb' hb'=>⟨setRow_other w b b' _ (λe=>?_),rfl⟩,r3⟩
       ·rw[cell_of_row _ b j _ t' _ hheap]
        have:=ir (cs:=c.toList) (vs:=vv.cells.toList) (off:=off) (by simp;omega) j
        simp only[Array.length_toList]at this
        simp only[vby]
        rw[this]
        rw[e4]at r1
        split
        ·simpa using r1
        ·rw[van (by omega)];simpa using r1
       ·subst e
        obtain⟨n,xs,o1,o2⟩:=r2
        have:=(h.bx i b' _ hi hB).1
        rw[o2 b' hb']at this;cases this
     ·exact λb' m hb' _=>⟨m,hb',var _,λo _=>bZ (setRow_other w b b' _ (λe=>by subst e;have:=(h.bx i b' _ hi hB).1;rw[this]at hb';cases hb')) o⟩
     ·intro i2 off2 b2 hx2 hb2
      cases hx2
      have hbb:b2=b:=by rw[hi]at hb2;cases hb2;rfl
      subst hbb
      have hheap:=uV w b2 c (c.toList.take off++vv.cells.toList++c.toList.drop (off+vv.cells.size)).toArray t' (0,0) e1
      refine⟨λj u hu=>?_,λb' hb'=>setRow_other w b2 b' _ hb'⟩
      have hj:j<vv.cells.size:=(vaj.1 hu).1
      rw[cell_of_row _ b2 (off+j) _ t' _ hheap]
      have:=ir (cs:=c.toList) (vs:=vv.cells.toList) (off:=off) (by simp;omega) (off+j)
      simp only[Array.length_toList]at this
      simp only[vby]
      rw[this,van (by omega),vah (by omega),show off+j - off=j by omega]
      simpa using hu
   ·cases hp
  ·cases hp
 ·cases hp
theorem L6(h:SR P E Γ bs ow w a st){t:TypeId}{x v:PVal}{vx vv:Value}{H:List aA}(hx:VR Γ bs w x vx)(hv:VR Γ bs w v vv)(hp:di P t x v st.boxes=some H):∃w',(Instr.storeAt t vx vv).run P w=.ok () w'/\SR P E Γ bs ow w' a {st with boxes:=H}/\Γ.Le w Γ w':=by
 obtain⟨w',r1,r2,r3,_⟩:=uT h hx hv hp
 exact⟨w',r1,r2,r3⟩
end
def LU(place:Nat->Option (Nat×Nat))(cells:List PVal):List (Nat×PVal)->Option (List PVal)
 |[]=>some cells
 |(i,v)::rest=>
  match place i,cj v with
  |some (off,size),some vs=>if vs.length=size/\off+vs.length<=cells.length then LU place (cells.take off++vs++cells.drop (off+vs.length)) rest else none
  |_,_=>none
def dh(P:Program)(t:TypeId)(parts:List (Nat×PVal)):Option PVal:=
 match P.underlying t,eD P t with
 |some (.struct fs),some zs=>if fs.all (λf=>(P.info? f.type).isSome)then(LU (λi=>(fs[i]?).map λf=>(f.offset,P.cellsOf f.type)) zs parts).map .agg else none
 |some (.array _ e),some zs=>if(P.info? e).isSome then(LU (λi=>some (i * P.cellsOf e,P.cellsOf e)) zs parts).map .agg else none
 |_,_=>none
def AI(sz:Nat):Nat->List (Nat×PVal)->Option (List (List PVal))
 |_,[]=>some []
 |k,(i,v)::rest=>
  match cj v,AI sz (k+1) rest with
  |some vs,some r=>if i=k/\vs.length=sz then some (vs::r)else none
  |_,_=>none
def eV(P:Program)(t:TypeId)(len:Nat)(parts:List (Nat×PVal)):Option PVal:=
 match P.underlying t with
 |some (.slice e)=>match AI (P.cellsOf e) 0 parts with
  |some es=>if es.length=len/\(eD P e).isSome/\0<P.cellsOf e/\len * P.cellsOf e<=16777216/\((eD P e).map (·.length))=some (P.cellsOf e)then some (.slice es)else none
  |none=>none
 |_=>none
def AL(P:Program)(t:TypeId)(x:PVal)(H:List aA):Option PVal:=
 match P.underlying t,x with
 |some .string,.str s=>some (.int .i64 s.length)
 |some (.slice _),.slice es=>some (.int .i64 es.length)
 |some (.slice _),.bsl _ _ n=>some (.int .i64 n)
 |some (.array n _),_=>some (.int .i64 n)
 |some (.map _ _),.mapr i=>match H[i]? with
  |some (.map es)=>some (.int .i64 es.length)
  |_=>none
 |_,_=>none
def TU:PVal->PVal->Option PVal
 |.int k x,.int _ y=>some (.int k (if y>x then y else x))
 |_,_=>none
def TV:PVal->PVal->Option PVal
 |.int k x,.int _ y=>some (.int k (if y<x then y else x))
 |_,_=>none
def Iw(f:PVal->PVal->Option PVal):PVal->List PVal->Option PVal
 |x,[]=>some x
 |x,y::r=>match f x y with
  |some z=>Iw f z r
  |none=>none
section
variable{P:Program}{E:lh}{Γ:aP}{bs:be}{ow:Nat->Option iL}{w:World}{a:Array Value}{st:aB}
theorem jy{t:TypeId}{zs:List PVal}(h:eD P t=some zs):∃z,(zeroValue t).run P w=.ok z w/\zs=z.cells.toList.map absC/\(∃i,P.info? t=some i/\i.zero=some z):=by
 unfold eD at h
 simp only[vaJ,vbm]at h
 obtain⟨z,⟨i,hi,hz⟩,rfl⟩:=h
 exact⟨z,by simp[zeroValue,run_typeInfo w hi,hz],rfl,i,hi,hz⟩
theorem J0{z:Value}(j:Nat)(p:PVal)(v:Value)(hp:(z.cells.toList.map absC)[j]? =some p)(hv:z.cells[j]? =some v):VR Γ bs w p v:=by
 simp only[vav,va2,hv,vak,vax]at hp
 subst hp;exact .absC v
theorem VC(v:Value)(i:Nat)(T:TypeId):absC v≠.nptr i T:=by
 unfold absC
 split<;>simp
theorem Vm(z:Value)(t:TypeId):D1 (z.cells.toList.map absC) t z.cells.size:=by
 intro j i T hj
 rw[vav]at hj
 obtain⟨v,_,hv⟩:=vaJ.1 hj
 exact absurd hv (VC v i T)
def qfH:PVal->Bool
 |.nptr _ _=>true
 |_=>false
def Fx(l:List PVal):Bool:=l.all λp=>!qfH p
theorem WQ{l:List PVal}(h:Fx l=true)(j i:Nat)(T:TypeId):l[j]? ≠some (.nptr i T):=λhc=>by
 have:=vas.1 h _ (vaA hc)
 cases this
theorem HB{l:List PVal}(h:Fx l=true)(t:TypeId)(n:Nat):D1 l t n:=λj i T hj=>absurd hj (WQ h j i T)
def BQ(p:PVal):Option (List PVal):=(cj p).bind λcs=>if Fx cs=true then some cs else none
theorem SF{p:PVal}{cs:List PVal}(h:BQ p=some cs):cj p=some cs/\Fx cs=true:=by
 unfold BQ at h
 obtain⟨l,h1,h2⟩:=vbm.1 h
 split at h2
 ·cases h2;exact⟨h1,by assumption⟩
 ·cases h2
theorem LS{p:PVal}{cs:List PVal}(h:cj p=some cs)(hn:Fx cs=true):BQ p=some cs:=by
 unfold BQ
 rw[h,vaa,vah hn]
theorem LN(h:SR P E Γ bs ow w a st){t:TypeId}{id:Nat}{zs:List PVal}(hid:bs[id]? =some none)(hz:eD P t=some zs):∃v w',(Instr.alloc t true (.tuple #[])).run P w=.ok v w'/\SR P E Γ (bs.set id (some w.heap.size)) ow w' a {st with boxes:=st.boxes.set id (.cells zs (IB P t))}/\
   VR Γ (bs.set id (some w.heap.size)) w' (.bptr id 0) v/\bs.Sub (bs.set id (some w.heap.size))/\Γ.Le w Γ w':=by
 obtain⟨z,hr,rfl,i,hi,hz⟩:=jy (w:=w) hz
 refine⟨.pointer (some ⟨w.heap.size,0,none⟩),w.alloc (.cells z.cells t),?_,?_,.bptr _ _ _ (vae (aq hid)),λi b hb=>AQ hid hb,
  λb m hb _=>⟨m,hb,var _,λo' _=>bZ (dF w _ (h.lt_of_ghost hb)) o'⟩⟩
 ·simp[Instr.alloc,hr,newVar,newRow]
 ·refine h.alloc_box hid _ _ (λbs' _=>⟨z.cells,t,eJ w _,by simp,λj p v hp hv=>J0 j p v hp hv,Vm z t⟩) λcs own heq j e hj=>?_
  cases heq
  unfold IB at hj
  split at hj
  ·rename_i z' ts hz' hts
   have:z'=z:=by simp[hi,hz]at hz';exact hz'.symm
   subst this
   simp only[vbA,vbw]at hj
   obtain⟨j',hj',hj''⟩:=hj
   split at hj''
   ·rename_i v' e' hv' he'
    split at hj''
    ·rename_i hn
     cases hj''
     have:v'=.slice none 0 0:=by
      unfold kR at hn
      split at hn
      ·rfl
      ·cases hn
     subst this
     refine⟨_,?_,rfl,0,[],World.ownsRow_nil _ _ _ _,λb hb=>by simp[Value.ownBlock]at hb⟩
     rw[cell_of_row _ _ _ _ t _ (eJ w _)]
     exact hv'
    ·cases hj''
   ·cases hj''
  ·cases hj
theorem Ra(h:SR P E Γ bs ow w a st){t:TypeId}{id:Nat}{x:PVal}{vx:Value}{cs:List PVal}(hid:bs[id]? =some none)(hx:VR Γ bs w x vx)(hcn:BQ x=some cs):∃v w',(Instr.box t vx).run P w=.ok v w'/\SR P E Γ (bs.set id (some w.heap.size)) ow w' a {st with boxes:=st.boxes.set id (.cells cs [])}/\
   VR Γ (bs.set id (some w.heap.size)) w' (.bptr id 0) v/\bs.Sub (bs.set id (some w.heap.size))/\Γ.Le w Γ w':=by
 obtain⟨hc,hn⟩:=SF hcn
 obtain⟨k1,k2⟩:=hx.cells hc
 have hle:∀o,Γ.Le w Γ (w.alloc o):=λo b m hb _=>⟨m,hb,var _,λo' _=>bZ (dF w _ (h.lt_of_ghost hb)) o'⟩
 refine⟨.pointer (some ⟨w.heap.size,0,none⟩),w.alloc (.cells vx.cells t),?_,?_,.bptr _ _ _ (vae (aq hid)),λi b hb=>AQ hid hb,hle _⟩
 ·simp[Instr.box,newVar,newRow]
 ·exact h.alloc_box hid _ _ (λbs' hs=>⟨vx.cells,t,eJ w _,Nat.le_of_eq k1.symm,λj p v hp hv=>(k2 j p v hp hv).mono (hle _) hs,HB hn _ _⟩) λcs own heq j e hj=>by
   cases heq;simp at hj
theorem PY(h:SR P E Γ bs ow w a st){t:TypeId}{id:Nat}(hid:bs[id]? =some none):∃v w',(Instr.makeMap t none).run P w=.ok v w'/\SR P E Γ (bs.set id (some w.heap.size)) ow w' a {st with boxes:=st.boxes.set id (.map [])}/\
   VR Γ (bs.set id (some w.heap.size)) w' (.mapr id) v/\bs.Sub (bs.set id (some w.heap.size))/\Γ.Le w Γ w':=by
 have hle:∀o,Γ.Le w Γ (w.alloc o):=λo b m hb _=>⟨m,hb,var _,λo' _=>bZ (dF w _ (h.lt_of_ghost hb)) o'⟩
 refine⟨.map (some w.heap.size),w.alloc (.map #[] 0),?_,?_,.mapr _ _ (vae (aq hid)),λi b hb=>AQ hid hb,hle _⟩
 ·simp[Instr.makeMap]
 ·exact h.alloc_box hid _ _ (λbs' hs=>⟨#[],0,eJ w _,rfl,λj k u x hp _=>by simp at hp,by simp,by simp⟩) λcs own heq=>by cases heq
theorem BV{place place':Nat->Option (Nat×Nat)}(hpl:∀i x,place i=some x->place' i=some x):∀(parts:List (Nat×PVal)) (vs:List (Nat×Value)) (cells:List PVal) (cv:Array Value) {out:List PVal},
  parts.length=vs.length->(∀(j:Nat) p v,parts[j]? =some p->vs[j]? =some v->p.1=v.1/\VR Γ bs w p.2 v.2)->
  cv.size=cells.length->(∀(j:Nat) p v,cells[j]? =some p->cv[j]? =some v->VR Γ bs w p v)->LU place cells parts=some out->
  ∃ov,Instr.fill place' cv vs=some ov/\ov.size=out.length/\∀(j:Nat) p v,out[j]? =some p->ov[j]? =some v->VR Γ bs w p v
 |[],[],cells,cv,out,_,_,hs,hc,ho=>by
  simp only[LU,vax]at ho
  subst ho
  exact⟨cv,rfl,hs,hc⟩
 |[],_::_,_,_,_,hl,_,_,_,_=>by simp at hl
 |_::_,[],_,_,_,hl,_,_,_,_=>by simp at hl
 | (i,p) :: rest,(i',v) :: vs,cells,cv,out,hl,hv,hs,hc,ho => by
  obtain⟨rfl,hpv⟩:=hv 0 (i,p) (i',v) rfl rfl
  simp only[LU]at ho
  split at ho
  ·rename_i off size ps hpi hps
   split at ho
   ·rename_i hh
    obtain⟨h1,h2⟩:=hh
    obtain⟨k1,k2⟩:=VR.cells hpv hps
    replace k1:v.cells.size=ps.length:=k1
    have hfold:∀(l:List Value) (k:Nat) (cv:Array Value),off+k+l.length<=cv.size->
      ((l.zipIdx k).foldl (λcs (c,j)=>cs.setIfInBounds (off+j) c) cv).toList=cv.toList.take (off+k)++l++cv.toList.drop (off+k+l.length):=by
     intro l
     induction l with
     |nil=>intro k cv _;simp
     | cons u l ih =>
      intro k cv hle
      simp only[List.zipIdx_cons,List.foldl_cons]
      simp only[vau]at hle
      rw[ih (k+1) _ (by simp;omega)]
      apply vbf
      intro j
      rw[show off+(k+1)=off+k+1 from by omega]
      have e1:=ir (cs:=(cv.setIfInBounds (off+k) u).toList) (vs:=l) (off:=off+k+1) (by simp;omega) j
      have e2:=ir (cs:=cv.toList) (vs:=u::l) (off:=off+k) (by simp;omega) j
      simp only[vau]at e2 ⊢
      rw[e1,e2]
      simp only[Array.toList_setIfInBounds,vbc]
      by_cases c1:j<off+k
      ·rw[vah (by omega),vah c1,van (by omega)]
      ·by_cases c2:j=off+k
       ·subst c2
        have a1:off+k<off+k+1:=by omega
        have a2:¬off+k<off+k:=by omega
        have a3:off+k<off+k+(l.length+1):=by omega
        have a4:off+k<cv.size:=by omega
        simp[a1,a3,a4]
       ·rw[van (by omega),van c1]
        by_cases c3:j<off+k+1+l.length
        ·rw[vah c3,vah (by omega),show j - (off+k)=(j - (off+k+1))+1 from by omega];simp
        ·rw[van c3,van (by omega),van (by omega)]
    have hcl:v.cells.toList.length=ps.length:=by simpa using k1
    have hsize:(v.cells.zipIdx.foldl (λcs (c,j)=>cs.setIfInBounds (off+j) c) cv).size=(cells.take off++ps++cells.drop (off+ps.length)).length:=by
     have:=hfold v.cells.toList 0 cv (by simp;omega)
     have h3:=vbd List.length this
     rw[<-vct]
     simp only[vcm]
     simp only[Array.length_toList]at h3
     rw[h3]
     simp
     omega
    have hcell:∀(j:Nat) q u,(cells.take off++ps++cells.drop (off+ps.length))[j]? =some q->
      (v.cells.zipIdx.foldl (λcs (c,j)=>cs.setIfInBounds (off+j) c) cv)[j]? =some u->VR Γ bs w q u:=by
     intro j q u hq hu
     have:=hfold v.cells.toList 0 cv (by simp;omega)
     rw[<-vct]at hu
     simp only[vcm]at hu
     rw[<-va2,this]at hu
     simp only[Nat.add_zero]at hu
     rw[ir (by simp;omega)]at hu
     rw[ir h2]at hq
     simp only[hcl]at hu
     by_cases c1:j<off
     ·rw[vah c1]at hq hu;exact hc j q u hq (by simpa using hu)
     ·rw[van c1]at hq hu
      by_cases c2:j<off+ps.length
      ·rw[vah c2]at hq hu;exact k2 _ q u hq (by simpa using hu)
      ·rw[van c2]at hq hu;exact hc j q u hq (by simpa using hu)
    obtain⟨ov,r1,r2,r3⟩:=BV hpl rest vs _ _ (by simpa using hl) (λj p v hp hv'=>hv (j+1) p v (by simpa using hp) (by simpa using hv')) hsize hcell ho
    refine⟨ov,?_,r2,r3⟩
    simp only[Instr.fill,hpl _ _ hpi]
    rw[van (by simp;omega)]
    exact r1
   ·cases ho
  ·cases ho
end
def mC(kd:TypeDesc)(k:PVal):Bool:=match kd,k with|.string,.str _=>true|.int q,.int q' _=>decide (q=q')|_,_=>false
def HM(P:Program)(t:TypeId):Option PVal:=((P.info? t).bind (·.zero)).map absV
def PW:PVal->PVal->Option Bool
 |.str a,.str b=>some (a==b)
 |.int k a,.int k' b=>if k=k' then some (a==b)else none
 |_,_=>none
def AK(k:PVal):List (PVal×PVal)->Nat->Option (Option (Nat×PVal))
 |[],_=>some none
 |(x,v)::r,i=>match PW k x with
  |some true=>some (some (i,v))
  |some false=>AK k r (i+1)
  |none=>none
def uR(P:Program)(t:TypeId)(m k:PVal)(ok:Bool)(H:List aA):Option PVal:=
 match P.underlying t,m with
 | some (.map kt e),.mapr i => match H[i]?,P.underlying kt with
  | some (.map es),some kd =>
   if mC kd k then
    match AK k es 0,HM P e with
    |some (some (_,v)),_=>some (if ok then .tuple [v,.bool true]else v)
    |some none,some z=>some (if ok then .tuple [z,.bool false]else z)
    |_,_=>none
   else none
  |_,_=>none
 |_,_=>none
def gG(P:Program)(t:TypeId)(m k v:PVal)(H:List aA):Option (List aA):=
 match P.underlying t,m with
 | some (.map kt _),.mapr i => match H[i]?,P.underlying kt with
  | some (.map es),some kd =>
   if mC kd k then
    match AK k es 0 with
    |some (some (j,_))=>some (H.set i (.map (es.set j (k,v))))
    |some none=>some (H.set i (.map (es++[(k,v)])))
    |none=>none
   else none
  |_,_=>none
 |_,_=>none
section
variable{P:Program}{E:lh}{Γ:aP}{bs:be}{ow:Nat->Option iL}{w:World}{a:Array Value}{st:aB}
theorem yi{t:TypeId}{parts:List (Nat×PVal)}{vs:List (Nat×Value)}{p:PVal}(hl:parts.length=vs.length)
  (hv:∀(j:Nat) p v,parts[j]? =some p->vs[j]? =some v->p.1=v.1/\VR Γ bs w p.2 v.2) (h:dh P t parts=some p):
  ∃v,(Instr.build t vs.toArray).run P w=.ok v w/\VR Γ bs w p v:=by
 unfold dh at h
 split at h
 ·rename_i fs zs ht hz
  obtain⟨z,hr,rfl,i,hi,hz'⟩:=jy (w:=w) hz
  split at h
  ·rename_i hall
   simp only[vaJ]at h
   obtain⟨out,ho,rfl⟩:=h
   have hplaces:∀(l:List Field),(∀f∈l,(P.info? f.type).isSome=true)->(l.mapM λf=>do pure (f.offset,<-sizeOf f.type):Sem (List (Nat×Nat))).run P w=.ok (l.map λf=>(f.offset,P.cellsOf f.type)) w:=by
    intro l hl
    induction l with
    |nil=>simp
    |cons f l ih=>
     obtain⟨inf,hinf⟩:=vaT.1 (hl f (by simp))
     have:=ih λg hg=>hl g (by simp[hg])
     simp only[vcd,Sem.run_bind,run_sizeOf w hinf,Result.andThen_ok,this,Sem.run_pure,vaz]
   have hp:(fs.mapM λf=>do pure (f.offset,<-sizeOf f.type):Sem (Array (Nat×Nat))).run P w=.ok (fs.map λf=>(f.offset,P.cellsOf f.type)) w:=by
    rw[vcx]
    simp only[Sem.run_map]
    rw[hplaces fs.toList λf hf=>by
     have:=vbv.1 hall f (by simpa using hf)
     simpa using this]
    simp only[Result.andThen_ok]
    exact vbd (λx=>Result.ok x w) (vbO (by simp))
   obtain⟨ov,r1,r2,r3⟩:=BV (place':=((fs.map λf=>(f.offset,P.cellsOf f.type))[·]?)) (λi x hx=>by simpa using hx) parts vs _ z.cells hl hv (by simp) (λj p v hp hv=>J0 j p v hp hv) ho
   refine⟨.agg ov,?_,.agg _ _ r2 r3⟩
   simp only[Instr.build,Sem.run_bind,hr,Result.andThen_ok,run_underlying ht,hp]
   rw[r1]
   simp
  ·cases h
 ·rename_i n e zs ht hz
  obtain⟨z,hr,rfl,i,hi,hz'⟩:=jy (w:=w) hz
  split at h
  ·rename_i hinf
   obtain⟨inf,hinf⟩:=vaT.1 hinf
   simp only[vaJ]at h
   obtain⟨out,ho,rfl⟩:=h
   obtain⟨ov,r1,r2,r3⟩:=BV (λi x hx=>hx) parts vs _ z.cells hl hv (by simp) (λj p v hp hv=>J0 j p v hp hv) ho
   refine⟨.agg ov,?_,.agg _ _ r2 r3⟩
   simp only[Instr.build,Sem.run_bind,hr,Result.andThen_ok,run_underlying ht,run_sizeOf w hinf]
   simp[r1]
  ·cases h
 ·cases h
theorem Xd(h:SR P E Γ bs ow w a st){t ty:TypeId}{x p:PVal}{vx:Value}(hx:VR Γ bs w x vx)(hp:AL P t x st.boxes=some p):∃v,(Builtin.len_ #[t] ty #[vx]).run P w=.ok v w/\VR Γ bs w p v:=by
 unfold AL at hp
 split at hp
 ·rename_i s ht
  cases hp;cases hx
  have hsz:(ByteArray.mk s.toArray).size=s.length:=by show s.toArray.size=_;simp
  exact⟨.int .i64 s.length,by simp[Builtin.len_,run_underlying ht,goInt,hsz],.int _ _⟩
 ·rename_i e es ht
  cases hp
  cases hx with
  |sliceNil=>exact⟨.int .i64 0,by simp[Builtin.len_,run_underlying ht,goInt],.int _ _⟩
  |sliceE a cap=>exact⟨.int .i64 0,by simp[Builtin.len_,run_underlying ht,goInt],.int _ _⟩
  |slice es b off cap n sz vals hz0 hcap hg hn hsz hc hv=>exact⟨.int .i64 es.length,by simp[Builtin.len_,run_underlying ht,goInt],.int _ _⟩
 ·rename_i e bx off n ht
  cases hp
  cases hx with
  |bsl _ _ _ x cap hcap hnil hxb=>exact⟨.int .i64 n,by simp[Builtin.len_,run_underlying ht,goInt],.int _ _⟩
 ·rename_i n e ht
  cases hp
  exact⟨.int .i64 n,by simp[Builtin.len_,run_underlying ht,goInt],.int _ _⟩
 ·rename_i k e i ht
  split at hp
  ·rename_i es hB
   cases hp
   cases hx with
   |mapr i b hi=>
    obtain⟨_,_,ents,clock,h1,h2,_⟩:=h.bx i b _ hi hB
    refine⟨.int .i64 es.length,?_,.int _ _⟩
    have hg:(getObj b).run P w=.ok (.map ents clock) w:=by simp[getObj,Sem.run,h1]
    simp[Builtin.len_,run_underlying ht,hg,goInt,h2]
  ·cases hp
 ·cases hp
theorem UW{x y p:PVal}{vx vy:Value}(hx:VR Γ bs w x vx)(hy:VR Γ bs w y vy)(h:TU x y=some p):∃v,(Builtin.max2 vx vy).run P w=.ok v w/\VR Γ bs w p v:=by
 unfold TU at h
 split at h
 ·cases h;cases hx;cases hy
  exact⟨_,by simp[Builtin.max2],.int _ _⟩
 ·cases h
theorem UX{x y p:PVal}{vx vy:Value}(hx:VR Γ bs w x vx)(hy:VR Γ bs w y vy)(h:TV x y=some p):∃v,(Builtin.min2 vx vy).run P w=.ok v w/\VR Γ bs w p v:=by
 unfold TV at h
 split at h
 ·cases h;cases hx;cases hy
  exact⟨_,by simp[Builtin.min2],.int _ _⟩
 ·cases h
theorem HJ{f:PVal->PVal->Option PVal}{g:Value->Value->Sem Value}(hfg:∀{x y p:PVal} {vx vy:Value},VR Γ bs w x vx->VR Γ bs w y vy->f x y=some p->∃v,(g vx vy).run P w=.ok v w/\VR Γ bs w p v):∀(l:List PVal) (vs:List Value) (x:PVal) (vx:Value) {p:PVal},l.length=vs.length->VR Γ bs w x vx->(∀(j:Nat) p v,l[j]? =some p->vs[j]? =some v->VR Γ bs w p v)->Iw f x l=some p->
  ∃v,(vs.foldlM g vx).run P w=.ok v w/\VR Γ bs w p v
 |[],[],x,vx,p,_,hx,_,h=>by simp only[Iw,vax]at h;subst h;exact⟨vx,by simp,hx⟩
 |[],_::_,_,_,_,hl,_,_,_=>by simp at hl
 |_::_,[],_,_,_,hl,_,_,_=>by simp at hl
 | y :: l,vy :: vs,x,vx,p,hl,hx,hv,h => by
  simp only[Iw]at h
  split at h
  ·rename_i z hz
   obtain⟨vz,r1,r2⟩:=hfg hx (hv 0 y vy rfl rfl) hz
   obtain⟨v,r3,r4⟩:=HJ hfg l vs z vz (by simpa using hl) r2 (λj p v hp hv'=>hv (j+1) p v (by simpa using hp) (by simpa using hv')) h
   exact⟨v,by simp[r1,r3],r4⟩
  ·cases h
end
end Go.Proofs.YtkdahfeiedaahaaGreatDoor
