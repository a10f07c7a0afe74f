/- PROVED: a part of the proof. Conditions: none. -/
import Derived.WalkKit
import Derived.ProofKit
import Derived.Test.YtankopenjcbeeaaGreatDoorPkO0
set_option linter.unusedSimpArgs false set_option linter.defProp false
set_option linter.unusedVariables false
noncomputable section
namespace Go.Proofs.YtankopenjcbeeaaGreatDoor
open Go
open Option renaming some→O,none→N
open Go renaming TypeId→G,Value→D,Program→I,Oper→M,World→J,Code→W
open Bool renaming true→T,false→Z
open Decidable renaming decide→Y
inductive PVal where
 |undef
 |int (k:IntKind) (n:Int)
 |bool (b:Bool)
 |str (s:List UInt8)
 |val (v:Value)
 |agg (cs:List PVal)
 |tuple (vs:List PVal)
 |slice (es:List (List PVal))
 |eptr (cs:List PVal)
 |bptr (i off:Nat)
 |bsl (i off n:Nat)
 |mapr (i:Nat)
 |nptr (i:Nat) (T:TypeId)
 |func (fn:Fn) (first cap:List PVal)
 deriving Inhabited
abbrev aS:=Nat->Q Nat
abbrev bC:=V (Q Nat)
inductive VR(Γ:aS)(bs:bC)(w:World):PVal->Value->Prop where
 |undef (v:Value):VR Γ bs w .undef v
 |int (k:IntKind) (n:Int):VR Γ bs w (.int k n) (.int k n)
 |bool (b:Bool):VR Γ bs w (.bool b) (.bool b)
 |str (l:List UInt8):VR Γ bs w (.str l) (.string ⟨l.toArray⟩)
 |val (v:Value):VR Γ bs w (.val v) v
 | agg (cs:List PVal) (vs:Array Value) (hl:vs.size = cs.length)
   (h:∀(i:Nat) p v,cs[i]? =some p->vs[i]? =some v->VR Γ bs w p v):VR Γ bs w (.agg cs) (.agg vs)
 | tuple (cs:List PVal) (vs:Array Value) (hl:vs.size = cs.length)
   (h:∀(i:Nat) p v,cs[i]? =some p->vs[i]? =some v->VR Γ bs w p v):VR Γ bs w (.tuple cs) (.tuple vs)
 |sliceNil:VR Γ bs w (.slice []) (.slice none 0 0)
 |sliceE (a:Addr) (cap:Nat):VR Γ bs w (.slice []) (.slice (some a) 0 cap)
 | slice (es:List (List PVal)) (b off cap n sz:Nat) (vals:Nat→Nat→Value) (h0:0 < sz) (hcap:es.length ≤ cap) (hg:Γ b = some n)
   (hn:off+es.length * sz<=n) (hsz:∀(i:Nat) e,es[i]? =some e->e.length=sz)
   (hc:∀(i:Nat) e (k:Nat) p,es[i]? =some e->e[k]? =some p->w.cell? ⟨b,off+i * sz+k,none⟩=some (vals i k))
   (hv:∀(i:Nat) e (k:Nat) p,es[i]? =some e->e[k]? =some p->VR Γ bs w p (vals i k)):
   VR Γ bs w (.slice es) (.slice (some ⟨b,off,none⟩) es.length cap)
 |eptrE (b off:Nat):VR Γ bs w (.eptr []) (.pointer (some ⟨b,off,none⟩))
 | eptr (cs:List PVal) (b off n:Nat) (vals:Nat→Value) (hg:Γ b = some n) (hn:off + cs.length ≤ n)
   (hc:∀(k:Nat) p,cs[k]? =some p->w.cell? ⟨b,off+k,none⟩=some (vals k))
   (hv:∀(k:Nat) p,cs[k]? =some p->VR Γ bs w p (vals k)):
   VR Γ bs w (.eptr cs) (.pointer (some ⟨b,off,none⟩))
 |bptr (i off b:Nat) (h:bs[i]? =some (some b)):VR Γ bs w (.bptr i off) (.pointer (some ⟨b,off,none⟩))
 |bsl (i off n:Nat) (x:Option Addr) (cap:Nat) (hcap:n<=cap) (hnil:x=none->cap=0) (h:n=0\/∃b,x=some ⟨b,off,none⟩/\bs[i]? =some (some b)):VR Γ bs w (.bsl i off n) (.slice x n cap)
 |mapr (i b:Nat) (h:bs[i]? =some (some b)):VR Γ bs w (.mapr i) (.map (some b))
 |nptrN (i:Nat) (T:TypeId):VR Γ bs w (.nptr i T) (.pointer none)
 |nptr (i b:Nat) (T:TypeId) (h:bs[i]? =some (some b)):VR Γ bs w (.nptr i T) (.pointer (some ⟨b,0,none⟩))
 | func (fn:Fn) (first cap:List PVal) (fs cs:Array Value) (hl:fs.size = first.length) (hl':cs.size = cap.length)
   (h:∀(i:Nat) p v,first[i]? =some p->fs[i]? =some v->VR Γ bs w p v)
   (h':∀(i:Nat) p v,cap[i]? =some p->cs[i]? =some v->VR Γ bs w p v):VR Γ bs w (.func fn first cap) (.func fn fs cs)
def aS.Le(Γ:aS)(w:J)(a:aS)(w':J):Prop:=∀b n,Γ b=O n->0<n->∃c,a b=O c/\n<=c/\∀o,o<n->w'.cell? ⟨b,o,N⟩=w.cell? ⟨b,o,N⟩
def aS.Le.refl(Γ:aS)(w:J):Γ.Le w Γ w:=λ_ n h _=>⟨n,h,l8 _,λ_ _=>rfl⟩
def aS.Le.trans{Γ c a:aS}{w w' w'':J}(h:Γ.Le w c w')(e:c.Le w' a w''):Γ.Le w a w'':=by intro b n r t;let⟨x,i,y,m⟩:=h b n r t;let⟨d,p,z,q⟩:=e b x i (by omega);exact⟨d,p,by omega,λo s=>(q o (by omega)).trans (m o s)⟩
def bC.Sub(c a:bC):Prop:=∀(i b:Nat),c[i]? =O (O b)->a[i]? =O (O b)
def bC.Sub.refl(bs:bC):bs.Sub bs:=λ_ _ h=>h
def RB{i k L sz:Nat}(a:i<L)(b:k<sz):i * sz+k<L * sz:=by have h:(i+1) * sz<=L * sz:=vbe sz a;rw[vbg,vcg]at h;omega
theorem aq{α:Type}{l:V α}{i:Nat}{x:α}(h:l[i]? =O x):i<l.length:=(vbO.1 h).1
def VR.mono{Γ q:aS}{A c:bC}{w w':J}{p:PVal}{v:D}(h:VR Γ A w p v)(m:Γ.Le w q w')(r:A.Sub c):VR q c w' p v:=by
 induction h with
 |undef v=>exact .undef v
 |int k n=>exact .int k n
 |bool b=>exact .bool b
 |str l=>exact .str l
 |val v=>exact .val v
 |agg cs vs hl _ ih=>exact .agg cs vs hl ih
 |tuple cs vs hl _ ih=>exact .tuple cs vs hl ih
 |sliceNil=>exact .sliceNil
 |sliceE a cap=>exact .sliceE a cap
 | slice es b off cap n sz vals h0 hcap hg hn hsz hc _ ih =>
  cases es with|nil=>exact .sliceE _ _|cons E es=>
  have B:0<(E::es).length * sz:=vdb (by simp) h0;let⟨z,d,s,t⟩:=m b n hg (by omega);refine .slice _ b off cap z sz vals h0 hcap d (by omega) hsz (λi e k p y o=>?_) ih;rw[t _ _];.exact hc i e k p y o
  .have:=RB (aq y) (show k<sz by have:=aq o;rw[hsz i e y]at this;exact this);omega
 |eptrE b off=>exact .eptrE b off
 |bsl i off n x cap hcap hnil h=>exact .bsl i off n x cap hcap hnil (h.imp_right λ⟨b,d,s⟩=>⟨b,d,r i b s⟩)
 |eptr cs b off n vals hg hn hc _ ih=>
  cases cs with|nil=>exact .eptrE _ _|cons c0 cs=>
  let⟨z,d,s,t⟩:=m b n hg (by simp at hn;omega);refine .eptr _ b off z vals d (by omega) (λk p o=>?_) ih;rw[t _ (by have:=aq o;omega)];exact hc k p o
 |bptr i off b h=>exact .bptr i off b (r i b h)
 |mapr i b h=>exact .mapr i b (r i b h)
 |nptrN i F=>exact .nptrN i F
 |nptr i b F h=>exact .nptr i b F (r i b h)
 |func fn first cap fs cs hl hl' _ _ ih ih'=>exact .func fn first cap fs cs hl hl' ih ih'
mutual
def PVal.cl(n:Nat):PVal->Prop|.undef|.int _ _|.bool _|.str _|.val _=>True|.agg cs=>ie n cs|.tuple cs=>ie n cs|.slice es=>C0 n es|.eptr cs=>ie n cs|.bptr i _=>i<n|.bsl i _ _=>i<n|.mapr i=>i<n|.nptr i _=>i<n|.func _ f c=>ie n f/\ie n c
def ie(n:Nat):List PVal->Prop|[]=>True|p::ps=>p.cl n/\ie n ps
def C0(n:Nat):List (List PVal)->Prop|[]=>True|p::ps=>ie n p/\C0 n ps
end
def qj{n:Nat}:∀{l:List PVal}{i:Nat}{p:PVal},ie n l->l[i]? =O p->p.cl n
 |[],i,p,_,h=>by simp at h
 |q::l,0,p,h,hp=>by simp at hp;subst hp;simp only[ie]at h;exact h.1
 |q::l,i+1,p,h,hp=>by simp only[ie]at h;exact qj h.2 (by simpa using hp)
def qa3{n:Nat}:∀{l:List (List PVal)}{i:Nat}{p:List PVal},C0 n l->l[i]? =O p->ie n p
 |[],i,p,_,h=>by simp at h
 |q::l,0,p,h,hp=>by simp at hp;subst hp;simp only[C0]at h;exact h.1
 |q::l,i+1,p,h,hp=>by simp only[C0]at h;exact qa3 h.2 (by simpa using hp)
def qda{n:Nat}:∀{l:List PVal},(∀p∈l,p.cl n)->ie n l
 |[],_=>by simp[ie]
 |p::l,h=>by simp only[ie];exact⟨h p (by simp),qda λq a=>h q (by simp[a])⟩
def qew{n:Nat}:∀{l:List (List PVal)},(∀p∈l,ie n p)->C0 n l
 |[],_=>by simp[C0]
 |p::l,h=>by simp only[C0];exact⟨h p (by simp),qew λq a=>h q (by simp[a])⟩
def VR.restrict{Γ:aS}{r o:bC}{w:J}{p:PVal}{v:D}{n:Nat}(h:VR Γ r w p v)(c:p.cl n)
  (q:∀(i b:Nat),i<n->r[i]? =O (O b)->o[i]? =O (O b)):VR Γ o w p v:=by
 induction h with
 |undef v=>exact .undef v
 |int k n=>exact .int k n
 |bool b=>exact .bool b
 |str l=>exact .str l
 |val v=>exact .val v
 |agg cs vs hl _ ih=>simp only[PVal.cl]at c;exact .agg cs vs hl λi p v d m=>ih i p v d m (qj c d)
 |tuple cs vs hl _ ih=>simp only[PVal.cl]at c;exact .tuple cs vs hl λi p v d m=>ih i p v d m (qj c d)
 |sliceNil=>exact .sliceNil
 |sliceE a cap=>exact .sliceE a cap
 |slice es b off cap n sz vals h0 hcap hg hn hsz hcc _ ih=>
  simp only[PVal.cl]at c
  exact .slice es b off cap n sz vals h0 hcap hg hn hsz hcc λi e k p s d=>ih i e k p s d (qj (qa3 c s) d)
 |eptrE b off=>exact .eptrE b off
 |bsl i off k x cap hcap hnil h=>simp only[PVal.cl]at c;exact .bsl i off k x cap hcap hnil (h.imp_right λ⟨b,t,y⟩=>⟨b,t,q i b c y⟩)
 |eptr cs b off n vals hg hn hcc _ ih=>
  simp only[PVal.cl]at c
  exact .eptr cs b off n vals hg hn hcc λk p d=>ih k p d (qj c d)
 |bptr i off b h=>simp only[PVal.cl]at c;exact .bptr i off b (q i b c h)
 |mapr i b h=>simp only[PVal.cl]at c;exact .mapr i b (q i b c h)
 |nptrN i z=>exact .nptrN i z
 |nptr i b z h=>simp only[PVal.cl]at c;exact .nptr i b z (q i b c h)
 |func fn first cap fs cs hl hl' _ _ ih ih'=>
  simp only[PVal.cl]at c
  exact .func fn first cap fs cs hl hl' (λi p v d m=>ih i p v d m (qj c.1 d)) (λi p v d m=>ih' i p v d m (qj c.2 d))
def VR.demote{Γ d:aS}{m:bC}{w:J}{p:PVal}{v:D}(h:VR Γ m w p v)(o:∀b n,Γ b=O n->0<n->d b=O n):VR d m w p v:=by
 induction h with
 |undef v=>exact .undef v
 |int k n=>exact .int k n
 |bool b=>exact .bool b
 |str l=>exact .str l
 |val v=>exact .val v
 |agg cs vs hl _ ih=>exact .agg cs vs hl ih
 |tuple cs vs hl _ ih=>exact .tuple cs vs hl ih
 |sliceNil=>exact .sliceNil
 |sliceE a cap=>exact .sliceE a cap
 | slice es b off cap n sz vals h0 hcap hgb hn hsz hc _ ih =>cases es with|nil=>exact .sliceE _ _|cons e es=>have:0<(e::es).length * sz:=vdb (by simp) h0;exact .slice _ b off cap n sz vals h0 hcap (o b n hgb (by omega)) hn hsz hc ih
 |eptrE b off=>exact .eptrE b off
 |bsl i off n x cap hcap hnil h=>exact .bsl i off n x cap hcap hnil h
 |eptr cs b off n vals hgb hn hc _ ih=>cases cs with|nil=>exact .eptrE _ _|cons c cs=>exact .eptr _ b off n vals (o b n hgb (by simp at hn;omega)) hn hc ih
 |bptr i off b h=>exact .bptr i off b h
 |mapr i b h=>exact .mapr i b h
 |nptrN i q=>exact .nptrN i q
 |nptr i b q h=>exact .nptr i b q h
 |func fn first cap fs cs hl hl' _ _ ih ih'=>exact .func fn first cap fs cs hl hl' ih ih'
inductive ay where
 |cells (cs:List PVal) (own:List (Nat×TypeId))
 |map (es:List (PVal×PVal))
 |dead
 deriving Inhabited
structure az where
 tmps:List PVal
 boxes:List ay
 own:List ((Nat×Nat)×TypeId)
inductive kg where
 |tmp (t k:Nat)
 |box (i j:Nat)
 deriving DecidableEq
structure qy where
 GE:List (Nat×List PVal)
 Γ:aS
 w:World
 T:Nat->Prop
def J2:D->Nat->Q D|.slice N _ _,_=>O (.slice N 0 0)|.slice (O a) n cap,k=>if cap=0 then O (.slice N 0 0)else if a.off % k=0 then O (.slice (O ⟨a.block,0,a.spot⟩) (n+a.off / k) (cap+a.off / k))else N|_,_=>N
def jz:D->Nat->Q D|.tuple vs,k=>vs[k]?|.agg vs,k=>vs[k]?|v,k=>if k=0 then O v else J2 v k
def eI(P:I)(Γ:aS)(w:J)(v:D)(e:G):Prop:=∃n a,w.ownsRow 0 e (P.cellsOf e) v n a/\∀b,v.ownBlock=O b->Γ b=O (n * P.cellsOf e)
def Jy(a:Array MapEntry)(b:Nat):Prop:=(a.toList.map (·.born)).Nodup/\∀x∈a.toList,x.born<b
def OS(a:V PVal)(t:G)(n:Nat):Prop:=∀(j i:Nat) b,a[j]? =O (.nptr i b)->t=b/\n=a.length
def BR(Γ:aS)(e:bC)(w:J):ay->Nat->Prop|.cells cs _,b=>∃c t,w.heap[b]? =O (.cells c t (0,0))/\cs.length<=c.size/\(∀(j:Nat) p v,cs[j]? =O p->c[j]? =O v->VR Γ e w p v)/\OS cs t c.size| .map es,b => ∃ a d,w.heap[b]? = O (.map a d)∧a.size = es.length ∧ (∀(j:Nat) k u x,es[j]? =O (k,u)->a[j]? =O x->VR Γ e w k x.key/\VR Γ e w u x.val)/\Jy a d|.dead,_=>True
set_option linter.unusedVariables false in
abbrev dr(w:J):Nat:=0
set_option linter.unusedVariables false in
def DY{w w':J}(h:w.drawn<=w'.drawn):dr w<=dr w':=by first|exact h|exact l8 _
structure qm2(E:qy)(Γ:aS)(w:World):Prop where
 os:w.os=E.w.os
 tape:w.tape=E.w.tape
 output:w.output=E.w.output
 size:E.w.heap.size<=w.heap.size
 drawn:dr E.w<=dr w
 keep:∀b,b<E.w.heap.size->¬E.T b->w.heap[b]? =E.w.heap[b]?/\Γ b=E.Γ b
 le:E.Γ.Le E.w Γ w
structure SR(P:Program)(E:qy)(Γ:aS)(bs:bC)(ow:Nat->Option kg)(w:World)(a:Array Value)(st:az):Prop where
 wi:∀b n,Γ b=some n->∃c t fr,w.heap[b]? =some (.cells c t fr)/\n<=c.size
 sz:a.size=st.tmps.length
 tm:∀(t:Nat) p v,st.tmps[t]? =some p->a[t]? =some v->VR Γ bs w p v
 bl:bs.length=st.boxes.length
 bx:∀(i b:Nat) B,bs[i]? =some (some b)->st.boxes[i]? =some B->Γ b=none/\b<w.heap.size/\BR Γ bs w B b
 inj:∀(i j b:Nat),bs[i]? =some (some b)->bs[j]? =some (some b)->i=j
 bn:∀(i b:Nat),bs[i]? =some (some b)->E.T b\/E.w.heap.size<=b
 on:∀b L,ow b=some L->b<w.heap.size/\(E.T b\/E.w.heap.size<=b)
 ot:∀t k e,((t,k),e)∈st.own->∃u v,a[t]? =some u/\jz u k=some v/\eI P Γ w v e/\∀b,v.ownBlock=some b->ow b=some (.tmp t k)
 ob:∀(i j:Nat) e cs own (b:Nat),st.boxes[i]? =some (.cells cs own)->(j,e)∈own->bs[i]? =some (some b)->
  ∃v,w.cell? ⟨b,j,none⟩=some v/\eI P Γ w v e/\∀b',v.ownBlock=some b'->ow b'=some (.box i j)
 gl:∀g cs,(g,cs)∈E.GE->VR Γ bs w (.eptr cs) (.pointer (some ⟨g,0,none⟩))
 gc:∀g cs,(g,cs)∈E.GE->ie 0 cs
 gx:∀g cs,(g,cs)∈E.GE->g<E.w.heap.size/\¬E.T g/\∃c t fr,E.w.heap[g]? =some (.cells c t fr)/\c.size=cs.length
 step:qm2 E Γ w
def BR.mono{Γ e:aS}{z d:bC}{w w':J}{B:ay}{b:Nat}(h:BR Γ z w B b)(a:Γ.Le w e w')(y:z.Sub d)
  (A:w'.heap[b]? =w.heap[b]?):BR e d w' B b:=by
 cases B with
 |cells cs own=>
  let⟨c,t,q,r,i,s⟩:=h
  exact⟨c,t,A.trans q,r,λj p v m o=>(i j p v m o).mono a y,s⟩
 |map es=>
  let⟨c,t,q,r,i,s⟩:=h
  exact⟨c,t,A.trans q,r,λj k u x m o=>⟨(i j k u x m o).1.mono a y,(i j k u x m o).2.mono a y⟩,s⟩
 |dead=>trivial
def Z4{w w':J}{base:Nat}{e:G}{size:Nat}{v:D}{n:Nat}{xs:V D}(h:w.ownsRow base e size v n xs)
  (d:∀b,v.ownBlock=O b->w'.heap[b]? =w.heap[b]?):w'.ownsRow base e size v n xs:=by
 let⟨c,a⟩:=h
 refine⟨c,?_⟩
 rcases a with a|⟨g,cap,cur,rfl,hg,hh,r⟩
 .exact .inl a
 .exact .inr ⟨g,cap,cur,rfl,hg,(d g rfl).trans hh,r⟩
def eI.same{P:I}{Γ a:aS}{w w':J}{v:D}{e:G}(h:eI P Γ w v e)
  (c:∀b,v.ownBlock=O b->w'.heap[b]? =w.heap[b]?/\a b=Γ b):eI P a w' v e:=by
 let⟨n,m,d,i⟩:=h
 exact⟨n,m,Z4 d λb h=>(c b h).1,λb h=>(c b h).2.trans (i b h)⟩
def eI.lt{P:I}{Γ:aS}{w:J}{v:D}{e:G}(h:eI P Γ w v e){b:Nat}(c:v.ownBlock=O b):b<w.heap.size:=by let⟨n,d,a,_⟩:=h;exact(a.lt b c).2
def bE{w w':J}{b:Nat}(h:w'.heap[b]? =w.heap[b]?)(o:Nat):w'.cell? ⟨b,o,N⟩=w.cell? ⟨b,o,N⟩:=World.cell?_of_block (a:=⟨b,o,N⟩) h
section
variable{P:I}{E:qy}{Γ:aS}{bs:bC}{m:Nat->Q kg}{w:J}{a:Array D}{st:az}
def SR.world(h:SR P E Γ bs m w a st){Γ':aS}{w':J}(a5:Nat->Prop)(o:Γ.Le w Γ' w')
  (a4:∀b n,Γ' b=O n->∃c t fr,w'.heap[b]? =O (.cells c t fr)/\n<=c.size)
  (a2:w'.os=w.os) (a3:w'.tape=w.tape) (H:w'.output=w.output) (R:w.heap.size<=w'.heap.size)
  (r:∀b,b<w.heap.size->¬a5 b->w'.heap[b]? =w.heap[b]?/\Γ' b=Γ b)
  (hM:∀b,a5 b->E.T b\/E.w.heap.size<=b) (y:∀(i b:Nat),bs[i]? =O (O b)->¬a5 b) (z:∀b L,m b=O L->¬a5 b) (a1:dr w<=dr w':=by first|exact l8 _|exact vch _|exact vbq _ _|assumption|omega):
  SR P E Γ' bs m w' a st:={
 wi:=a4
 sz:=h.sz
 tm:=λt p v hp hv=>(h.tm t p v hp hv).mono o (.refl _)
 bl:=h.bl
 bx:=λi b B d S=>by let⟨s,h2,q⟩:=h.bx i b B d S;have X:=r b h2 (y i b d);exact⟨X.2.trans s,by omega,q.mono o (.refl _) X.1⟩
 inj:=h.inj
 bn:=h.bn
 on:=λb L hL=>⟨R3 (h.on b L hL).1 R,(h.on b L hL).2⟩
 ot:=λt k e he=>by let⟨u,v,s,h2,q,x⟩:=h.ot t k e he;exact⟨u,v,s,h2,q.same λb d=>r b (q.lt d) (z b _ (x b d)),x⟩
 ob:=λi j e cs own b S hj d=>by let⟨v,s,q,x⟩:=h.ob i j e cs own b S hj d;have a0:=(h.bx i b _ d S).2.1;exact⟨v,(bE (r b a0 (y i b d)).1 j).trans s,q.same λb d=>r b (q.lt d) (z b _ (x b d)),x⟩
 gl:=λg cs hg=>(h.gl g cs hg).mono o (.refl _)
 gc:=h.gc
 gx:=h.gx
 step:={
  os:=a2.trans h.step.os
  tape:=a3.trans h.step.tape
  output:=H.trans h.step.output
  size:=m0 h.step.size R
  drawn:=m0 h.step.drawn a1
  keep:=λb d hT=>by have F:¬a5 b:=λX=>(hM b X).elim hT (λhx=>by omega);have A:b<w.heap.size:=R3 d h.step.size;let⟨k1,k2⟩:=h.step.keep b d hT;exact⟨(r b A F).1.trans k1,(r b A F).2.trans k2⟩
  le:=h.step.le.trans o}}
def SR.gnow(h:SR P E Γ bs m w a st){g:Nat}{cs:V PVal}(y:(g,cs)∈E.GE):g<w.heap.size/\(∀i b:Nat,bs[i]? =O (O b)->g≠b)/\m g=N/\∃c t fr,w.heap[g]? =O (.cells c t fr)/\c.size=cs.length:=by
 let⟨p,o,c,t,fr,q,r⟩:=h.gx g cs y;refine⟨R3 p h.step.size,λi b x e=>?_,?_,c,t,fr,((h.step.keep g p o).1).trans q,r⟩
 .subst e;rcases h.bn i g x with d|d;.exact o d
  .omega
 .cases s:m g with
  |none=>rfl
  | some L =>
   rcases(h.on g L s).2 with d|d;.exact absurd d o
   .omega
def bR{α:Type}{p:α->K}{l:V α}{x:α}(h:x∈l.filter p):x∈l/\p x=true:=by simpa using h
def SR.less(h:SR P E Γ bs m w a st){own:V ((Nat×Nat)×G)}(c:∀x∈own,x∈st.own):SR P E Γ bs m w a {st with own:=own}:={h with ot:=λt k e b=>h.ot t k e (c _ b),tm:=h.tm,bx:=h.bx,ob:=h.ob,sz:=h.sz,bl:=h.bl}
def SR.ow_drop(h:SR P E Γ bs m w a st){ow':Nat->Q kg}(H:∀b L,ow' b=O L->m b=O L)
  (R:∀t k e,((t,k),e)∈st.own->∀b,m b=O (.tmp t k)->ow' b=O (.tmp t k))
  (F:∀(i j:Nat) e d own,st.boxes[i]? =O (.cells d own)->(j,e)∈own->∀b,m b=O (.box i j)->ow' b=O (.box i j)):
  SR P E Γ bs ow' w a st:=
 { h with
  on:=λb L B=>h.on b L (H b L B)
  ot:=λt k e y=>by let⟨u,v,o,A,p,q⟩:=h.ot t k e y;exact⟨u,v,o,A,p,λb c=>R t k e y b (q b c)⟩
  ob:=λi j e d own b x z r=>by let⟨v,o,p,q⟩:=h.ob i j e d own b x z r;exact⟨v,o,p,λs c=>F i j e d own x z s (q s c)⟩}
def bI(d:Nat)(own:V ((Nat×Nat)×G)):V ((Nat×Nat)×G):=own.filter λx=>x.1.1 !=d
def ed{d:Nat}{own:V ((Nat×Nat)×G)}{x:(Nat×Nat)×G}(h:x∈bI d own):x∈own/\x.1.1≠d:=by simpa[bI]using h
def SR.set(h:SR P E Γ bs m w a st){d:Nat}{p:PVal}{v:D}(A:VR Γ bs w p v):SR P E Γ bs m w (a.setIfInBounds d v) {st with tmps:=st.tmps.set d p,own:=bI d st.own}:=
 { h with
  sz:=by simp[h.sz]
  tm:=λt q u b c=>by
   simp only[vbP]at b;rw[vba]at c;by_cases i:d=t
   .subst i;simp only[if_true]at b c;split at c
    .split at b;.cases c;cases b;exact A
     .cases b
    .cases c
   .simp only[i,if_false]at b c;exact h.tm t q u b c
  ot:=λt k e o=>by let⟨o,z⟩:=ed o;let⟨u,B,r,s,x,y⟩:=h.ot t k e o;refine⟨u,B,?_,s,x,y⟩;rw[vaI (λe=>z e.symm)];exact r}
end
section
variable{P:I}{E:qy}{Γ:aS}{bs:bC}{q:Nat->Q kg}{w:J}{a:Array D}{st:az}
def SR.addOwn(h:SR P E Γ bs q w a st){d k:Nat}{e:G}{u v:D}(hu:a[d]? =O u)(hv:jz u k=O v)(H:eI P Γ w v e)
  (z:∀b,v.ownBlock=O b->q b=N/\(E.T b\/E.w.heap.size<=b)):
  SR P E Γ bs (λb=>if v.ownBlock=O b then O (.tmp d k)else q b) w a {st with own:=((d,k),e)::st.own}:=
 { h with
  on:=λb L F=>by
   by_cases c:v.ownBlock=O b;.exact⟨H.lt c,(z b c).2⟩
   .simp only[c,if_false]at F;exact h.on b L F
  ot:=λt k' s o=>by
   simp only[x8]at o;rcases o with o|o;.cases o;exact⟨u,v,hu,hv,H,λb c=>by simp[c]⟩
   .let⟨u',B,x,S,y,p⟩:=h.ot t k' s o;refine⟨u',B,x,S,y,λb c=>?_⟩;have m:v.ownBlock≠O b:=λA=>by have:=(z b A).1;rw[p b c]at this;cases this
    simp only[m,if_false];exact p b c
  ob:=λi j s R own b X hj c=>by
   let⟨B,x,y,p⟩:=h.ob i j s R own b X hj c;refine⟨B,x,y,λb' r=>?_⟩;have m:v.ownBlock≠O b':=λA=>by have:=(z b' A).1;rw[p b' r]at this;cases this
   simp only[m,if_false];exact p b' r}
def SR.freeT(h:SR P E Γ bs q w a st)(t k:Nat):SR P E Γ bs (λb=>if q b=O (.tmp t k)then N else q b) w a {st with own:=st.own.filter λx=>x.1 !=(t,k)}:=by
 have p:=h.less (own:=st.own.filter λx=>x.1 !=(t,k)) (λx d=>(bR d).1);refine p.ow_drop (λb L m=>?_) (λz s e r b c=>?_) (λi j e A own B F b c=>?_)
 .split at m;.cases m
  .exact m
 .have:=(bR r).2;have o:¬(z=t/\s=k):=λ⟨x,y⟩=>by subst x;subst y;simp at this
  rw[hG];.exact c
  .rw[c];intro d;cases d;exact o ⟨rfl,rfl⟩
 .rw[hG];.exact c
  .rw[c];intro d;cases d
def G3{bs:bC}{id i b:Nat}{x:Q Nat}(c:bs[id]? =O N)(h:bs[i]? =O (O b)):(bs.set id x)[i]? =O (O b):=by
 rw[Pi];.exact h
 .intro e;subst e;rw[c]at h;cases h
def aS.put(Γ:aS)(b n:Nat):aS:=λx=>if x=b then O n else Γ x
def aS.put_same(Γ:aS)(b n:Nat):Γ.put b n b=O n:=by simp[aS.put]
def aS.put_other(Γ:aS){b n x:Nat}(h:x≠b):Γ.put b n x=Γ x:=by simp[aS.put,h]
def SR.lt_of_ghost(h:SR P E Γ bs q w a st){b n:Nat}(e:Γ b=O n):b<w.heap.size:=by let⟨c,t,fr,d,_⟩:=h.wi b n e;exact(vh.1 d).1
def gI(w:J)(o:Obj):(w.alloc o).heap[w.heap.size]? =O o:=heap_alloc_new w o
def alloc_old(w:J)(o:Obj){b:Nat}(h:b<w.heap.size):(w.alloc o).heap[b]? =w.heap[b]?:=by show(w.heap.push o)[b]? =_;rw[vcT,hG (by omega)]
def SR.alloc_imm(h:SR P E Γ bs q w a st)(c:Array D)(t:G)(n:Nat)(z:n<=c.size):SR P E (Γ.put w.heap.size n) bs q (w.alloc (.cells c t)) a st/\Γ.Le w (Γ.put w.heap.size n) (w.alloc (.cells c t)):=by
 have i:Γ.Le w (Γ.put w.heap.size n) (w.alloc (.cells c t)):=λb m d _=>by have r:=h.lt_of_ghost d;exact⟨m,(Γ.put_other (by omega)).trans d,l8 _,λo _=>bE (alloc_old w _ r) o⟩
 refine⟨h.world (λ_=>False) i (λb m d=>?_) rfl rfl rfl (by simp) (λb d _=>⟨alloc_old w _ d,Γ.put_other (by omega)⟩) (λ_ p=>p.elim) (λ_ _ _ p=>p) (λ_ _ _ p=>p),i⟩;by_cases e:b=w.heap.size;.subst e;rw[Γ.put_same]at d;cases d;exact⟨c,t,(0,0),gI w _,z⟩
 .rw[Γ.put_other e]at d;let⟨s,A,fr,x,y⟩:=h.wi b m d;exact⟨s,A,fr,(alloc_old w _ (h.lt_of_ghost d)).trans x,y⟩
def SR.drew(h:SR P E Γ bs q w a st):SR P E Γ bs q w.drew a st:=h.world (λ_=>False) (λ_ m c _=>⟨m,c,l8 _,λ_ _=>rfl⟩) h.wi rfl rfl rfl (l8 _) (λ_ _ _=>⟨rfl,rfl⟩) (λ_ b=>b.elim) (λ_ _ _ b=>b) (λ_ _ _ b=>b)
def SR.alloc_box(h:SR P E Γ bs q w a st){id:Nat}(a0:bs[id]? =O N)(o:Obj)(B:ay)
  (hB:∀S:bC,bs.Sub S->BR Γ S (w.alloc o) B w.heap.size) (L:∀R own,B=.cells R own->∀j e,(j,e)∈own->∃v,(w.alloc o).cell? ⟨w.heap.size,j,N⟩=O v/\v.ownBlock=N/\eI P Γ (w.alloc o) v e):
  SR P E Γ (bs.set id (O w.heap.size)) q (w.alloc o) a {st with boxes:=st.boxes.set id B}:=by
 have a1:Γ.Le w Γ (w.alloc o):=λ_ m c _=>⟨m,c,l8 _,λo' _=>bE (alloc_old w _ (h.lt_of_ghost c)) o'⟩
 have s:bs.Sub (bs.set id (O w.heap.size)):=λi b c=>G3 a0 c
 have A:=h.world (λ_=>False) (Γ':=Γ) (w':=w.alloc o) a1 (λb m c=>by
  let⟨c',t',fr,X,h2⟩:=h.wi b m c;exact⟨c',t',fr,(alloc_old w _ (h.lt_of_ghost c)).trans X,h2⟩) rfl rfl rfl (by simp) (λb c _=>⟨alloc_old w _ c,rfl⟩) (λ_ hx=>hx.elim) (λ_ _ _ hx=>hx) (λ_ _ _ hx=>hx)
 have y:id<bs.length:=aq a0
 have d:∀{i b:Nat},(bs.set id (O w.heap.size))[i]? =O (O b)->(i=id/\b=w.heap.size)\/(i≠id/\bs[i]? =O (O b)):=by
  intro i b c;by_cases x:i=id;.subst x;rw[pi y]at c;cases c;exact .inl ⟨rfl,rfl⟩
  .rw[Pi (λe=>x e.symm)]at c;exact .inr ⟨x,c⟩
 have F:∀{i:Nat}{B':ay},i≠id->(st.boxes.set id B)[i]? =O B'->st.boxes[i]? =O B':=by intro i B' x r;rwa[Pi (λe=>x e.symm)]at r
 have z:∀{B':ay},(st.boxes.set id B)[id]? =O B'->B'=B:=by intro B' r;rw[pi (by rw[<-h.bl];exact y)]at r;cases r;rfl
 exact{
  wi:=A.wi
  sz:=A.sz
  tm:=λt p v hp hv=>(A.tm t p v hp hv).mono (.refl _ _) s
  bl:=by simp[h.bl]
  bx:=λi b B' c r=>by
   rcases d c with⟨rfl,rfl⟩|⟨x,c⟩;.have:=z r;subst this;refine⟨?_,by simp,hB _ s⟩;cases hg:Γ w.heap.size with|none=>rfl|some m=>exact absurd (h.lt_of_ghost hg) (vb5 _)
   .let⟨X,h2,h3⟩:=A.bx i b B' c (F x r);exact⟨X,h2,h3.mono (.refl _ _) s rfl⟩
  inj:=λi j b x hj=>by
   rcases d x with⟨rfl,rfl⟩|⟨hi',c⟩<;>rcases d hj with⟨rfl,H⟩|⟨hj',hb''⟩;.rfl
   .have:=(A.bx j _ (st.boxes[j]'(by rw[<-h.bl];exact aq hb'')) hb'' (by simp)).2.1;have:=(h.bx j _ (st.boxes[j]'(by rw[<-h.bl];exact aq hb'')) hb'' (by simp)).2.1;omega
   .have:=(h.bx i _ (st.boxes[i]'(by rw[<-h.bl];exact aq c)) c (by simp)).2.1;omega
   .exact h.inj i j b c hb''
  bn:=λi b c=>by
   rcases d c with⟨rfl,rfl⟩|⟨x,c⟩;.exact .inr h.step.size
   .exact h.bn i b c
  on:=A.on
  ot:=A.ot
  ob:=λi j e R own b r hj c=>by
   rcases d c with⟨rfl,rfl⟩|⟨x,c⟩;.have:=z r;subst this;let⟨v,X,h2,h3⟩:=L R own rfl j e hj;exact⟨v,X,h3,λb' H=>by rw[h2]at H;cases H⟩
   .exact A.ob i j e R own b (F x r) hj c
  gl:=λg R hg=>(A.gl g R hg).mono (.refl _ _) s
  gc:=h.gc
  gx:=h.gx
  step:=A.step}
def SR.box_write(h:SR P E Γ bs q w a st){i b:Nat}(hi:bs[i]? =O (O b)){w':J}{B:ay}{ow':Nat->Q kg}
  (a9:w'.os=w.os) (ab:w'.tape=w.tape) (a5:w'.output=w.output) (S:w'.heap.size=w.heap.size)
  (hk:∀d,d≠b->w'.heap[d]? =w.heap[d]?) (hB:BR Γ bs w' B b)
  (A:∀d L,q d=O L->(∀j,L≠.box i j)->ow' d=O L) (a4:∀d L,ow' d=O L->d<w.heap.size/\(E.T d\/E.w.heap.size<=d))
  (a6:∀cs own,B=.cells cs own->∀j e,(j,e)∈own->∃v,w'.cell? ⟨b,j,N⟩=O v/\eI P Γ w' v e/\∀d,v.ownBlock=O d->ow' d=O (.box i j)) (a8:dr w<=dr w':=by first|exact l8 _|exact vch _|exact vbq _ _|assumption|omega):
  SR P E Γ bs ow' w' a {st with boxes:=st.boxes.set i B}:=by
 have z:i<st.boxes.length:=by rw[<-h.bl];exact aq hi
 have hg:Γ b=N:=(h.bx i b (st.boxes[i]'z) hi (by simp)).1
 have a3:∀{d n},Γ d=O n->d≠b:=λhb e=>by subst e;rw[hg]at hb;cases hb
 have R:Γ.Le w Γ w':=λd m hb _=>⟨m,hb,l8 _,λo' _=>bE (hk d (a3 hb)) o'⟩
 have a2:∀{v e},eI P Γ w v e->eI P Γ w' v e:=λ{v e} ho=>ho.same λd o=>by let⟨n,xs,X,h2⟩:=ho;exact⟨hk d (a3 (h2 d o)),rfl⟩
 have a1:∀{j:Nat}{B':ay},j≠i->(st.boxes.set i B)[j]? =O B'->st.boxes[j]? =O B':=by intro j B' H r;rwa[Pi (λe=>H e.symm)]at r
 have F:∀{B':ay},(st.boxes.set i B)[i]? =O B'->B'=B:=by intro B' r;rw[pi z]at r;cases r;rfl
 have a0:∀{j d:Nat},bs[j]? =O (O d)->j≠i->d≠b:=λH s e=>by subst e;exact s (h.inj _ _ _ H hi)
 exact{
  wi:=λd n o=>by let⟨c,t,fr,X,h2⟩:=h.wi d n o;exact⟨c,t,fr,(hk d (a3 o)).trans X,h2⟩
  sz:=h.sz
  tm:=λt p v hp hv=>(h.tm t p v hp hv).mono R (.refl _)
  bl:=by simp[h.bl]
  bx:=λj d B' o r=>by
   by_cases H:j=i
   .subst H;have:=F r;subst this;have:d=b:=by rw[hi]at o;cases o;rfl
    subst this;exact⟨hg,by rw[S];exact(h.bx j d (st.boxes[j]'z) hi (by simp)).2.1,hB⟩
   .let⟨X,h2,h3⟩:=h.bx j d B' o (a1 H r);exact⟨X,by rw[S];exact h2,h3.mono R (.refl _) (hk d (a0 o H))⟩
  inj:=h.inj
  bn:=h.bn
  on:=λd L hL=>⟨by rw[S];exact(a4 d L hL).1,(a4 d L hL).2⟩
  ot:=λt k e he=>by let⟨u,v,X,h2,h3,h4⟩:=h.ot t k e he;exact⟨u,v,X,h2,a2 h3,λd o=>A d _ (h4 d o) (λj hx=>by cases hx)⟩
  ob:=λj k e cs own d r H o=>by
   by_cases s:j=i
   .subst s;have:=F r;subst this;have:d=b:=by rw[hi]at o;cases o;rfl
    subst this;exact a6 cs own rfl k e H
   .let⟨v,X,h3,h4⟩:=h.ob j k e cs own d (a1 s r) H o;exact⟨v,(bE (hk d (a0 o s)) k).trans X,a2 h3,λx hx=>A x _ (h4 x hx) (λy hy=>by cases hy;exact s rfl)⟩
  gl:=λg cs hg=>(h.gl g cs hg).mono R (.refl _)
  gc:=h.gc
  gx:=h.gx
  step:={
   os:=a9.trans h.step.os
   tape:=ab.trans h.step.tape
   output:=a5.trans h.step.output
   size:=by rw[S];exact h.step.size
   drawn:=m0 h.step.drawn a8
   keep:=λd o hT=>by
    have a7:d≠b:=λe=>by subst e;exact(h.bn i d hi).elim hT (λhx=>by omega)
    let⟨k1,k2⟩:=h.step.keep d o hT;exact⟨(hk d a7).trans k1,k2⟩
   le:=h.step.le.trans R}}
end
def absC:D->PVal|.int k n=>.int k n|.bool b=>.bool b|.string s=>.str s.data.toList|.slice N 0 0=>.slice []|v=>.val v
def absV:D->PVal|.agg cs=>.agg (cs.toList.map absC)|v=>absC v
def VR.absC{Γ:aS}{a:bC}{w:J}(v:D):VR Γ a w (absC v) v:=by
 unfold Go.Proofs.YtankopenjcbeeaaGreatDoor.absC;split;.exact .int _ _
 .exact .bool _
 .rename_i s;exact .str s.data.toList
 .exact .sliceNil
 .exact .val _
def VR.absV{Γ:aS}{b:bC}{w:J}(v:D):VR Γ b w (absV v) v:=by
 unfold Go.Proofs.YtankopenjcbeeaaGreatDoor.absV;split;.rename_i c;refine .agg _ c (by simp) λi p v a d=>?_;simp only[o8,vaK,d,or,FS]at a;subst a;exact .absC v
 .exact .absC v
def Mg:List (Nat×List PVal)->Nat->PVal|[],_=>.undef|(g,cs)::r,x=>if g=x then .eptr cs else Mg r x
def opv(GE:V (Nat×V PVal))(a:V PVal):Operand->PVal|.tmp t=>a.getD t .undef|.const v=>absV v|.global g=>Mg GE g|.func f=>.func (.func f) [] []
def ZZ{GE:V (Nat×V PVal)}{g:Nat}:Mg GE g=.undef\/∃cs,(g,cs)∈GE/\Mg GE g=.eptr cs:=by
 induction GE with
 |nil=>exact .inl rfl
 | cons x r a =>
  let⟨h,cs⟩:=x;simp only[Mg];split;.rename_i e;subst e;exact .inr ⟨cs,by simp,rfl⟩
  .rcases a with a|⟨cs',h1,h2⟩;.exact .inl a
   .exact .inr ⟨cs',by simp[h1],h2⟩
section
variable{P:I}{E:qy}{Γ:aS}{bs:bC}{c:Nat->Q kg}{w:J}{a:Array D}{st:az}
def SR.opv(h:SR P E Γ bs c w a st)(o:V Deferred)(x:Operand):VR Γ bs w (opv E.GE st.tmps x) ((Act.mk a o).eval x):=by
 cases x with
 | tmp t =>
  show VR Γ bs w (st.tmps.getD t .undef) (a.getD t undef);by_cases d:t<a.size
  .have b:st.tmps[t]? =O (st.tmps[t]'(by rw[<-h.sz];exact d)):=by simp
   have e:a[t]? =O a[t]:=by simp[d]
   have:=h.tm t _ _ b e;rw[vav,b];simpa[vaG,d]using this
  .have:st.tmps[t]? =N:=vaU (by rw[<-h.sz];exact vb2 d);rw[vav,this];exact .undef _
 |const v=>exact .absV v
 | global g =>
  show VR Γ bs w (Mg E.GE g) _;rcases ZZ (GE:=E.GE) (g:=g)with b|⟨cs,b,e⟩;.rw[b];exact .undef _
  .rw[e];exact h.gl g cs b
 |func f=>exact .func _ [] [] #[] #[] rfl rfl (λi p v m _=>by simp at m) (λi p v m _=>by simp at m)
def _root_.Go.Proofs.YtankopenjcbeeaaGreatDoor.PVal.one:PVal->K|.undef|.agg _|.tuple _|.nptr _ _=>Z|.val v=>v.oneCell'|_=>T
def VR.one{p:PVal}{v:D}(h:VR Γ bs w p v)(b:p.one=T):v.oneCell'=true:=by cases h<;>first|rfl|(simp[PVal.one]at b;done)|exact b
def S0{v:D}(h:v.oneCell'=T):v.cells=#[v]:=by cases v<;>simp[Value.oneCell']at h<;>rfl
def bF:PVal->Q (V PVal)|.agg cs=>O cs|p=>if p.one then O [p]else N
def VR.cells{p:PVal}{v:D}{e:V PVal}(h:VR Γ bs w p v)(b:bF p=O e):v.cells.size=e.length/\∀(i:Nat) q u,e[i]? =O q->v.cells[i]? =O u->VR Γ bs w q u:=by
 have d:∀{p:PVal}{v:D},VR Γ bs w p v->p.one=T->v.cells.size=[p].length/\∀(i:Nat) q u,[p][i]? =O q->v.cells[i]? =O u->VR Γ bs w q u:=by intro p v h r;rw[S0 (VR.one h r)];refine⟨rfl,λi q u m o=>?_⟩;match i,m,o with|0,m,o=>simp at m o;subst m;subst o;exact h
 unfold bF at b;split at b;.cases b;cases h with|agg e vs hl h=>exact⟨hl,h⟩
 .split at b;.rename_i r;cases b;exact d h r
  .cases b
def cO(P:I)(t:G)(b:V PVal):Q PVal:=match P.underlying t with|some (.struct _)|some (.array _ _)=>if P.cellsOf t<=b.length then O (.agg (b.take (P.cellsOf t)))else N|some _=>b.head?|none=>N
def B6{t:G}{d:TypeDesc}(h:P.underlying t=O d):∃i,P.info? t=O i:=by unfold Program.underlying at h;cases b:P.info? t with|some i=>exact⟨i,rfl⟩|none=>simp[b]at h
def p8{t:G}{b off:Nat}{r:V PVal}{vals:Nat->D}{p:PVal}(h:cO P t r=O p)
  (B:∀(k:Nat) q,r[k]? =O q->w.cell? ⟨b,off+k,N⟩=O (vals k)) (L:∀(k:Nat) q,r[k]? =O q->VR Γ bs w q (vals k)):
  ∃v,(loadVar t ⟨b,off,N⟩).run P w=.ok v w/\VR Γ bs w p v:=by
 have m:∀{d},P.underlying t=O d->(match d with|.struct _|.array _ _=>True|_=>False)->P.cellsOf t<=r.length->
   ∃v,(loadVar t ⟨b,off,N⟩).run P w=.ok v w/\VR Γ bs w (.agg (r.take (P.cellsOf t))) v:=by
  intro d o S hl
  let⟨i,R⟩:=B6 o
  have s:=run_loadCells (P:=P) w ⟨b,off,N⟩ (P.cellsOf t) vals (λj hj=>by
   rw[Addr.add_lit];exact B j _ (m3 (by omega)))
  refine⟨.agg ((List.range (P.cellsOf t)).map vals).toArray,?_,.agg _ _ (by simp;omega) λk q u z H=>?_⟩
  .cases d<;>simp at S<;>simp[loadVar,isAgg,run_underlying o,run_sizeOf w R,s]
  .have F:k<P.cellsOf t:=by have:=aq z;simp at this;omega
   rw[vay F]at z
   simp[F]at H
   subst H
   exact L k q z
 unfold cO at h
 split at h
 .rename_i X o
  split at h
  .cases h;exact m o hV ‹_›
  .cases h
 .rename_i n e o
  split at h
  .cases h;exact m o hV ‹_›
  .cases h
 .rename_i d y x o
  cases r with
  |nil=>simp at h
  |cons q r=>
   simp at h;subst h
   have A:=B 0 q rfl
   simp only[Nat.add_zero]at A
   refine⟨vals 0,?_,L 0 q rfl⟩
   cases d<;>simp at y x<;>simp[loadVar,isAgg,run_underlying o,A]
 .cases h
end
def qiN:Nat:=4611686018427387904
def qnZ(k:IntKind)(a b:Int):Int:=k.wrap ((BitVec.ofInt k.bits a ^^^ BitVec.ofInt k.bits b).toNat:Int)
def qor(c:BinOp)(k:IntKind)(a b:Int):Q PVal:=match c with|.add=>O (.int k (k.wrap (a+b)))|.sub=>O (.int k (k.wrap (a - b)))|.mul=>O (.int k (k.wrap (a * b)))|.quo=>if b=0 then N else O (.int k (k.wrap (a.tdiv b)))|.rem=>if b=0 then N else O (.int k (a.tmod b))|.eql=>O (.bool (a==b))|.neq=>O (.bool (a !=b))|.lss=>O (.bool (Y (a<b)))|.leq=>O (.bool (Y (a<=b)))|.gtr=>O (.bool (Y (a>b)))|.geq=>O (.bool (Y (a>=b)))|.xor=>O (.int k (qnZ k a b))|_=>N
def qou(c:BinOp)(a b:V UInt8):Q PVal:=match c with|.add=>if a.length+b.length<=qiN then O (.str (a++b))else N|.eql=>O (.bool (a==b))|.neq=>O (.bool !(a==b))|.lss=>O (.bool (Op.bytesLess a b))|.leq=>O (.bool (Op.bytesLess a b||a==b))|.gtr=>O (.bool !(Op.bytesLess a b||a==b))|.geq=>O (.bool !(Op.bytesLess a b))|_=>N
def qfb(c:BinOp)(a b:K):Q PVal:=match c with|.eql=>O (.bool (a==b))|.neq=>O (.bool !(a==b))|_=>N
def GD(P:I)(d e:List PVal):List Field->Q K|[]=>O T|f::r=>if f.name= "_" then N else match GD P d e r,P.underlying f.type,d[f.offset]?,e[f.offset]? with|some b,O (.int _),O (.int k a),O (.int k' c)=>if k=k' then O ((a==c)&&b)else N|some b,O .string,O (.str a),O (.str c)=>O ((a==c)&&b)|some b,O .bool,O (.bool a),O (.bool c)=>O ((a==c)&&b)|_,_,_,_=>N
def Mq(P:I)(c:G)(a b:V PVal):Q K:=match P.stoodInHeld c,P.eqGuardType P.depth c,P.underlying c with|false,Z,O (.struct fs)=>GD P a b fs.toList|_,_,_=>N
def qdT(P:I)(c:BinOp)(d:G)(x y:PVal):Q PVal:=match x,y with
 |.int k a,.int k' b=>if k=k' then qor c k a b else N
 |.str a,.str b=>qou c a b
 |.bool a,.bool b=>match P.underlying d with|some .bool=>qfb c a b|_=>N
 |.agg xs,.agg ys=>match c with|.eql=>(Mq P d xs ys).map .bool|.neq=>(Mq P d xs ys).map λb=>.bool !b|_=>N
 |_,_=>N
def qrF(a:UnOp)(x:PVal):Q PVal:=match a,x with|.not,.bool b=>O (.bool !b)|.neg,.int k n=>O (.int k (k.wrap (0 - n)))|_,_=>N
def Ov:List (List PVal)->Q (List UInt8)|[]=>O []|[.int .u8 n]::r=>if 0<=n/\n<256 then(Ov r).map (UInt8.ofNat n.toNat::·)else N|_::_=>N
def Yw(P:I)(b a:G)(x:PVal):Q PVal:=match P.underlying b,P.underlying a,x with
 |some (.slice e),O .string,.slice es=>match P.underlying e with|some (.int .u8)=>(Ov es).map .str|_=>N
 |some (.int _),O (.int k),.int _ n=>O (.int k (k.wrap n))
 |some .string,O .string,.str s=>O (.str s)
 |_,_,_=>N
def nl(P:I)(s:G)(x:PVal)(f:Nat):Q PVal:=match P.underlying s with
 | some (.struct fs) =>match fs[f]? with
  |some fd=>if P.cellsOf fd.type=0 then N else match x with|.eptr cs=>if fd.offset<=cs.length then O (.eptr (cs.drop fd.offset))else N|.bptr i off=>O (.bptr i (off+fd.offset))|_=>N
  |none=>N
 |_=>N
def nn(P:I)(t:G)(x a:PVal):Q PVal:=match P.underlying t,x,a with
 | some (.slice e),.slice es,.int _ i =>if 0<=i then match es[i.toNat]? with|some el=>if el.length=P.cellsOf e/\(P.info? e).isSome then O (.eptr el)else N|none=>N else N
 |some (.slice e),.bsl b off n,.int _ i=>if 0<=i/\i<n/\(P.info? e).isSome then O (.bptr b (off+i.toNat * P.cellsOf e))else N
 |some (.array n e),.eptr cs,.int _ i=>if 0<=i/\i<n/\(P.info? e).isSome/\i.toNat * P.cellsOf e<=cs.length then O (.eptr (cs.drop (i.toNat * P.cellsOf e)))else N
 |some (.array n e),.bptr b off,.int _ i=>if 0<=i/\i<n/\(P.info? e).isSome then O (.bptr b (off+i.toNat * P.cellsOf e))else N
 |_,_,_=>N
def qai(P:I)(t:G)(x:PVal)(f:Nat):Q PVal:=match P.underlying t,x with
 |some (.struct fs),.agg cs=>match fs[f]? with|some fd=>cO P fd.type (cs.drop fd.offset)|none=>N
 |_,_=>N
def Ia(P:I)(t:G)(x a:PVal):Q PVal:=match P.underlying t,x,a with|some (.array n e),.agg cs,.int _ i=>if 0<=i/\i<n/\(P.info? e).isSome then cO P e (cs.drop (i.toNat * P.cellsOf e))else N|some .string,.str s,.int _ i=>if 0<=i then(s[i.toNat]?).map λc=>.int .u8 c.toNat else N|_,_,_=>N
def Cg(x:PVal)(i:Nat):Q PVal:=match x with|.tuple vs=>vs[i]? |_=>N
def Sq(x:Q PVal)(d:Nat):Q Nat:=match x with|none=>O d|some (.int _ i)=>if 0<=i then O i.toNat else N|some _=>N
def xo(P:I)(t:G)(x:PVal)(lo a b:Q PVal):Q PVal:=match P.underlying t,x,b with
 |some .string,.str s,N=>match Sq lo 0,Sq a s.length with|some l,O h=>if l<=h/\h<=s.length then O (.str ((s.take h).drop l))else N|_,_=>N
 |some (.slice e),.slice es,N=>match Sq lo 0,Sq a es.length with|some l,O h=>if l<=h/\h<=es.length/\(P.info? e).isSome/\(∀x∈es.take 1,x.length=P.cellsOf e)then O (.slice ((es.take h).drop l))else N|_,_=>N
 |some (.slice e),.bsl i off n,N=>match Sq lo 0,Sq a n with|some l,O h=>if l<=h/\h<=n/\(P.info? e).isSome then O (.bsl i (off+l * P.cellsOf e) (h - l))else N|_,_=>N
 |_,_,_=>N
section
variable{P:I}{E:qy}{Γ:aS}{bs:bC}{m:Nat->Q kg}{w:J}{a:Array D}{st:az}
def qjG{b:BinOp}{k:IntKind}{x y:Int}{p:PVal}(e:G)(c d:Operand)(h:qor b k x y=O p):∃v,(do eqGuard b e c d (.int k x) (.int k y);binOp b e (.int k x) (.int k y):Sem D).run P w=.ok v w/\VR Γ bs w p v:=by
  cases b<;>simp only[qor]at h
  all_goals first
    |(cases h;done)
    |(cases h;refine⟨_,?_,.int _ _⟩;simp[eqGuard,binOp,Op.intArith];done)
    |(cases h;refine⟨_,?_,.int _ _⟩;simp[eqGuard,binOp,Op.intBits,qnZ];done)
    |(cases h;refine⟨_,?_,.bool _⟩;simp[eqGuard,binOp,Op.intCmp];done)
    | (split at h
       .grind
       .cases h;refine⟨_,?_,.int _ _⟩;simp[eqGuard,binOp,Op.intDiv, *])
def qjS{c:BinOp}{x y:V UInt8}{p:PVal}(q:G)(e i:Operand)(h:qou c x y=O p):∃v,(do eqGuard c q e i (.string ⟨x.toArray⟩) (.string ⟨y.toArray⟩);binOp c q (.string ⟨x.toArray⟩) (.string ⟨y.toArray⟩):Sem D).run P w=.ok v w/\VR Γ bs w p v:=by
  cases c<;>simp only[qou]at h
  all_goals first
    |(cases h;done)
    |(cases h;refine⟨_,?_,.bool _⟩;simp[eqGuard,binOp,Op.stringOp];done)
    | (split at h
       . rename_i o
         cases h
         refine⟨.string ⟨(x++y).toArray⟩,?_,.str _⟩
         have d:¬(((ByteArray.mk x.toArray).size+(ByteArray.mk y.toArray).size:Nat):Int)>IntKind.i64.max:=by
           show ¬(((x.toArray.size+y.toArray.size:Nat):Int)>IntKind.i64.max);simp only[vbZ];have:(IntKind.i64.max:Int)=9223372036854775807:=by rfl
           grind [qiN]
         have b:ByteArray.mk x.toArray++ByteArray.mk y.toArray=ByteArray.mk (x++y).toArray:=by rfl
         simp only[eqGuard,binOp,Op.stringOp,hG d,b]
         simp
       grind)
def Wz{c:G}(b:P.underlying c=O .bool)(x y:K):(Op.equal c (.bool x) (.bool y)).run P w=.ok (x==y) w:=by show(Op.equalIn (9999+1) c (.bool x) (.bool y)).run P w=_;rw[Op.equalIn];simp[run_underlying b]
def PP{d:Nat}{R S:List PVal}{H F:Array D}(h1:∀(i:Nat) p v,R[i]? =O p->H[i]? =O v->VR Γ bs w p v)(h2:∀(i:Nat) p v,S[i]? =O p->F[i]? =O v->VR Γ bs w p v)
  (a2:H.size=R.length) (a3:F.size=S.length):∀{fs:List Field}{b:K},GD P R S fs=O b->(Op.eqFields (d+1) H F fs).run P w=.ok b w
 |[],b,h=>by cases h;rfl
 | f :: r,b,h => by
  unfold GD at h;split at h;.grind
  .rename_i hn
   have o:∀{x y:PVal}{X B:K}{a4:TypeDesc},P.underlying f.type=O a4->(match a4 with|.struct _|.array _ _=>False|_=>True)->R[f.offset]? =O x->S[f.offset]? =O y->GD P R S r=O B->
     (∀{v u},VR Γ bs w x v->VR Γ bs w y u->(Op.equalIn (d+1) f.type v u).run P w=.ok X w)->(Op.eqFields (d+1) H F (f::r)).run P w=.ok (X&&B) w:=by
    intro x y X B a4 e L z A t hk
    have ih:=PP h1 h2 a2 a3 (d:=d) t
    obtain⟨v,s⟩:∃v,H[f.offset]? =O v:=⟨_,vaM (by grind)⟩
    obtain⟨u,q⟩:∃u,F[f.offset]? =O u:=⟨_,vaM (by grind)⟩
    have a0:(part f.type H f.offset).run P w=.ok v w:=by cases a4<;>simp at L<;>simp[part,isAgg,run_underlying e,s]
    have a1:(part f.type F f.offset).run P w=.ok u w:=by cases a4<;>simp at L<;>simp[part,isAgg,run_underlying e,q]
    have hq:=hk (h1 _ _ _ z s) (h2 _ _ _ A q)
    unfold Op.eqFields
    rw[l7 hn]
    cases X<;>simp[a0,a1,hq,ih]
   split at h
   .rename_i B k' k a k2 c t e z A;split at h;.rename_i hk;subst hk;cases h;refine o e hV z A t λs q=>?_;cases s;cases q;exact run_equalIn_int w d f.type _ _ _ _ e
    grind
   .rename_i B a c t e z A;cases h;refine o e hV z A t λs q=>?_;cases s;cases q;rw[run_equalIn_string w d f.type _ _ e];simp
   .rename_i B a c t e z A;cases h;refine o e hV z A t λs q=>?_;cases s;cases q;exact run_equalIn_bool' w d f.type _ _ e
   grind
def Wa {e:BinOp} {a0:G} {x y p:PVal} {vx vy:D} (i:VR Γ bs w x vx) (o:VR Γ bs w y vy) (q r:Operand) (h:qdT P e a0 x y = O p) :∃ v,(do eqGuard e a0 q r vx vy; binOp e a0 vx vy:Sem D).run P w = .ok v w∧VR Γ bs w p v:=by
  unfold qdT at h;split at h
  . split at h
    . rename_i F; subst F
      cases i;cases o
      exact qjG a0 q r h
    grind
  . cases i; cases o
    exact qjS a0 q r h
  . split at h
    . rename_i A
      cases i;cases o
      cases e<;>simp only[qfb]at h
      all_goals first
        |grind
        |(cases h;refine⟨_,?_,.bool _⟩;simp[eqGuard,binOp,Wz A];done)
    grind
  . rename_i R S
    cases i with
    | agg _ vs hl1 hv1 =>
      cases o with
      | agg _ us hl2 hv2 =>
        have s:∀{b},Mq P a0 R S=O b->P.eqGuardType P.depth a0=Z/\(Op.equalIn 10000 a0 (.agg vs) (.agg us)).run P w=.ok b w:=by
          intro b c;unfold Mq at c;split at c
          . rename_i fs t z X
            have B:P.fieldsOf a0=fs:=by unfold Program.fieldsOf;grind
            refine⟨z,?_⟩
            rw[run_equalIn_struct w 9999 a0 vs us (by simp_all) t,B]
            exact PP (d:=9998) hv1 hv2 (by omega) (by omega) c
          simp_all
        cases e<;>simp only at h<;>first
          |grind
          | (rw [vaH] at h
             obtain⟨b,c,rfl⟩:=h
             let⟨H,L⟩:=s c
             refine⟨_,?_,.bool _⟩
             simp[run_eqGuard_agg w _ a0 q r vs us H,run_eql_struct,run_neq_struct,L])
  grind
def qlU{c:UnOp}{x p:PVal}{d:D}(b:VR Γ bs w x d)(h:qrF c x=O p):∃v,(Op.unary c d).run P w=.ok v w/\VR Γ bs w p v:=by
 unfold qrF at h;split at h;.cases h;cases b;exact⟨_,by rfl,.bool _⟩
 .cases h;cases b;exact⟨_,by rfl,.int _ _⟩
 grind
def Wb:∀{b:List (List PVal)}{l:List UInt8},Ov b=O l->b.length=l.length/\∀(i:Nat)(h:i<l.length),b[i]? =O [.int .u8 (l[i].toNat:Int)]
 |[],l,h=>by simp_all[Ov]
 | e :: r,l,h => by
  unfold Ov at h;split at h;.simp_all
  .rename_i n t d;cases d;split at h;.rename_i p;cases c:Ov r with|none=>simp_all| some l' =>rw[c]at h;cases h;let⟨q,s⟩:=Wb c;refine⟨by grind,λi o=>?_⟩;cases i with|zero=>simp only[List.getElem?_cons_zero,List.getElem_cons_zero,FS,vbQ,vcm,PVal.int.injEq,vce];grind [UInt8.toNat_ofNat_of_lt']|succ i=>grind
   grind
  grind
def qgT{d c:G}{x p:PVal}{L:D}(z:VR Γ bs w x L)(h:Yw P d c x=O p):∃v,(convert d c L).run P w=.ok v w/\VR Γ bs w p v:=by
 unfold Yw at h;split at h
 .rename_i e R i o;split at h
  .rename_i s;cases F:Ov R with
   |none=>simp_all
   | some l =>
    rw[F]at h;cases h;let⟨S,X⟩:=Wb F;cases z with
    |sliceNil=>
     have t:l=[]:=by grind
     subst t;refine⟨.string ⟨#[]⟩,?_,.str []⟩;rw[run_convert_bytes_string w d c e N 0 0 i s o];rfl
    |sliceE a cap=>
     have t:l=[]:=by grind
     subst t;exact⟨.string ⟨#[]⟩,run_convert_bytes_back w d c e a cap [] i s o (λj H=>by grind),.str []⟩
    |slice _ b off cap n sz vals hz0 hcap hg hn hsz hc hv=>
     refine⟨.string ⟨l.toArray⟩,?_,.str l⟩;rw[S];refine run_convert_bytes_back w d c e ⟨b,off,N⟩ cap l i s o λj H=>?_;have r:=X j H;have y:sz=1:=by grind
     subst y;have A:=hc j _ 0 _ r rfl;have B:=hv j _ 0 _ r rfl;rw[Addr.add_lit];rw[show off+j * 1+0=off+j by omega]at A;rw[A];generalize vals j 0=q at B;cases B;rfl
  grind
 .rename_i i o;cases h;cases z;exact⟨_,by simp[convert,run_underlying i,run_underlying o,Conv.intToInt],.int _ _⟩
 .rename_i i o;cases h;cases z;exact⟨_,by simp[convert,run_underlying i,run_underlying o],.str _⟩
 grind
def VR.eptr_drop{e:V PVal}{v:D}(h:VR Γ bs w (.eptr e) v){d:Nat}(o:d<=e.length):∃b c,v=.pointer (O ⟨b,c,N⟩)/\VR Γ bs w (.eptr (e.drop d)) (.pointer (O ⟨b,c+d,N⟩)):=by
 cases h with
 |eptrE b c=>exact⟨b,c,rfl,by simpa using .eptrE b (c+d)⟩
 | eptr e b c n vals hg hn hc hv =>
  refine⟨b,c,rfl,.eptr _ b (c+d) n (λk=>vals (d+k)) hg (by grind) (λk p i=>?_) (λk p i=>?_)⟩;.grind
  simp_all
def uS{s:G}{f:Nat}{x p:PVal}{z:D}(y:VR Γ bs w x z)(h:nl P s x f=O p):∃v,(Instr.fieldAt s z f).run P w=.ok v w/\VR Γ bs w p v:=by
 unfold nl at h;split at h
 .rename_i H t;split at h
  .rename_i q r;split at h;.grind
   .rename_i e;have c:∃i,P.info? q.type=O i:=by cases d:P.info? q.type with|some i=>simp|none=>simp[Program.cellsOf,d]at e
    let⟨i,d⟩:=c;split at h
    .split at h;.rename_i F A;cases h;obtain⟨b,o,rfl,B⟩:=y.eptr_drop A;refine⟨_,?_,B⟩;simp[Instr.fieldAt,run_underlying t,r,Instr.sureAddr,fieldPlace,run_sizeOf w d,e,Addr.add_lit]
     grind
    .cases h;cases y with|bptr i' o b hb=>refine⟨_,?_,.bptr _ _ _ hb⟩;simp[Instr.fieldAt,run_underlying t,r,Instr.sureAddr,fieldPlace,run_sizeOf w d,e,Addr.add_lit]
    grind
  grind
 grind
def Wf{t:G}{x ix p:PVal}{vx vi:D}(H:VR Γ bs w x vx)(F:VR Γ bs w ix vi)(h:nn P t x ix=O p):∃v,(Instr.indexAt t vx vi).run P w=.ok v w/\VR Γ bs w p v:=by
 unfold nn at h;split at h
 .rename_i e L k i r;cases F;split at h
  .rename_i q;split at h
   .rename_i el o;split at h
    .rename_i z;let⟨a0,c⟩:=z;let⟨s,c⟩:=vaS.1 c;cases h;have S:=aq o;cases H with
     |sliceNil=>simp_all
     |sliceE a cap=>simp_all
     | slice L b d cap n sz vals hz0 hcap hg hn hsz hc hv =>
      have hs:=hsz _ _ o;have B:sz=P.cellsOf e:=by omega
      have R:i<(L.length:Int):=by omega
      refine⟨.pointer (O ⟨b,d+i.toNat * sz,N⟩),?_,.eptr el b _ n (λk=>vals i.toNat k) hg ?_ (λk p X=>hc _ _ _ _ o X) (λk p X=>hv _ _ _ _ o X)⟩;.simp[Instr.indexAt,run_underlying r,asIntOf,run_sizeOf w c,q,R,Addr.add_lit,B]
      .have h2:(i.toNat+1) * sz<=L.length * sz:=vbe sz S;grind
    grind
   grind
  grind
 .rename_i e bx d n k i r;cases F;split at h
  .rename_i A;let⟨q,y,c⟩:=A;let⟨s,c⟩:=vaS.1 c;cases h;cases H with
   | bsl _ _ _ x cap hcap hnil hxb =>
    rcases hxb with rfl|⟨b,rfl,hb⟩;.omega
    .refine⟨_,?_,.bptr _ _ _ hb⟩;simp[Instr.indexAt,run_underlying r,asIntOf,run_sizeOf w c,q,y,Addr.add_lit]
  grind
 .rename_i n e cs k i r;cases F;split at h;.rename_i A;let⟨q,y,c,hd⟩:=A;let⟨s,c⟩:=vaS.1 c;cases h;obtain⟨b,d,rfl,hv⟩:=H.eptr_drop hd;refine⟨_,?_,hv⟩;simp[Instr.indexAt,run_underlying r,asIntOf,Instr.sureAddr,run_sizeOf w c,q,y,Addr.add_lit]
  grind
 .rename_i n e bx d k i r;cases F;split at h;.rename_i A;let⟨q,y,c⟩:=A;let⟨s,c⟩:=vaS.1 c;cases h;cases H with|bptr i' d b hb=>refine⟨_,?_,.bptr _ _ _ hb⟩;simp[Instr.indexAt,run_underlying r,asIntOf,Instr.sureAddr,run_sizeOf w c,q,y,Addr.add_lit]
  grind
 grind
end
section
variable{P:I}{E:qy}{Γ:aS}{bs:bC}{m:Nat->Q kg}{w:J}{a:Array D}{st:az}
def qb3{t:G}{r:V PVal}{vs:Array D}{off:Nat}{p:PVal}(L:vs.size=r.length)
  (B:∀(i:Nat) q v,r[i]? =O q->vs[i]? =O v->VR Γ bs w q v) (h:cO P t (r.drop off)=O p):
  ∃v,(part t vs off).run P w=.ok v w/\VR Γ bs w p v:=by
 have b:∀{d},P.underlying t=O d->(match d with|.struct _|.array _ _=>True|_=>False)->P.cellsOf t<=(r.drop off).length->
   ∃v,(part t vs off).run P w=.ok v w/\VR Γ bs w (.agg ((r.drop off).take (P.cellsOf t))) v:=by
  intro d c R x
  let⟨i,F⟩:=B6 c
  refine⟨.agg (vs.extract off (off+P.cellsOf t)),?_,.agg _ _ ?_ λk q u A s=>?_⟩
  .cases d<;>simp at R<;>simp[part,isAgg,run_underlying c,run_sizeOf w F]
  .simp at x ⊢;omega
  .have H:k<P.cellsOf t:=by have:=aq A;simp at this;omega
   rw[vay H,vbo]at A
   have o:k<off+P.cellsOf t - off:=by omega
   rw[Array.getElem?_extract]at s
   split at s
   .exact B _ _ _ A s
   .cases s
 unfold cO at h
 split at h
 .rename_i S c
  split at h
  .cases h;exact b c hV ‹_›
  .cases h
 .rename_i n e c
  split at h
  .cases h;exact b c hV ‹_›
  .cases h
 .rename_i d z y c
  rw[List.head?_drop]at h
  have o:off<vs.size:=by rw[L];exact aq h
  refine⟨vs[off],?_,B off _ _ h (by simp[o])⟩
  cases d<;>simp at z y<;>simp[part,isAgg,run_underlying c,o]
 .cases h
def qdY{t:G}{f:Nat}{x p:PVal}{b:D}(q:VR Γ bs w x b)(h:qai P t x f=O p):∃v,(Instr.field t b f).run P w=.ok v w/\VR Γ bs w p v:=by
 unfold qai at h;split at h
 .rename_i s c o;split at h;.rename_i r d;cases q with|agg c vs hl hv=>let⟨v,i,e⟩:=qb3 hl hv h;exact⟨v,by simp[Instr.field,run_underlying o,d,asAgg,i],e⟩
  .cases h
 .cases h
def qdZ{t:G}{x F p:PVal}{L H:D}(B:VR Γ bs w x L)(A:VR Γ bs w F H)(h:Ia P t x F=O p):∃v,(Instr.index t L H).run P w=.ok v w/\VR Γ bs w p v:=by
 unfold Ia at h;split at h
 .rename_i n e R k i z;cases A;split at h;.rename_i X;let⟨r,S,b⟩:=X;let⟨a0,b⟩:=vaS.1 b;cases B with|agg R vs hl hv=>let⟨v,hr,hp⟩:=qb3 hl hv h;exact⟨v,by simp[Instr.index,run_underlying z,asIntOf,r,S,run_sizeOf w b,hr],hp⟩
  .cases h
 .rename_i s k i z;cases A;cases B;split at h
  .rename_i r;simp only[vaH]at h;obtain⟨c,y,rfl⟩:=h;have o:=aq y;have q:i.toNat<(ByteArray.mk s.toArray).size:=by show i.toNat<s.toArray.size;simpa using o
   have d:(ByteArray.mk s.toArray)[i.toNat]? =O c:=by rw[getElem?_pos (ByteArray.mk s.toArray) i.toNat q];congr 1;show s.toArray[i.toNat]=c;rw[m3 o]at y;simpa using y
   exact⟨_,by simp[Instr.index,run_underlying z,asIntOf,r,d],.int _ _⟩
  .cases h
 .cases h
def Qt{x p:PVal}{c:D}{i:Nat}(d:VR Γ bs w x c)(h:Cg x i=O p):∃v,(Instr.extract c i).run P w=.ok v w/\VR Γ bs w p v:=by
 unfold Cg at h;split at h
 .cases d with
  |tuple cs vs hl hv=>
   have b:i<vs.size:=by rw[hl];exact aq h
   exact⟨vs[i],by simp[Instr.extract,b],hv i _ _ h (by simp[b])⟩
 .cases h
def vC{k:IntKind}{i:Int}{y:Nat}(b:BoundsCode)(c:0<=i)(d:i.toNat<=y):(Instr.sliceBound (.int k i) y b).run P w=.ok i.toNat w:=by
 have:i<=(y:Int):=by omega
 simp[Instr.sliceBound,asIntOf,c,this]
def Wj{x:Q PVal}{b:Q D}{d n:Nat}(h:Sq x d=O n)(r:∀p,x=O p->∃v,b=O v/\VR Γ bs w p v)(e:x=N->b=N):(b=N/\n=d)\/∃k i,b=O (.int k i)/\0<=i/\n=i.toNat:=by cases x with|none=>simp[Sq]at h;exact .inl ⟨e rfl,h.symm⟩|some p=>obtain⟨v,rfl,c⟩:=r p rfl;cases p<;>simp[Sq]at h;cases c;exact .inr ⟨_,_,rfl,h.1,h.2.symm⟩
def iR{isSlice:K}{len cap:Nat}{lo r:Q PVal}{c b:Q D}{l h:Nat}(s:Sq lo 0=O l)(q:Sq r len=O h)
  (z:∀p,lo=O p->∃v,c=O v/\VR Γ bs w p v) (x:lo=N->c=N) (y:∀p,r=O p->∃v,b=O v/\VR Γ bs w p v) (t:r=N->b=N)
  (o:l<=h) (e:h<=len) (d:len<=cap):(Instr.sliceBounds isSlice len cap c b N).run P w=.ok (l,h,cap) w:=by
 rcases Wj q y t with⟨rfl,rfl⟩|⟨k,i,rfl,h0,rfl⟩<;>rcases Wj s z x with⟨rfl,rfl⟩|⟨k',i',rfl,h0',rfl⟩
 .simp[Instr.sliceBounds]
 .simp[Instr.sliceBounds,vC _ h0' o]
 .simp[Instr.sliceBounds,vC _ h0 (m0 e d)]
 .simp[Instr.sliceBounds,vC _ h0 (m0 e d),vC _ h0' o]
def Ws{t:G}{x p:PVal}{lo hi:Q PVal}{vx:D}{vlo vhi:Q D}(A:VR Γ bs w x vx)
  (a0:∀p,lo=O p->∃v,vlo=O v/\VR Γ bs w p v) (R:lo=N->vlo=N) (X:∀p,hi=O p->∃v,vhi=O v/\VR Γ bs w p v) (L:hi=N->vhi=N)
  (h:xo P t x lo hi N=O p):
  ∃v,(Instr.sliceAt t vx vlo vhi N).run P w=.ok v w/\VR Γ bs w p v:=by
 unfold xo at h
 split at h
 .rename_i s ht _
  cases A
  split at h
  .rename_i l hh hl z
   split at h
   .rename_i r
    cases h
    have r:=iR (P:=P) (isSlice:=Z) (cap:=s.length) hl z a0 R X L r.1 r.2 (l8 _)
    refine⟨.string ⟨((s.take hh).drop l).toArray⟩,?_,.str _⟩
    have a2:(ByteArray.mk s.toArray).size=s.length:=by show s.toArray.size=_;simp
    have a7:(ByteArray.mk s.toArray).extract l hh=ByteArray.mk ((s.take hh).drop l).toArray:=by apply ByteArray.ext;apply vb0;simp;rw[List.drop_take]
    simp[Instr.sliceAt,Instr.slice,run_underlying ht,a2,r,a7]
   .cases h
  .cases h
 .rename_i e es ht _
  split at h
  .rename_i l hh hl z
   split at h
   .rename_i r
    let⟨o,d,c,a6⟩:=r
    let⟨a9,c⟩:=vaS.1 c
    cases h
    cases A with
    |sliceNil=>
     have r:=iR (P:=P) (isSlice:=T) (cap:=0) hl z a0 R X L o d (l8 _)
     simp at d;subst d
     simp at o;subst o
     refine⟨.slice N 0 0,?_,.sliceNil⟩
     have B:(Instr.sliceBounds T 0 0 vlo vhi N).run P w=.ok (0,0,0) w:=r
     simp[Instr.sliceAt,Instr.slice,run_underlying ht,B,run_sizeOf w c]
    |sliceE a cap=>
     have r:=iR (P:=P) (isSlice:=T) (cap:=cap) hl z a0 R X L o d (s5 _)
     simp at d;subst d
     simp at o;subst o
     refine⟨.slice (O a) 0 cap,?_,.sliceE a cap⟩
     have B:(Instr.sliceBounds T 0 cap vlo vhi N).run P w=.ok (0,0,cap) w:=r
     simp[Instr.sliceAt,Instr.slice,run_underlying ht,B,run_sizeOf w c,Addr.add]
    | slice es b S cap n sz vals hz0 hcap hg hn a2 hc hv =>
     have r:=iR (P:=P) (isSlice:=T) (cap:=cap) hl z a0 R X L o d hcap
     have a3:((es.take hh).drop l).length=hh - l:=by simp;omega
     have H:∀{i:Nat}{x:V PVal},((es.take hh).drop l)[i]? =O x->es[l+i]? =O x:=by
      intro i x A;rw[vbo]at A;have:l+i<hh:=by have:=aq A;simp at this;omega
      rwa[vay this]at A
     have a5:es≠[]->sz=P.cellsOf e:=by intro a1;cases es with|nil=>exact absurd rfl a1|cons y ys=>rw[<-a6 y (by simp)];exact(a2 0 y rfl).symm
     have a4:VR Γ bs w (.slice ((es.take hh).drop l)) (.slice (O ⟨b,if cap=l then S else S+l * sz,N⟩) (hh - l) (cap - l)):=by
      rw[<-a3];have ab:l * sz+(hh - l) * sz=hh * sz:=by rw[<-vbg];congr 1;omega
      have a8:hh * sz<=es.length * sz:=vbe sz d;by_cases F:cap=l
      .have h0:(es.take hh).drop l=[]:=by apply IO;omega
       rw[h0,l7 F];exact .slice [] b S (cap - l) n sz vals hz0 (by simp) hg (by simp;omega) (by simp) (by simp) (by simp)
      .rw[hG F];refine .slice _ b (S+l * sz) (cap - l) n sz (λi k=>vals (l+i) k) hz0 (by omega) hg (by rw[a3];omega) (λi x A=>a2 _ _ (H A)) (λi x k q A hq=>?_) (λi x k q A hq=>hv _ _ _ _ (H A) hq);have:=hc _ _ _ _ (H A) hq;rw[vbg]at this;rw[<-this];congr 2;omega
     refine⟨_,?_,a4⟩
     by_cases a1:es=[]
     .subst a1
      simp at d;subst d
      simp at o;subst o
      have B:(Instr.sliceBounds T 0 cap vlo vhi N).run P w=.ok (0,0,cap) w:=r
      simp[Instr.sliceAt,Instr.slice,run_underlying ht,B,run_sizeOf w c,Addr.add_lit]
     .have:=a5 a1;subst this
      simp[Instr.sliceAt,Instr.slice,run_underlying ht,r,run_sizeOf w c,Addr.add_lit]
      split<;>simp
   .cases h
  .cases h
 .rename_i e bx S n ht _
  split at h
  .rename_i l hh hl z
   split at h
   .rename_i r
    let⟨o,d,c⟩:=r
    let⟨a9,c⟩:=vaS.1 c
    cases h
    cases A with
    | bsl _ _ _ x cap hcap hnil hxb =>
     have r:=iR (P:=P) (isSlice:=T) (cap:=cap) hl z a0 R X L o d hcap
     cases x with
     | none =>
      rcases hxb with rfl|⟨b,hb1,_⟩
      .obtain rfl:hh=0:=by omega
       obtain rfl:l=0:=by omega
       refine⟨.slice N 0 cap,?_,.bsl _ _ _ _ _ (s5 _) hnil (.inl rfl)⟩
       simp[Instr.sliceAt,Instr.slice,run_underlying ht,r,run_sizeOf w c]
      .cases hb1
     | some ad =>
      by_cases F:cap=l
      .subst F
       refine⟨.slice (O ad) (hh - cap) (cap - cap),?_,.bsl _ _ _ _ _ (by omega) (λh=>by cases h) (.inl (by omega))⟩
       simp[Instr.sliceAt,Instr.slice,run_underlying ht,r,run_sizeOf w c]
      .refine⟨.slice (O (ad.add (l * P.cellsOf e))) (hh - l) (cap - l),?_,.bsl _ _ _ _ _ (by omega) (λh=>by cases h) ?_⟩
       .simp[Instr.sliceAt,Instr.slice,run_underlying ht,r,run_sizeOf w c,F]
       .rcases hxb with rfl|⟨b,hb1,hb2⟩
        .exact .inl (by omega)
        .cases hb1
         exact .inr ⟨b,by rw[Addr.add_lit],hb2⟩
   .cases h
  .cases h
 .cases h
end
def mt(P:I)(t:G)(x:PVal)(H:V ay):Q PVal:=match x with
 |.eptr cs=>cO P t cs
 |.bptr i off=>match H[i]? with|some (.cells cs _)=>cO P t (cs.drop off)|_=>N
 |_=>N
def fE(P:I)(t:G)(x v:PVal)(H:V ay):Q (V ay):=match x,bF v with
 | .bptr i off,O vs => match H[i]? with| some (.cells cs own) =>if vs.length=P.cellsOf t/\(P.info? t).isSome/\off+vs.length<=cs.length/\vs.all PVal.one then O (H.set i (.cells (cs.take off++vs++cs.drop (off+vs.length)) (own.filter λy=>y.1<off||off+vs.length<=y.1))) else N|_=>N
 |_,_=>N
def eR(P:I)(t:G):Q (V PVal):=((P.info? t).bind (·.zero)).map λz=>z.cells.toList.map absC
def pw:D->K|.slice N 0 0=>T|_=>Z
def Tj(P:I)(t:G):V (Nat×G):=match(P.info? t).bind (·.zero),P.cellTypes P.depth t with
 | some z,O ts => (List.range z.cells.size).filterMap fun j =>match z.cells[j]?,(ts[j]?).bind P.underlying with|some v,O (.slice e)=>if pw v then O (j,e)else N|_,_=>N
 |_,_=>[]
section
variable{P:I}{E:qy}{Γ:aS}{bs:bC}{d:Nat->Q kg}{w:J}{a:Array D}{st:az}
def SR.box_cells(h:SR P E Γ bs d w a st){i b:Nat}{e:V PVal}{own:V (Nat×G)}(s:bs[i]? =O (O b))(r:st.boxes[i]? =O (.cells e own)):∃c t,w.heap[b]? =O (.cells c t (0,0))/\e.length<=c.size/\(∀(j:Nat) p v,e[j]? =O p->c[j]? =O v->VR Γ bs w p v)/\∀j,w.cell? ⟨b,j,N⟩=c[j]?:=by let⟨_,_,c,t,m,o,q,_⟩:=h.bx i b _ s r;exact⟨c,t,m,o,q,λj=>cell_of_row w b j c t _ m⟩
def SR.box_self(h:SR P E Γ bs d w a st){i b:Nat}{e:V PVal}{own:V (Nat×G)}(r:bs[i]? =O (O b))(p:st.boxes[i]? =O (.cells e own)){c:Array D}{t:G}{fr:Nat×Nat}(q:w.heap[b]? =O (.cells c t fr)):OS e t c.size:=by let⟨_,_,s,x,m,_,_,o⟩:=h.bx i b _ r p;rw[q]at m;cases m;exact o
def xj(h:SR P E Γ bs d w a st){t:G}{x p:PVal}{F:D}(B:VR Γ bs w x F)(m:mt P t x st.boxes=O p):∃v,(Instr.loadAt t F).run P w=.ok v w/\VR Γ bs w p v:=by
 unfold mt at m;split at m;.cases B with|eptrE b off=>let⟨v,s,e⟩:=p8 (w:=w) (Γ:=Γ) (bs:=bs) (b:=b) (off:=off) (vals:=λ_=>undef) m (by simp) (by simp);exact⟨v,by simp[Instr.loadAt,Instr.sureAddr,s],e⟩|eptr A b off n vals hg hn y hv=>let⟨v,s,e⟩:=p8 m y hv;exact⟨v,by simp[Instr.loadAt,Instr.sureAddr,s],e⟩
 .rename_i i off;split at m
  .rename_i A own S;cases B with
   | bptr i off b hi =>
    let⟨c,t',X,H,L,R⟩:=h.box_cells hi S;have o:∀(k:Nat) q,(A.drop off)[k]? =O q->w.cell? ⟨b,off+k,N⟩=O (c.getD (off+k) undef)/\VR Γ bs w q (c.getD (off+k) undef):=by
     intro k q r;rw[vbo]at r;have z:off+k<c.size:=R3 (aq r) H;have y:c[off+k]? =O (c.getD (off+k) undef):=by simp[vaG,z]
     exact⟨(R _).trans y,L _ _ _ r y⟩
    let⟨v,s,e⟩:=p8 m (vals:=λk=>c.getD (off+k) undef) (λk q r=>(o k q r).1) (λk q r=>(o k q r).2);exact⟨v,by simp[Instr.loadAt,Instr.sureAddr,s],e⟩
  .cases m
 .cases m
def lz{α:Type}{cs vs:V α}{off:Nat}(h:off+vs.length<=cs.length)(j:Nat):(cs.take off++vs++cs.drop (off+vs.length))[j]? =if j<off then cs[j]? else if j<off+vs.length then vs[j - off]? else cs[j]?:=by
 have b:(cs.take off).length=off:=by simp;omega
 by_cases c:j<off;.rw[va6,B2 (by omega),vay c,l7 c]
 .rw[hG c];by_cases e:j<off+vs.length;.rw[l7 e,B2 (by simp;omega),Lf (by omega),b]
  .rw[hG e,Lf (by simp;omega),vbo];congr 1;simp;omega
def Ey(w:J)(g:Nat)(b c:Array D)(t:G)(fr:Nat×Nat)(h:w.heap[g]? =O (.cells b t fr)):(w.setRow g c).heap[g]? =O (.cells c t fr):=setRow_heap w g b c t fr h
def OS.splice{cs c:V PVal}{t:G}{n off:Nat}(h:OS cs t n)(q:∀v∈c,v.one=T)(o:off+c.length<=cs.length):OS (cs.take off++c++cs.drop (off+c.length)) t n:=by
 intro j i r b;have p:(cs.take off++c++cs.drop (off+c.length)).length=cs.length:=by simp only[oo,vbb,vbC];omega
 rw[p];rw[lz o]at b;by_cases e:j<off;.rw[l7 e]at b;exact h j i r b
 .rw[hG e]at b;by_cases m:j<off+c.length;.rw[l7 m]at b;have:=q _ (vaD b);cases this
  .rw[hG m]at b;exact h j i r b
def Lz(h:SR P E Γ bs d w a st){t:G}{x v:PVal}{vx vv:D}{H:V ay}(hx:VR Γ bs w x vx)(hv:VR Γ bs w v vv)(z:fE P t x v st.boxes=O H):∃w',(Instr.storeAt t vx vv).run P w=.ok () w'/\SR P E Γ bs d w' a {st with boxes:=H}/\Γ.Le w Γ w'/\
   ∀i off b,x=.bptr i off->bs[i]? =O (O b)->(∀(j:Nat) u,vv.cells[j]? =O u->w'.cell? ⟨b,off+j,N⟩=O u)/\∀y,y≠b->w'.heap[y]? =w.heap[y]?:=by
 unfold fE at z
 split at z
 .rename_i i off vs ab
  split at z
  .rename_i cs own X
   split at z
   .rename_i hc
    let⟨h1,F,h2,h3⟩:=hc
    let⟨b0,F⟩:=vaS.1 F
    cases z
    cases hx with
    | bptr i off b hi =>
     let⟨c,t',e1,e2,e3,e4⟩:=h.box_cells hi X
     let⟨k1,k2⟩:=hv.cells ab
     have a3:∀u∈vv.cells.toList,u.oneCell'=true:=by
      intro u hu;let⟨j,R⟩:=vbc.1 hu;have a1:vv.cells[j]? =O u:=by simpa using R
      have a2:j<vs.length:=by rw[<-k1];exact(vh.1 a1).1
      exact VR.one (k2 j _ u (m3 a2) a1) (vaE.1 h3 _ (mx a2))
     have a4:=run_storeCells_at P b off t' vv.cells.toList 0 c w e1 (by simp;omega) a3
     simp only[Nat.add_zero,Array.length_toList]at a4
     have a9:vv.cells.size=P.cellsOf t:=by omega
     refine⟨w.setRow b (c.toList.take off++vv.cells.toList++c.toList.drop (off+vv.cells.size)).toArray,?_,?_,?_,?_⟩
     .simp[Instr.storeAt,Instr.sureAddr,storeVar,run_sizeOf w F,a9,a4]
     .have s:=Ey w b c (c.toList.take off++vv.cells.toList++c.toList.drop (off+vv.cells.size)).toArray t' (0,0) e1
      refine h.box_write hi rfl rfl rfl (by simp) (λy r=>setRow_other w b y _ r) ?_ (λy L hL _=>hL) h.on ?_
      .refine⟨_,t',s,?_,λj p u z hu=>?_,?_⟩
       .simp only[vbZ,oo,vbb,vbC,Array.length_toList];omega
       .have A:(c.toList.take off++vv.cells.toList++c.toList.drop (off+vv.cells.toList.length))[j]? =O u:=by simpa using hu
        rw[lz h2]at z
        rw[lz (by simp;omega)]at A
        have B:∀{q u},VR Γ bs w q u->VR Γ bs (w.setRow b (c.toList.take off++vv.cells.toList++c.toList.drop (off+vv.cells.size)).toArray) q u:=λhq=>
         hq.mono (λy m r _=>⟨m,r,l8 _,λo _=>bE (setRow_other w b y _ (λe=>by subst e;have:=(h.bx i y _ hi X).1;rw[this]at r;cases r)) o⟩) (.refl _)
        by_cases R:j<off
        .rw[l7 R]at z A
         exact B (e3 j p u z (by simpa using A))
        .rw[hG R]at z A
         by_cases S:j<off+vs.length
         .rw[l7 S]at z
          rw[l7 (by simp;omega)]at A
          exact B (k2 _ p u z (by simpa using A))
         .rw[hG S]at z
          rw[hG (by simp;omega)]at A
          exact B (e3 j p u z (by simpa using A))
       .have a7:=(h.box_self hi X e1).splice (off:=off) (λv hv=>vaE.1 h3 v hv) h2
        have a8:(c.toList.take off++vv.cells.toList++c.toList.drop (off+vv.cells.size)).toArray.size=c.size:=by simp only[vbZ,oo,vbb,vbC,Array.length_toList];omega
        rw[a8];exact a7
      .intro ar ao a6 j e R
       cases a6
       let⟨R,S⟩:=bR R
       simp only[vbh,oy]at S
       let⟨v',r1,r2,r3⟩:=h.ob i j e cs own b X R hi
       refine⟨v',?_,r2.same λy r=>⟨setRow_other w b y _ (λe=>?_),rfl⟩,r3⟩
       .rw[cell_of_row _ b j _ t' _ s]
        have:=lz (cs:=c.toList) (vs:=vv.cells.toList) (off:=off) (by simp;omega) j
        simp only[Array.length_toList]at this
        simp only[vbz]
        rw[this]
        rw[e4]at r1
        split
        .simpa using r1
        .rw[hG (by omega)];simpa using r1
       .subst e
        let⟨n,xs,o1,o2⟩:=r2
        have:=(h.bx i y _ hi X).1
        rw[o2 y r]at this;cases this
     .exact λy m r _=>⟨m,r,l8 _,λo _=>bE (setRow_other w b y _ (λe=>by subst e;have:=(h.bx i y _ hi X).1;rw[this]at r;cases r)) o⟩
     .intro i2 an b2 ad a0
      cases ad
      have a5:b2=b:=by rw[hi]at a0;cases a0;rfl
      subst a5
      have s:=Ey w b2 c (c.toList.take off++vv.cells.toList++c.toList.drop (off+vv.cells.size)).toArray t' (0,0) e1
      refine⟨λj u hu=>?_,λy r=>setRow_other w b2 y _ r⟩
      have R:j<vv.cells.size:=(vh.1 hu).1
      rw[cell_of_row _ b2 (off+j) _ t' _ s]
      have:=lz (cs:=c.toList) (vs:=vv.cells.toList) (off:=off) (by simp;omega) (off+j)
      simp only[Array.length_toList]at this
      simp only[vbz]
      rw[this,hG (by omega),l7 (by omega),show off+j - off=j by omega]
      simpa using hu
   .cases z
  .cases z
 .cases z
def Wt(h:SR P E Γ bs d w a st){t:G}{x v:PVal}{c b:D}{H:V ay}(m:VR Γ bs w x c)(i:VR Γ bs w v b)(e:fE P t x v st.boxes=O H):∃w',(Instr.storeAt t c b).run P w=.ok () w'/\SR P E Γ bs d w' a {st with boxes:=H}/\Γ.Le w Γ w':=by let⟨w',o,p,q,_⟩:=Lz h m i e;exact⟨w',o,p,q⟩
end
def We(a:Nat->Q (Nat×Nat))(cells:List PVal):List (Nat×PVal)->Q (List PVal)|[]=>O cells|(i,v)::rest=>match a i,bF v with|some (off,size),O vs=>if vs.length=size/\off+vs.length<=cells.length then We a (cells.take off++vs++cells.drop (off+vs.length)) rest else N|_,_=>N
def dF(P:I)(t:G)(a:V (Nat×PVal)):Q PVal:=match P.underlying t,eR P t with|some (.struct fs),O zs=>if fs.all (λf=>(P.info? f.type).isSome)then(We (λi=>(fs[i]?).map λf=>(f.offset,P.cellsOf f.type)) zs a).map .agg else N|some (.array _ e),O zs=>if(P.info? e).isSome then(We (λi=>O (i * P.cellsOf e,P.cellsOf e)) zs a).map .agg else N|_,_=>N
def Li(sz:Nat):Nat->List (Nat×PVal)->Q (List (List PVal))|_,[]=>O []|k,(i,v)::rest=>match bF v,Li sz (k+1) rest with|some a,O r=>if i=k/\a.length=sz then O (a::r)else N|_,_=>N
def gu(P:I)(t:G)(len:Nat)(a:V (Nat×PVal)):Q PVal:=match P.underlying t with
 |some (.slice e)=>match Li (P.cellsOf e) 0 a with|some es=>if es.length=len/\(eR P e).isSome/\0<P.cellsOf e/\len * P.cellsOf e<=16777216/\((eR P e).map (·.length))=O (P.cellsOf e)then O (.slice es)else N|none=>N
 |_=>N
def Oy(P:I)(t:G)(x:PVal)(H:V ay):Q PVal:=match P.underlying t,x with
 |some .string,.str s=>O (.int .i64 s.length)
 |some (.slice _),.slice es=>O (.int .i64 es.length)
 |some (.slice _),.bsl _ _ n=>O (.int .i64 n)
 |some (.array n _),_=>O (.int .i64 n)
 |some (.map _ _),.mapr i=>match H[i]? with|some (.map es)=>O (.int .i64 es.length)|_=>N
 |_,_=>N
def qff:PVal->PVal->Q PVal|.int k x,.int _ y=>O (.int k (if y>x then y else x))|_,_=>N
def qfg:PVal->PVal->Q PVal|.int k x,.int _ y=>O (.int k (if y<x then y else x))|_,_=>N
def Tg(f:PVal->PVal->Q PVal):PVal->List PVal->Q PVal|x,[]=>O x|x,y::r=>match f x y with|some z=>Tg f z r|none=>N
section
variable{P:I}{E:qy}{Γ:aS}{bs:bC}{d:Nat->Q kg}{w:J}{a:Array D}{st:az}
def mR{t:G}{e:V PVal}(h:eR P t=O e):∃z,(zeroValue t).run P w=.ok z w/\e=z.cells.toList.map absC/\(∃i,P.info? t=O i/\i.zero=O z):=by unfold eR at h;simp only[vaH,vbk]at h;obtain⟨z,⟨i,b,c⟩,rfl⟩:=h;exact⟨z,by simp[zeroValue,run_typeInfo w b,c],rfl,i,b,c⟩
def qaF{z:D}(j:Nat)(p:PVal)(v:D)(b:(z.cells.toList.map absC)[j]? =O p)(c:z.cells[j]? =O v):VR Γ bs w p v:=by simp only[o8,vaK,c,or,FS]at b;subst b;exact .absC v
def qhO(v:D)(i:Nat)(T:G):absC v≠.nptr i T:=by unfold absC;split<;>simp
def qhz(z:D)(t:G):OS (z.cells.toList.map absC) t z.cells.size:=by intro j i e b;rw[o8]at b;let⟨v,_,c⟩:=vaH.1 b;exact absurd c (qhO v i e)
def qwC:PVal->K|.nptr _ _=>T|_=>Z
def Ot(l:V PVal):K:=l.all λp=>!qwC p
def qjc{l:V PVal}(h:Ot l=T)(j i:Nat)(c:G):l[j]? ≠O (.nptr i c):=λb=>by have:=vaE.1 h _ (vaD b);cases this
def Sf{l:V PVal}(h:Ot l=T)(t:G)(n:Nat):OS l t n:=λj i c b=>absurd b (qjc h j i c)
def Mo(p:PVal):Q (V PVal):=(bF p).bind λb=>if Ot b then O b else N
def qdV{p:PVal}{b:V PVal}(h:Mo p=O b):bF p=O b/\Ot b=true:=by
 unfold Mo at h;let⟨l,e,c⟩:=vbk.1 h;split at c;.cases c;exact⟨e,by assumption⟩
 .cases c
def Wc{p:PVal}{cs:V PVal}(h:bF p=O cs)(b:Ot cs=T):Mo p=O cs:=by unfold Mo;rw[h,eJ,l7 b]
def V9(h:SR P E Γ bs d w a st){t:G}{id:Nat}{F:V PVal}(o:bs[id]? =O N)(B:eR P t=O F):∃v w',(Instr.alloc t T (.tuple #[])).run P w=.ok v w'/\SR P E Γ (bs.set id (O w.heap.size)) d w' a {st with boxes:=st.boxes.set id (.cells F (Tj P t))}/\
   VR Γ (bs.set id (O w.heap.size)) w' (.bptr id 0) v/\bs.Sub (bs.set id (O w.heap.size))/\Γ.Le w Γ w':=by
 obtain⟨z,hr,rfl,i,R,B⟩:=mR (w:=w) B
 refine⟨.pointer (O ⟨w.heap.size,0,N⟩),w.alloc (.cells z.cells t),?_,?_,.bptr _ _ _ (pi (aq o)),λi b q=>G3 o q,
  λb m q _=>⟨m,q,l8 _,λo' _=>bE (alloc_old w _ (h.lt_of_ghost q)) o'⟩⟩
 .simp[Instr.alloc,hr,newVar,newRow]
 .refine h.alloc_box o _ _ (λH _=>⟨z.cells,t,gI w _,by simp,λj p v X hv=>qaF j p v X hv,qhz z t⟩) λcs own x j e r=>?_
  cases x
  unfold Tj at r
  split at r
  .rename_i z' ts s a0
   have:z'=z:=by simp[R,B]at s;exact s.symm
   subst this
   simp only[vc0,vbF]at r
   let⟨j',S,c⟩:=r
   split at c
   .rename_i v' e' A L
    split at c
    .rename_i y
     cases c
     have:v'=.slice N 0 0:=by
      unfold pw at y;split at y;.rfl
      .cases y
     subst this
     refine⟨_,?_,rfl,0,[],World.ownsRow_nil _ _ _ _,λb q=>by simp[Value.ownBlock]at q⟩
     rw[cell_of_row _ _ _ _ t _ (gI w _)]
     exact A
    .cases c
   .cases c
  .cases r
def qb4(h:SR P E Γ bs d w a st){t:G}{id:Nat}{x:PVal}{s:D}{cs:V PVal}(c:bs[id]? =O N)(X:VR Γ bs w x s)(y:Mo x=O cs):∃v w',(Instr.box t s).run P w=.ok v w'/\SR P E Γ (bs.set id (O w.heap.size)) d w' a {st with boxes:=st.boxes.set id (.cells cs [])}/\
   VR Γ (bs.set id (O w.heap.size)) w' (.bptr id 0) v/\bs.Sub (bs.set id (O w.heap.size))/\Γ.Le w Γ w':=by
 let⟨B,H⟩:=qdV y
 let⟨k1,k2⟩:=X.cells B
 have q:∀o,Γ.Le w Γ (w.alloc o):=λo b m r _=>⟨m,r,l8 _,λo' _=>bE (alloc_old w _ (h.lt_of_ghost r)) o'⟩
 refine⟨.pointer (O ⟨w.heap.size,0,N⟩),w.alloc (.cells s.cells t),?_,?_,.bptr _ _ _ (pi (aq c)),λi b r=>G3 c r,q _⟩
 .simp[Instr.box,newVar,newRow]
 .exact h.alloc_box c _ _ (λA R=>⟨s.cells,t,gI w _,Nat.le_of_eq k1.symm,λj p v L S=>(k2 j p v L S).mono (q _) R,Sf H _ _⟩) λcs own z j e F=>by cases z;simp at F
def qal(h:SR P E Γ bs d w a st){t:G}{id:Nat}(c:bs[id]? =O N):∃v w',(Instr.makeMap t N).run P w=.ok v w'/\SR P E Γ (bs.set id (O w.heap.size)) d w' a {st with boxes:=st.boxes.set id (.map [])}/\
   VR Γ (bs.set id (O w.heap.size)) w' (.mapr id) v/\bs.Sub (bs.set id (O w.heap.size))/\Γ.Le w Γ w':=by
 have q:∀o,Γ.Le w Γ (w.alloc o):=λo b m e _=>⟨m,e,l8 _,λy _=>bE (alloc_old w _ (h.lt_of_ghost e)) y⟩
 refine⟨.map (O w.heap.size),w.alloc (.map #[] 0),?_,?_,.mapr _ _ (pi (aq c)),λi b e=>G3 c e,q _⟩
 .simp[Instr.makeMap]
 .exact h.alloc_box c _ _ (λr A=>⟨#[],0,gI w _,rfl,λj k u x s _=>by simp at s,by simp,by simp⟩) λz own p=>by cases p
def Mr{o place':Nat->Q (Nat×Nat)}(z:∀i x,o i=O x->place' i=O x):∀(b:List (Nat×PVal))(vs:List (Nat×D))(cells:List PVal)(cv:Array D){m:List PVal},
  b.length=vs.length->(∀(j:Nat) p v,b[j]? =O p->vs[j]? =O v->p.1=v.1/\VR Γ bs w p.2 v.2)->
  cv.size=cells.length->(∀(j:Nat) p v,cells[j]? =O p->cv[j]? =O v->VR Γ bs w p v)->We o cells b=O m->
  ∃A,Instr.fill place' cv vs=O A/\A.size=m.length/\∀(j:Nat) p v,m[j]? =O p->A[j]? =O v->VR Γ bs w p v
 |[],[],cells,cv,m,_,_,hs,hc,ho=>by simp only[We,FS]at ho;subst ho;exact⟨cv,rfl,hs,hc⟩
 |[],_::_,_,_,_,hl,_,_,_,_=>by simp at hl
 |_::_,[],_,_,_,hl,_,_,_,_=>by simp at hl
 | (i,p) :: rest,(i',v) :: vs,cells,cv,m,hl,hv,hs,hc,ho => by
  obtain⟨rfl,S⟩:=hv 0 (i,p) (i',v) rfl rfl;simp only[We]at ho;split at ho
  .rename_i off size ps L R;split at ho
   .rename_i hh;let⟨h1,h2⟩:=hh;let⟨k1,k2⟩:=VR.cells S R;replace k1:v.cells.size=ps.length:=k1
    have h:∀(l:List D)(k:Nat)(cv:Array D),off+k+l.length<=cv.size->
      ((l.zipIdx k).foldl (λcs (c,j)=>cs.setIfInBounds (off+j) c) cv).toList=cv.toList.take (off+k)++l++cv.toList.drop (off+k+l.length):=by
     intro l
     induction l with
     |nil=>intro k cv _;simp
     | cons u l ih =>
      intro k cv H
      simp only[List.zipIdx_cons,List.foldl_cons]
      simp only[p6]at H
      rw[ih (k+1) _ (by simp;omega)]
      apply va2
      intro j
      rw[show off+(k+1)=off+k+1 from by omega]
      have e1:=lz (cs:=(cv.setIfInBounds (off+k) u).toList) (vs:=l) (off:=off+k+1) (by simp;omega) j
      have e2:=lz (cs:=cv.toList) (vs:=u::l) (off:=off+k) (by simp;omega) j
      simp only[p6]at e2 ⊢
      rw[e1,e2]
      simp only[Array.toList_setIfInBounds,vbP]
      by_cases y:j<off+k
      .rw[l7 (by omega),l7 y,hG (by omega)]
      .by_cases B:j=off+k
       .subst B
        have a1:off+k<off+k+1:=by omega
        have a2:¬off+k<off+k:=by omega
        have a3:off+k<off+k+(l.length+1):=by omega
        have a4:off+k<cv.size:=by omega
        simp[a1,a3,a4]
       .rw[hG (by omega),hG y]
        by_cases c3:j<off+k+1+l.length
        .rw[l7 c3,l7 (by omega),show j - (off+k)=(j - (off+k+1))+1 from by omega];simp
        .rw[hG c3,hG (by omega),hG (by omega)]
    have F:v.cells.toList.length=ps.length:=by simpa using k1
    have t:(v.cells.zipIdx.foldl (λcs (c,j)=>cs.setIfInBounds (off+j) c) cv).size=(cells.take off++ps++cells.drop (off+ps.length)).length:=by have:=h v.cells.toList 0 cv (by simp;omega);have h3:=m4 List.length this;rw[<-vcn];simp only[vci];simp only[Array.length_toList]at h3;rw[h3];simp;omega
    have s:∀(j:Nat) q u,(cells.take off++ps++cells.drop (off+ps.length))[j]? =O q->
      (v.cells.zipIdx.foldl (λcs (c,j)=>cs.setIfInBounds (off+j) c) cv)[j]? =O u->VR Γ bs w q u:=by
     intro j q u r e
     have:=h v.cells.toList 0 cv (by simp;omega)
     rw[<-vcn]at e
     simp only[vci]at e
     rw[<-vaK,this]at e
     simp only[Nat.add_zero]at e
     rw[lz (by simp;omega)]at e
     rw[lz h2]at r
     simp only[F]at e
     by_cases y:j<off
     .rw[l7 y]at r e;exact hc j q u r (by simpa using e)
     .rw[hG y]at r e
      by_cases B:j<off+ps.length
      .rw[l7 B]at r e;exact k2 _ q u r (by simpa using e)
      .rw[hG B]at r e;exact hc j q u r (by simpa using e)
    let⟨A,r1,r2,r3⟩:=Mr z rest vs _ _ (by simpa using hl) (λj p v hp X=>hv (j+1) p v (by simpa using hp) (by simpa using X)) t s ho;refine⟨A,?_,r2,r3⟩;simp only[Instr.fill,z _ _ L];rw[hG (by simp;omega)];exact r1
   .cases ho
  .cases ho
end
def oQ(a:TypeDesc)(k:PVal):K:=match a,k with|.string,.str _=>T|.int q,.int q' _=>Y (q=q')|_,_=>Z
def LA(P:I)(t:G):Q PVal:=((P.info? t).bind (·.zero)).map absV
def qaj:PVal->PVal->Q K|.str a,.str b=>O (a==b)|.int k a,.int k' b=>if k=k' then O (a==b)else N|_,_=>N
def Lj(k:PVal):List (PVal×PVal)->Nat->Q (Q (Nat×PVal))|[],_=>O N|(x,v)::r,i=>match qaj k x with|some T=>O (O (i,v))|some Z=>Lj k r (i+1)|none=>N
def Eg(P:I)(t:G)(m k:PVal)(ok:K)(H:V ay):Q PVal:=match P.underlying t,m with
 | some (.map kt e),.mapr i => match H[i]?,P.underlying kt with
  | some (.map es),O kd =>if oQ kd k then match Lj k es 0,LA P e with|some (O (_,v)),_=>O (if ok then .tuple [v,.bool T]else v)|some N,O z=>O (if ok then .tuple [z,.bool Z]else z)|_,_=>N else N
  |_,_=>N
 |_,_=>N
def jO(P:I)(t:G)(m k v:PVal)(H:V ay):Q (V ay):=match P.underlying t,m with
 | some (.map kt _),.mapr i => match H[i]?,P.underlying kt with
  | some (.map es),O kd =>if oQ kd k then match Lj k es 0 with|some (O (j,_))=>O (H.set i (.map (es.set j (k,v))))|some N=>O (H.set i (.map (es++[(k,v)])))|none=>N else N
  |_,_=>N
 |_,_=>N
section
variable{P:I}{E:qy}{Γ:aS}{bs:bC}{c:Nat->Q kg}{w:J}{a:Array D}{st:az}
def H8{t:G}{b:V (Nat×PVal)}{y:V (Nat×D)}{p:PVal}(r:b.length=y.length)
  (o:∀(j:Nat) p v,b[j]? =O p->y[j]? =O v->p.1=v.1/\VR Γ bs w p.2 v.2) (h:dF P t b=O p):
  ∃v,(Instr.build t y.toArray).run P w=.ok v w/\VR Γ bs w p v:=by
 unfold dF at h
 split at h
 .rename_i A zs H R
  obtain⟨z,F,rfl,i,hi,S⟩:=mR (w:=w) R
  split at h
  .rename_i q
   simp only[vaH]at h
   obtain⟨a0,B,rfl⟩:=h
   have m:∀(l:V Field),(∀f∈l,(P.info? f.type).isSome=T)->(l.mapM λf=>do pure (f.offset,<-sizeOf f.type):Sem (V (Nat×Nat))).run P w=.ok (l.map λf=>(f.offset,P.cellsOf f.type)) w:=by intro l r;induction l with|nil=>simp|cons f l ih=>let⟨X,d⟩:=vaS.1 (r f (by simp));have:=ih λg hg=>r g (by simp[hg]);simp only[vb9,Sem.run_bind,run_sizeOf w d,Result.andThen_ok,this,Sem.run_pure,ox]
   have s:(A.mapM λf=>do pure (f.offset,<-sizeOf f.type):Sem (Array (Nat×Nat))).run P w=.ok (A.map λf=>(f.offset,P.cellsOf f.type)) w:=by
    rw[vcr];simp only[Sem.run_map]
    rw[m A.toList λf hf=>by
     have:=vbu.1 q f (by simpa using hf);simpa using this]
    simp only[Result.andThen_ok];exact m4 (λx=>Result.ok x w) (vb0 (by simp))
   let⟨ov,r1,r2,r3⟩:=Mr (place':=((A.map λf=>(f.offset,P.cellsOf f.type))[·]?)) (λi x L=>by simpa using L) b y _ z.cells r o (by simp) (λj p v s o=>qaF j p v s o) B
   refine⟨.agg ov,?_,.agg _ _ r2 r3⟩
   simp only[Instr.build,Sem.run_bind,F,Result.andThen_ok,run_underlying H,s]
   rw[r1]
   simp
  .cases h
 .rename_i n e zs H R
  obtain⟨z,F,rfl,i,hi,S⟩:=mR (w:=w) R
  split at h
  .rename_i d
   let⟨X,d⟩:=vaS.1 d
   simp only[vaH]at h
   obtain⟨a0,B,rfl⟩:=h
   let⟨ov,r1,r2,r3⟩:=Mr (λi x L=>L) b y _ z.cells r o (by simp) (λj p v s o=>qaF j p v s o) B
   refine⟨.agg ov,?_,.agg _ _ r2 r3⟩
   simp only[Instr.build,Sem.run_bind,F,Result.andThen_ok,run_underlying H,run_sizeOf w d]
   simp[r1]
  .cases h
 .cases h
def qjJ(h:SR P E Γ bs c w a st){t ty:G}{x p:PVal}{F:D}(z:VR Γ bs w x F)(m:Oy P t x st.boxes=O p):∃v,(Builtin.len_ #[t] ty #[F]).run P w=.ok v w/\VR Γ bs w p v:=by
 unfold Oy at m;split at m
 .rename_i s d;cases m;cases z;have r:(ByteArray.mk s.toArray).size=s.length:=by show s.toArray.size=_;simp
  exact⟨.int .i64 s.length,by simp[Builtin.len_,run_underlying d,goInt,r],.int _ _⟩
 .rename_i e y d;cases m;cases z with|sliceNil=>exact⟨.int .i64 0,by simp[Builtin.len_,run_underlying d,goInt],.int _ _⟩|sliceE a cap=>exact⟨.int .i64 0,by simp[Builtin.len_,run_underlying d,goInt],.int _ _⟩|slice y b A cap n sz vals hz0 hcap B hn r hc hv=>exact⟨.int .i64 y.length,by simp[Builtin.len_,run_underlying d,goInt],.int _ _⟩
 .rename_i e bx A n d;cases m;cases z with|bsl _ _ _ x cap hcap hnil hxb=>exact⟨.int .i64 n,by simp[Builtin.len_,run_underlying d,goInt],.int _ _⟩
 .rename_i n e d;cases m;exact⟨.int .i64 n,by simp[Builtin.len_,run_underlying d,goInt],.int _ _⟩
 .rename_i k e i d;split at m
  .rename_i y R;cases m;cases z with
   |mapr i b hi=>
    let⟨_,_,q,o,H,L,_⟩:=h.bx i b _ hi R;refine⟨.int .i64 y.length,?_,.int _ _⟩;have B:(getObj b).run P w=.ok (.map q o) w:=by simp[getObj,Sem.run,H]
    simp[Builtin.len_,run_underlying d,B,goInt,L]
  .cases m
 .cases m
def qg3{x y p:PVal}{b d:D}(e:VR Γ bs w x b)(i:VR Γ bs w y d)(h:qff x y=O p):∃v,(Builtin.max2 b d).run P w=.ok v w/\VR Γ bs w p v:=by
 unfold qff at h;split at h;.cases h;cases e;cases i;exact⟨_,by simp[Builtin.max2],.int _ _⟩
 .cases h
def qg4{x y p:PVal}{b d:D}(e:VR Γ bs w x b)(i:VR Γ bs w y d)(h:qfg x y=O p):∃v,(Builtin.min2 b d).run P w=.ok v w/\VR Γ bs w p v:=by
 unfold qfg at h;split at h;.cases h;cases e;cases i;exact⟨_,by simp[Builtin.min2],.int _ _⟩
 .cases h
def Sn{f:PVal->PVal->Q PVal}{g:D->D->Sem D}(d:∀{x y p:PVal}{b i:D},VR Γ bs w x b->VR Γ bs w y i->f x y=O p->∃v,(g b i).run P w=.ok v w/\VR Γ bs w p v):∀(l:List PVal)(e:List D)(x:PVal)(b:D){p:PVal},l.length=e.length->VR Γ bs w x b->(∀(j:Nat) p v,l[j]? =O p->e[j]? =O v->VR Γ bs w p v)->Tg f x l=O p->
  ∃v,(e.foldlM g b).run P w=.ok v w/\VR Γ bs w p v
 |[],[],x,b,p,_,hx,_,h=>by simp only[Tg,FS]at h;subst h;exact⟨b,by simp,hx⟩
 |[],_::_,_,_,_,hl,_,_,_=>by simp at hl
 |_::_,[],_,_,_,hl,_,_,_=>by simp at hl
 | y :: l,i :: e,x,b,p,hl,hx,hv,h => by
  simp only[Tg]at h;split at h;.rename_i z q;let⟨B,r,s⟩:=d hx (hv 0 y i rfl rfl) q;let⟨v,t,A⟩:=Sn d l e z B (by simpa using hl) s (λj p v o m=>hv (j+1) p v (by simpa using o) (by simpa using m)) h;exact⟨v,by simp[r,t],A⟩
  .cases h
end
end Go.Proofs.YtankopenjcbeeaaGreatDoor
