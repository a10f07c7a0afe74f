/- PROVED: a part of the proof. Conditions: none. -/
import Derived.WalkKit
import Derived.ProofKit
import Derived.Test.YtibglelmlnfojaaGreatDoorPkM0
set_option linter.unusedSimpArgs false set_option linter.defProp false
set_option linter.unusedVariables false
noncomputable section
namespace Go.Proofs.YtibglelmlnfojaaGreatDoor
open Go
open Option renaming some→O,none→N
open Go renaming TypeId→G,Value→D,Program→I,Oper→M,World→J,Code→W
open Bool renaming true→T,false→Z
open Decidable renaming decide→Y
inductive PVal where
 |undef
 |int (k:IntKind) (n:Int)
 |bool (b:Bool)
 |str (s:List UInt8)
 |val (v:Value)
 |agg (cs:List PVal)
 |tuple (vs:List PVal)
 |slice (es:List (List PVal))
 |eptr (cs:List PVal)
 |bptr (i off:Nat)
 |bsl (i off n:Nat)
 |mapr (i:Nat)
 |nptr (i:Nat) (T:TypeId)
 |func (fn:Fn) (first cap:List PVal)
 deriving Inhabited
abbrev ca:=Nat->Q Nat
abbrev cF:=V (Q Nat)
inductive VR(Γ:ca)(bs:cF)(w:World):PVal->Value->Prop where
 |undef (v:Value):VR Γ bs w .undef v
 |int (k:IntKind) (n:Int):VR Γ bs w (.int k n) (.int k n)
 |bool (b:Bool):VR Γ bs w (.bool b) (.bool b)
 |str (l:List UInt8):VR Γ bs w (.str l) (.string ⟨l.toArray⟩)
 |val (v:Value):VR Γ bs w (.val v) v
 | agg (cs:List PVal) (vs:Array Value) (hl:vs.size = cs.length)
   (h:∀(i:Nat) p v,cs[i]? =some p->vs[i]? =some v->VR Γ bs w p v):VR Γ bs w (.agg cs) (.agg vs)
 | tuple (cs:List PVal) (vs:Array Value) (hl:vs.size = cs.length)
   (h:∀(i:Nat) p v,cs[i]? =some p->vs[i]? =some v->VR Γ bs w p v):VR Γ bs w (.tuple cs) (.tuple vs)
 |sliceNil:VR Γ bs w (.slice []) (.slice none 0 0)
 |sliceE (a:Addr) (cap:Nat):VR Γ bs w (.slice []) (.slice (some a) 0 cap)
 | slice (es:List (List PVal)) (b off cap n sz:Nat) (vals:Nat→Nat→Value) (h0:0 < sz) (hcap:es.length ≤ cap) (hg:Γ b = some n)
   (hn:off+es.length * sz<=n) (hsz:∀(i:Nat) e,es[i]? =some e->e.length=sz)
   (hc:∀(i:Nat) e (k:Nat) p,es[i]? =some e->e[k]? =some p->w.cell? ⟨b,off+i * sz+k,none⟩=some (vals i k))
   (hv:∀(i:Nat) e (k:Nat) p,es[i]? =some e->e[k]? =some p->VR Γ bs w p (vals i k)):
   VR Γ bs w (.slice es) (.slice (some ⟨b,off,none⟩) es.length cap)
 |eptrE (b off:Nat):VR Γ bs w (.eptr []) (.pointer (some ⟨b,off,none⟩))
 | eptr (cs:List PVal) (b off n:Nat) (vals:Nat→Value) (hg:Γ b = some n) (hn:off + cs.length ≤ n)
   (hc:∀(k:Nat) p,cs[k]? =some p->w.cell? ⟨b,off+k,none⟩=some (vals k))
   (hv:∀(k:Nat) p,cs[k]? =some p->VR Γ bs w p (vals k)):
   VR Γ bs w (.eptr cs) (.pointer (some ⟨b,off,none⟩))
 |bptr (i off b:Nat) (h:bs[i]? =some (some b)):VR Γ bs w (.bptr i off) (.pointer (some ⟨b,off,none⟩))
 |bsl (i off n:Nat) (x:Option Addr) (cap:Nat) (hcap:n<=cap) (hnil:x=none->cap=0) (h:n=0\/∃b,x=some ⟨b,off,none⟩/\bs[i]? =some (some b)):VR Γ bs w (.bsl i off n) (.slice x n cap)
 |mapr (i b:Nat) (h:bs[i]? =some (some b)):VR Γ bs w (.mapr i) (.map (some b))
 |nptrN (i:Nat) (T:TypeId):VR Γ bs w (.nptr i T) (.pointer none)
 |nptr (i b:Nat) (T:TypeId) (h:bs[i]? =some (some b)):VR Γ bs w (.nptr i T) (.pointer (some ⟨b,0,none⟩))
 | func (fn:Fn) (first cap:List PVal) (fs cs:Array Value) (hl:fs.size = first.length) (hl':cs.size = cap.length)
   (h:∀(i:Nat) p v,first[i]? =some p->fs[i]? =some v->VR Γ bs w p v)
   (h':∀(i:Nat) p v,cap[i]? =some p->cs[i]? =some v->VR Γ bs w p v):VR Γ bs w (.func fn first cap) (.func fn fs cs)
def ca.Le(Γ:ca)(w:J)(a:ca)(w':J):Prop:=∀b n,Γ b=O n->0<n->∃c,a b=O c/\n<=c/\∀o,o<n->w'.cell? ⟨b,o,N⟩=w.cell? ⟨b,o,N⟩
def ca.Le.refl(Γ:ca)(w:J):Γ.Le w Γ w:=λ_ n h _=>⟨n,h,m7 _,λ_ _=>rfl⟩
def ca.Le.trans{Γ c a:ca}{w w' w'':J}(h:Γ.Le w c w')(e:c.Le w' a w''):Γ.Le w a w'':=by intro b n r t;let⟨x,i,y,m⟩:=h b n r t;let⟨d,p,z,q⟩:=e b x i (by omega);exact⟨d,p,by omega,λo s=>(q o (by omega)).trans (m o s)⟩
def cF.Sub(c a:cF):Prop:=∀(i b:Nat),c[i]? =O (O b)->a[i]? =O (O b)
def cF.Sub.refl(bs:cF):bs.Sub bs:=λ_ _ h=>h
def qjx{i k L sz:Nat}(a:i<L)(b:k<sz):i * sz+k<L * sz:=by have h:(i+1) * sz<=L * sz:=vbm sz a;rw[vbr,vb8]at h;omega
def ax{α:Type}{l:V α}{i:Nat}{x:α}(h:l[i]? =O x):i<l.length:=(vbF.1 h).1
def VR.mono{Γ q:ca}{A c:cF}{w w':J}{p:PVal}{v:D}(h:VR Γ A w p v)(m:Γ.Le w q w')(r:A.Sub c):VR q c w' p v:=by
 induction h with
 |undef v=>exact .undef v
 |int k n=>exact .int k n
 |bool b=>exact .bool b
 |str l=>exact .str l
 |val v=>exact .val v
 |agg cs vs hl _ ih=>exact .agg cs vs hl ih
 |tuple cs vs hl _ ih=>exact .tuple cs vs hl ih
 |sliceNil=>exact .sliceNil
 |sliceE a cap=>exact .sliceE a cap
 | slice es b off cap n sz vals h0 hcap hg hn hsz hc _ ih =>
  cases es with|nil=>exact .sliceE _ _|cons E es=>
  have B:0<(E::es).length * sz:=Nat.mul_pos (by simp) h0;let⟨z,d,s,t⟩:=m b n hg (by omega);refine .slice _ b off cap z sz vals h0 hcap d (by omega) hsz (λi e k p y o=>?_) ih;rw[t _ _];.exact hc i e k p y o
  .have:=qjx (ax y) (show k<sz by have:=ax o;rw[hsz i e y]at this;exact this);omega
 |eptrE b off=>exact .eptrE b off
 |bsl i off n x cap hcap hnil h=>exact .bsl i off n x cap hcap hnil (h.imp_right λ⟨b,d,s⟩=>⟨b,d,r i b s⟩)
 |eptr cs b off n vals hg hn hc _ ih=>
  cases cs with|nil=>exact .eptrE _ _|cons c0 cs=>
  let⟨z,d,s,t⟩:=m b n hg (by simp at hn;omega);refine .eptr _ b off z vals d (by omega) (λk p o=>?_) ih;rw[t _ (by have:=ax o;omega)];exact hc k p o
 |bptr i off b h=>exact .bptr i off b (r i b h)
 |mapr i b h=>exact .mapr i b (r i b h)
 |nptrN i F=>exact .nptrN i F
 |nptr i b F h=>exact .nptr i b F (r i b h)
 |func fn first cap fs cs hl hl' _ _ ih ih'=>exact .func fn first cap fs cs hl hl' ih ih'
mutual
def PVal.cl(n:Nat):PVal->Prop|.undef|.int _ _|.bool _|.str _|.val _=>True|.agg cs=>kT n cs|.tuple cs=>kT n cs|.slice es=>GG n es|.eptr cs=>kT n cs|.bptr i _=>i<n|.bsl i _ _=>i<n|.mapr i=>i<n|.nptr i _=>i<n|.func _ f c=>kT n f/\kT n c
def kT(n:Nat):List PVal->Prop|[]=>True|p::ps=>p.cl n/\kT n ps
def GG(n:Nat):List (List PVal)->Prop|[]=>True|p::ps=>kT n p/\GG n ps
end
def xg{n:Nat}:∀{l:List PVal}{i:Nat}{p:PVal},kT n l->l[i]? =O p->p.cl n
 |[],i,p,_,h=>by simp at h
 |q::l,0,p,h,hp=>by simp at hp;subst hp;simp only[kT]at h;exact h.1
 |q::l,i+1,p,h,hp=>by simp only[kT]at h;exact xg h.2 (by simpa using hp)
def qhF{n:Nat}:∀{l:List (List PVal)}{i:Nat}{p:List PVal},GG n l->l[i]? =O p->kT n p
 |[],i,p,_,h=>by simp at h
 |q::l,0,p,h,hp=>by simp at hp;subst hp;simp only[GG]at h;exact h.1
 |q::l,i+1,p,h,hp=>by simp only[GG]at h;exact qhF h.2 (by simpa using hp)
def qjk{n:Nat}:∀{l:List PVal},(∀p∈l,p.cl n)->kT n l
 |[],_=>by simp[kT]
 |p::l,h=>by simp only[kT];exact⟨h p (by simp),qjk λq a=>h q (by simp[a])⟩
def qkl{n:Nat}:∀{l:List (List PVal)},(∀p∈l,kT n p)->GG n l
 |[],_=>by simp[GG]
 |p::l,h=>by simp only[GG];exact⟨h p (by simp),qkl λq a=>h q (by simp[a])⟩
def VR.restrict{Γ:ca}{r o:cF}{w:J}{p:PVal}{v:D}{n:Nat}(h:VR Γ r w p v)(c:p.cl n)
  (q:∀(i b:Nat),i<n->r[i]? =O (O b)->o[i]? =O (O b)):VR Γ o w p v:=by
 induction h with
 |undef v=>exact .undef v
 |int k n=>exact .int k n
 |bool b=>exact .bool b
 |str l=>exact .str l
 |val v=>exact .val v
 |agg cs vs hl _ ih=>simp only[PVal.cl]at c;exact .agg cs vs hl λi p v d m=>ih i p v d m (xg c d)
 |tuple cs vs hl _ ih=>simp only[PVal.cl]at c;exact .tuple cs vs hl λi p v d m=>ih i p v d m (xg c d)
 |sliceNil=>exact .sliceNil
 |sliceE a cap=>exact .sliceE a cap
 |slice es b off cap n sz vals h0 hcap hg hn hsz hcc _ ih=>
  simp only[PVal.cl]at c
  exact .slice es b off cap n sz vals h0 hcap hg hn hsz hcc λi e k p s d=>ih i e k p s d (xg (qhF c s) d)
 |eptrE b off=>exact .eptrE b off
 |bsl i off k x cap hcap hnil h=>simp only[PVal.cl]at c;exact .bsl i off k x cap hcap hnil (h.imp_right λ⟨b,t,y⟩=>⟨b,t,q i b c y⟩)
 |eptr cs b off n vals hg hn hcc _ ih=>
  simp only[PVal.cl]at c
  exact .eptr cs b off n vals hg hn hcc λk p d=>ih k p d (xg c d)
 |bptr i off b h=>simp only[PVal.cl]at c;exact .bptr i off b (q i b c h)
 |mapr i b h=>simp only[PVal.cl]at c;exact .mapr i b (q i b c h)
 |nptrN i z=>exact .nptrN i z
 |nptr i b z h=>simp only[PVal.cl]at c;exact .nptr i b z (q i b c h)
 |func fn first cap fs cs hl hl' _ _ ih ih'=>
  simp only[PVal.cl]at c
  exact .func fn first cap fs cs hl hl' (λi p v d m=>ih i p v d m (xg c.1 d)) (λi p v d m=>ih' i p v d m (xg c.2 d))
inductive aJ where
 |cells (cs:List PVal) (own:List (Nat×TypeId))
 |map (es:List (PVal×PVal))
 |dead
 deriving Inhabited
structure aF where
 tmps:List PVal
 boxes:List aJ
 own:List ((Nat×Nat)×TypeId)
inductive rI where
 |tmp (t k:Nat)
 |box (i j:Nat)
 deriving DecidableEq
structure BP where
 GE:List (Nat×List PVal)
 Γ:ca
 w:World
 T:Nat->Prop
def sm:D->Nat->Q D|.tuple vs,k=>vs[k]?|.agg vs,k=>vs[k]?|v,k=>if k=0 then O v else N
def kZ(P:I)(Γ:ca)(w:J)(v:D)(e:G):Prop:=∃n a,w.ownsRow 0 e (P.cellsOf e) v n a/\∀b,v.ownBlock=O b->Γ b=O (n * P.cellsOf e)
def qi8(a:Array MapEntry)(b:Nat):Prop:=(a.toList.map (·.born)).Nodup/\∀x∈a.toList,x.born<b
def TQ(a:V PVal)(t:G)(n:Nat):Prop:=∀(j i:Nat) b,a[j]? =O (.nptr i b)->t=b/\n=a.length
def BR(Γ:ca)(e:cF)(w:J):aJ->Nat->Prop|.cells cs _,b=>∃c t,w.heap[b]? =O (.cells c t (0,0))/\cs.length<=c.size/\(∀(j:Nat) p v,cs[j]? =O p->c[j]? =O v->VR Γ e w p v)/\TQ cs t c.size| .map es,b => ∃ a d,w.heap[b]? = O (.map a d)∧a.size = es.length ∧ (∀(j:Nat) k u x,es[j]? =O (k,u)->a[j]? =O x->VR Γ e w k x.key/\VR Γ e w u x.val)/\qi8 a d|.dead,_=>True
set_option linter.unusedVariables false in
abbrev dr(w:J):Nat:=0
set_option linter.unusedVariables false in
def qra{w w':J}(h:w.drawn<=w'.drawn):dr w<=dr w':=by first|exact h|exact m7 _
structure qsH(E:BP)(Γ:ca)(w:World):Prop where
 os:w.os=E.w.os
 tape:w.tape=E.w.tape
 output:w.output=E.w.output
 size:E.w.heap.size<=w.heap.size
 drawn:dr E.w<=dr w
 keep:∀b,b<E.w.heap.size->¬E.T b->w.heap[b]? =E.w.heap[b]?/\Γ b=E.Γ b
 le:E.Γ.Le E.w Γ w
structure SR(P:Program)(E:BP)(Γ:ca)(bs:cF)(ow:Nat->Option rI)(w:World)(a:Array Value)(st:aF):Prop where
 wi:∀b n,Γ b=some n->∃c t fr,w.heap[b]? =some (.cells c t fr)/\n<=c.size
 sz:a.size=st.tmps.length
 tm:∀(t:Nat) p v,st.tmps[t]? =some p->a[t]? =some v->VR Γ bs w p v
 bl:bs.length=st.boxes.length
 bx:∀(i b:Nat) B,bs[i]? =some (some b)->st.boxes[i]? =some B->Γ b=none/\b<w.heap.size/\BR Γ bs w B b
 inj:∀(i j b:Nat),bs[i]? =some (some b)->bs[j]? =some (some b)->i=j
 bn:∀(i b:Nat),bs[i]? =some (some b)->E.T b\/E.w.heap.size<=b
 on:∀b L,ow b=some L->b<w.heap.size/\(E.T b\/E.w.heap.size<=b)
 ot:∀t k e,((t,k),e)∈st.own->∃u v,a[t]? =some u/\sm u k=some v/\kZ P Γ w v e/\∀b,v.ownBlock=some b->ow b=some (.tmp t k)
 ob:∀(i j:Nat) e cs own (b:Nat),st.boxes[i]? =some (.cells cs own)->(j,e)∈own->bs[i]? =some (some b)->
  ∃v,w.cell? ⟨b,j,none⟩=some v/\kZ P Γ w v e/\∀b',v.ownBlock=some b'->ow b'=some (.box i j)
 gl:∀g cs,(g,cs)∈E.GE->VR Γ bs w (.eptr cs) (.pointer (some ⟨g,0,none⟩))
 gc:∀g cs,(g,cs)∈E.GE->kT 0 cs
 gx:∀g cs,(g,cs)∈E.GE->g<E.w.heap.size/\¬E.T g/\∃c t fr,E.w.heap[g]? =some (.cells c t fr)/\c.size=cs.length
 step:qsH E Γ w
def BR.mono{Γ e:ca}{y d:cF}{w w':J}{B:aJ}{b:Nat}(h:BR Γ y w B b)(a:Γ.Le w e w')(s:y.Sub d)
  (z:w'.heap[b]? =w.heap[b]?):BR e d w' B b:=by
 cases B with
 |cells cs own=>
  let⟨c,t,o,q,i,r⟩:=h
  exact⟨c,t,z.trans o,q,λj p v m n=>(i j p v m n).mono a s,r⟩
 |map es=>
  let⟨c,t,o,q,i,r⟩:=h
  exact⟨c,t,z.trans o,q,λj k u x m n=>⟨(i j k u x m n).1.mono a s,(i j k u x m n).2.mono a s⟩,r⟩
 |dead=>trivial
def qgA{w w':J}{base:Nat}{e:G}{a:Nat}{v:D}{n:Nat}{xs:V D}(h:w.ownsRow base e a v n xs)
  (i:∀b,v.ownBlock=O b->w'.heap[b]? =w.heap[b]?):w'.ownsRow base e a v n xs:=by
 let⟨d,c⟩:=h
 refine⟨d,?_⟩
 rcases c with c|⟨g,cap,cur,rfl,hg,hh,r⟩
 .exact .inl c
 .exact .inr ⟨g,cap,cur,rfl,hg,(i g rfl).trans hh,r⟩
def kZ.same{P:I}{Γ a:ca}{w w':J}{v:D}{e:G}(h:kZ P Γ w v e)
  (c:∀b,v.ownBlock=O b->w'.heap[b]? =w.heap[b]?/\a b=Γ b):kZ P a w' v e:=by
 let⟨n,m,d,i⟩:=h
 exact⟨n,m,qgA d λb h=>(c b h).1,λb h=>(c b h).2.trans (i b h)⟩
def kZ.lt{P:I}{Γ:ca}{w:J}{v:D}{e:G}(h:kZ P Γ w v e){b:Nat}(c:v.ownBlock=O b):b<w.heap.size:=by let⟨n,d,a,_⟩:=h;exact(a.lt b c).2
def dQ{w w':J}{b:Nat}(h:w'.heap[b]? =w.heap[b]?)(o:Nat):w'.cell? ⟨b,o,N⟩=w.cell? ⟨b,o,N⟩:=World.cell?_of_block (a:=⟨b,o,N⟩) h
section
variable{P:I}{E:BP}{Γ:ca}{bs:cF}{m:Nat->Q rI}{w:J}{a:Array D}{st:aF}
def SR.world(h:SR P E Γ bs m w a st){Γ':ca}{w':J}(a5:Nat->Prop)(o:Γ.Le w Γ' w')
  (a4:∀b n,Γ' b=O n->∃c t fr,w'.heap[b]? =O (.cells c t fr)/\n<=c.size)
  (a2:w'.os=w.os) (a3:w'.tape=w.tape) (H:w'.output=w.output) (R:w.heap.size<=w'.heap.size)
  (r:∀b,b<w.heap.size->¬a5 b->w'.heap[b]? =w.heap[b]?/\Γ' b=Γ b)
  (hM:∀b,a5 b->E.T b\/E.w.heap.size<=b) (y:∀(i b:Nat),bs[i]? =O (O b)->¬a5 b) (z:∀b L,m b=O L->¬a5 b) (a1:dr w<=dr w':=by first|exact m7 _|exact Nat.le_succ _|exact vbC _ _|assumption|omega):
  SR P E Γ' bs m w' a st:={
 wi:=a4
 sz:=h.sz
 tm:=λt p v hp hv=>(h.tm t p v hp hv).mono o (.refl _)
 bl:=h.bl
 bx:=λi b B d S=>by let⟨s,h2,q⟩:=h.bx i b B d S;have X:=r b h2 (y i b d);exact⟨X.2.trans s,by omega,q.mono o (.refl _) X.1⟩
 inj:=h.inj
 bn:=h.bn
 on:=λb L hL=>⟨vaT (h.on b L hL).1 R,(h.on b L hL).2⟩
 ot:=λt k e he=>by let⟨u,v,s,h2,q,x⟩:=h.ot t k e he;exact⟨u,v,s,h2,q.same λb d=>r b (q.lt d) (z b _ (x b d)),x⟩
 ob:=λi j e cs own b S hj d=>by let⟨v,s,q,x⟩:=h.ob i j e cs own b S hj d;have a0:=(h.bx i b _ d S).2.1;exact⟨v,(dQ (r b a0 (y i b d)).1 j).trans s,q.same λb d=>r b (q.lt d) (z b _ (x b d)),x⟩
 gl:=λg cs hg=>(h.gl g cs hg).mono o (.refl _)
 gc:=h.gc
 gx:=h.gx
 step:={
  os:=a2.trans h.step.os
  tape:=a3.trans h.step.tape
  output:=H.trans h.step.output
  size:=n3 h.step.size R
  drawn:=n3 h.step.drawn a1
  keep:=λb d hT=>by have F:¬a5 b:=λX=>(hM b X).elim hT (λhx=>by omega);have A:b<w.heap.size:=vaT d h.step.size;let⟨k1,k2⟩:=h.step.keep b d hT;exact⟨(r b A F).1.trans k1,(r b A F).2.trans k2⟩
  le:=h.step.le.trans o}}
def SR.gnow(h:SR P E Γ bs m w a st){g:Nat}{cs:List PVal}(x:(g,cs)∈E.GE):g<w.heap.size/\(∀i b:Nat,bs[i]? =O (O b)->g≠b)/\m g=N/\∃c t fr,w.heap[g]? =O (.cells c t fr)/\c.size=cs.length:=by
 let⟨o,n,c,t,fr,p,q⟩:=h.gx g cs x;refine⟨vaT o h.step.size,λi b s e=>?_,?_,c,t,fr,((h.step.keep g o n).1).trans p,q⟩
 .subst e;rcases h.bn i g s with d|d;.exact n d
  .omega
 .cases r:m g with
  |none=>rfl
  | some L =>
   rcases(h.on g L r).2 with d|d;.exact absurd d n
   .omega
def cK{α:Type}{p:α->K}{l:V α}{x:α}(h:x∈l.filter p):x∈l/\p x=true:=by simpa using h
def SR.less(h:SR P E Γ bs m w a st){own:V ((Nat×Nat)×G)}(c:∀x∈own,x∈st.own):SR P E Γ bs m w a {st with own:=own}:={h with ot:=λt k e b=>h.ot t k e (c _ b),tm:=h.tm,bx:=h.bx,ob:=h.ob,sz:=h.sz,bl:=h.bl}
def SR.ow_drop(h:SR P E Γ bs m w a st){ow':Nat->Q rI}(F:∀b L,ow' b=O L->m b=O L)
  (H:∀t k e,((t,k),e)∈st.own->∀b,m b=O (.tmp t k)->ow' b=O (.tmp t k))
  (B:∀(i j:Nat) e d own,st.boxes[i]? =O (.cells d own)->(j,e)∈own->∀b,m b=O (.box i j)->ow' b=O (.box i j)):
  SR P E Γ bs ow' w a st:=
 { h with
  on:=λb L A=>h.on b L (F b L A)
  ot:=λt k e x=>by let⟨u,v,n,z,o,p⟩:=h.ot t k e x;exact⟨u,v,n,z,o,λb c=>H t k e x b (p b c)⟩
  ob:=λi j e d own b s y q=>by let⟨v,n,o,p⟩:=h.ob i j e d own b s y q;exact⟨v,n,o,λr c=>B i j e d own s y r (p r c)⟩}
def cU(d:Nat)(own:V ((Nat×Nat)×G)):V ((Nat×Nat)×G):=own.filter λx=>x.1.1 !=d
def eZ{d:Nat}{own:V ((Nat×Nat)×G)}{x:(Nat×Nat)×G}(h:x∈cU d own):x∈own/\x.1.1≠d:=by simpa[cU]using h
def SR.set(h:SR P E Γ bs m w a st){d:Nat}{p:PVal}{v:D}(z:VR Γ bs w p v):SR P E Γ bs m w (a.setIfInBounds d v) {st with tmps:=st.tmps.set d p,own:=cU d st.own}:=
 { h with
  sz:=by simp[h.sz]
  tm:=λt q u b c=>by
   simp only[vbH]at b;rw[vbu]at c;by_cases i:d=t
   .subst i;simp only[if_true]at b c;split at c
    .split at b;.cases c;cases b;exact z
     .cases b
    .cases c
   .simp only[i,if_false]at b c;exact h.tm t q u b c
  ot:=λt k e n=>by let⟨n,y⟩:=eZ n;let⟨u,A,o,r,s,x⟩:=h.ot t k e n;refine⟨u,A,?_,r,s,x⟩;rw[vba (λe=>y e.symm)];exact o}
end
section
variable{P:I}{E:BP}{Γ:ca}{bs:cF}{q:Nat->Q rI}{w:J}{a:Array D}{st:aF}
def SR.addOwn(h:SR P E Γ bs q w a st){d k:Nat}{e:G}{u v:D}(hu:a[d]? =O u)(hv:sm u k=O v)(F:kZ P Γ w v e)
  (y:∀b,v.ownBlock=O b->q b=N/\(E.T b\/E.w.heap.size<=b)):
  SR P E Γ bs (λb=>if v.ownBlock=O b then O (.tmp d k)else q b) w a {st with own:=((d,k),e)::st.own}:=
 { h with
  on:=λb L B=>by
   by_cases c:v.ownBlock=O b;.exact⟨F.lt c,(y b c).2⟩
   .simp only[c,if_false]at B;exact h.on b L B
  ot:=λt k' r n=>by
   simp only[oL]at n;rcases n with n|n;.cases n;exact⟨u,v,hu,hv,F,λb c=>by simp[c]⟩
   .let⟨u',A,s,R,x,o⟩:=h.ot t k' r n;refine⟨u',A,s,R,x,λb c=>?_⟩;have m:v.ownBlock≠O b:=λz=>by have:=(y b z).1;rw[o b c]at this;cases this
    simp only[m,if_false];exact o b c
  ob:=λi j r H own b S X c=>by
   let⟨A,s,x,o⟩:=h.ob i j r H own b S X c;refine⟨A,s,x,λb' p=>?_⟩;have m:v.ownBlock≠O b':=λz=>by have:=(y b' z).1;rw[o b' p]at this;cases this
   simp only[m,if_false];exact o b' p}
def SR.freeT(h:SR P E Γ bs q w a st)(t k:Nat):SR P E Γ bs (λb=>if q b=O (.tmp t k)then N else q b) w a {st with own:=st.own.filter λx=>x.1 !=(t,k)}:=by
 have o:=h.less (own:=st.own.filter λx=>x.1 !=(t,k)) (λx d=>(cK d).1);refine o.ow_drop (λb L m=>?_) (λs r e p b c=>?_) (λi j e z own A B b c=>?_)
 .split at m;.cases m
  .exact m
 .have:=(cK p).2;have n:¬(s=t/\r=k):=λ⟨x,y⟩=>by subst x;subst y;simp at this
  rw[hG];.exact c
  .rw[c];intro d;cases d;exact n ⟨rfl,rfl⟩
 .rw[hG];.exact c
  .rw[c];intro d;cases d
def VY{bs:cF}{id i b:Nat}{x:Q Nat}(c:bs[id]? =O N)(h:bs[i]? =O (O b)):(bs.set id x)[i]? =O (O b):=by
 rw[t7];.exact h
 .intro e;subst e;rw[c]at h;cases h
def ca.put(Γ:ca)(b n:Nat):ca:=λx=>if x=b then O n else Γ x
def ca.put_same(Γ:ca)(b n:Nat):Γ.put b n b=O n:=by simp[ca.put]
def ca.put_other(Γ:ca){b n x:Nat}(h:x≠b):Γ.put b n x=Γ x:=by simp[ca.put,h]
def SR.lt_of_ghost(h:SR P E Γ bs q w a st){b n:Nat}(e:Γ b=O n):b<w.heap.size:=by let⟨c,t,fr,d,_⟩:=h.wi b n e;exact(vao.1 d).1
def jl(w:J)(o:Obj):(w.alloc o).heap[w.heap.size]? =O o:=heap_alloc_new w o
def alloc_old(w:J)(o:Obj){b:Nat}(h:b<w.heap.size):(w.alloc o).heap[b]? =w.heap[b]?:=by show(w.heap.push o)[b]? =_;rw[vbL,hG (by omega)]
def SR.alloc_imm(h:SR P E Γ bs q w a st)(c:Array D)(t:G)(n:Nat)(z:n<=c.size):SR P E (Γ.put w.heap.size n) bs q (w.alloc (.cells c t)) a st/\Γ.Le w (Γ.put w.heap.size n) (w.alloc (.cells c t)):=by
 have i:Γ.Le w (Γ.put w.heap.size n) (w.alloc (.cells c t)):=λb m d _=>by have r:=h.lt_of_ghost d;exact⟨m,(Γ.put_other (by omega)).trans d,m7 _,λo _=>dQ (alloc_old w _ r) o⟩
 refine⟨h.world (λ_=>False) i (λb m d=>?_) rfl rfl rfl (by simp) (λb d _=>⟨alloc_old w _ d,Γ.put_other (by omega)⟩) (λ_ p=>p.elim) (λ_ _ _ p=>p) (λ_ _ _ p=>p),i⟩;by_cases e:b=w.heap.size;.subst e;rw[Γ.put_same]at d;cases d;exact⟨c,t,(0,0),jl w _,z⟩
 .rw[Γ.put_other e]at d;let⟨s,A,fr,x,y⟩:=h.wi b m d;exact⟨s,A,fr,(alloc_old w _ (h.lt_of_ghost d)).trans x,y⟩
def SR.drew(h:SR P E Γ bs q w a st):SR P E Γ bs q w.drew a st:=h.world (λ_=>False) (λ_ m c _=>⟨m,c,m7 _,λ_ _=>rfl⟩) h.wi rfl rfl rfl (m7 _) (λ_ _ _=>⟨rfl,rfl⟩) (λ_ b=>b.elim) (λ_ _ _ b=>b) (λ_ _ _ b=>b)
def SR.alloc_box(h:SR P E Γ bs q w a st){id:Nat}(a0:bs[id]? =O N)(o:Obj)(B:aJ)
  (hB:∀R:cF,bs.Sub R->BR Γ R (w.alloc o) B w.heap.size) (H:∀L own,B=.cells L own->∀j e,(j,e)∈own->∃v,(w.alloc o).cell? ⟨w.heap.size,j,N⟩=O v/\v.ownBlock=N/\kZ P Γ (w.alloc o) v e):
  SR P E Γ (bs.set id (O w.heap.size)) q (w.alloc o) a {st with boxes:=st.boxes.set id B}:=by
 have a1:Γ.Le w Γ (w.alloc o):=λ_ m c _=>⟨m,c,m7 _,λo' _=>dQ (alloc_old w _ (h.lt_of_ghost c)) o'⟩
 have r:bs.Sub (bs.set id (O w.heap.size)):=λi b c=>VY a0 c
 have z:=h.world (λ_=>False) (Γ':=Γ) (w':=w.alloc o) a1 (λb m c=>by
  let⟨c',t',fr,S,X⟩:=h.wi b m c;exact⟨c',t',fr,(alloc_old w _ (h.lt_of_ghost c)).trans S,X⟩) rfl rfl rfl (by simp) (λb c _=>⟨alloc_old w _ c,rfl⟩) (λ_ hx=>hx.elim) (λ_ _ _ hx=>hx) (λ_ _ _ hx=>hx)
 have x:id<bs.length:=ax a0
 have d:∀{i b:Nat},(bs.set id (O w.heap.size))[i]? =O (O b)->(i=id/\b=w.heap.size)\/(i≠id/\bs[i]? =O (O b)):=by
  intro i b c;by_cases s:i=id;.subst s;rw[o6 x]at c;cases c;exact .inl ⟨rfl,rfl⟩
  .rw[t7 (λe=>s e.symm)]at c;exact .inr ⟨s,c⟩
 have A:∀{i:Nat}{B':aJ},i≠id->(st.boxes.set id B)[i]? =O B'->st.boxes[i]? =O B':=by intro i B' s n;rwa[t7 (λe=>s e.symm)]at n
 have y:∀{B':aJ},(st.boxes.set id B)[id]? =O B'->B'=B:=by intro B' n;rw[o6 (by rw[<-h.bl];exact x)]at n;cases n;rfl
 exact{
  wi:=z.wi
  sz:=z.sz
  tm:=λt p v hp hv=>(z.tm t p v hp hv).mono (.refl _ _) r
  bl:=by simp[h.bl]
  bx:=λi b B' c n=>by
   rcases d c with⟨rfl,rfl⟩|⟨s,c⟩;.have:=y n;subst this;refine⟨?_,by simp,hB _ r⟩;cases hg:Γ w.heap.size with|none=>rfl|some m=>exact absurd (h.lt_of_ghost hg) (vci _)
   .let⟨S,X,h3⟩:=z.bx i b B' c (A s n);exact⟨S,X,h3.mono (.refl _ _) r rfl⟩
  inj:=λi j b s hj=>by
   rcases d s with⟨rfl,rfl⟩|⟨hi',c⟩<;>rcases d hj with⟨rfl,F⟩|⟨hj',hb''⟩;.rfl
   .have:=(z.bx j _ (st.boxes[j]'(by rw[<-h.bl];exact ax hb'')) hb'' (by simp)).2.1;have:=(h.bx j _ (st.boxes[j]'(by rw[<-h.bl];exact ax hb'')) hb'' (by simp)).2.1;omega
   .have:=(h.bx i _ (st.boxes[i]'(by rw[<-h.bl];exact ax c)) c (by simp)).2.1;omega
   .exact h.inj i j b c hb''
  bn:=λi b c=>by
   rcases d c with⟨rfl,rfl⟩|⟨s,c⟩;.exact .inr h.step.size
   .exact h.bn i b c
  on:=z.on
  ot:=z.ot
  ob:=λi j e L own b n hj c=>by
   rcases d c with⟨rfl,rfl⟩|⟨s,c⟩;.have:=y n;subst this;let⟨v,S,X,h3⟩:=H L own rfl j e hj;exact⟨v,S,h3,λb' F=>by rw[X]at F;cases F⟩
   .exact z.ob i j e L own b (A s n) hj c
  gl:=λg L hg=>(z.gl g L hg).mono (.refl _ _) r
  gc:=h.gc
  gx:=h.gx
  step:=z.step}
def SR.box_write(h:SR P E Γ bs q w a st){i b:Nat}(hi:bs[i]? =O (O b)){w':J}{B:aJ}{ow':Nat->Q rI}
  (a9:w'.os=w.os) (ab:w'.tape=w.tape) (a5:w'.output=w.output) (S:w'.heap.size=w.heap.size)
  (hk:∀d,d≠b->w'.heap[d]? =w.heap[d]?) (hB:BR Γ bs w' B b)
  (A:∀d L,q d=O L->(∀j,L≠.box i j)->ow' d=O L) (a4:∀d L,ow' d=O L->d<w.heap.size/\(E.T d\/E.w.heap.size<=d))
  (a6:∀cs own,B=.cells cs own->∀j e,(j,e)∈own->∃v,w'.cell? ⟨b,j,N⟩=O v/\kZ P Γ w' v e/\∀d,v.ownBlock=O d->ow' d=O (.box i j)) (a8:dr w<=dr w':=by first|exact m7 _|exact Nat.le_succ _|exact vbC _ _|assumption|omega):
  SR P E Γ bs ow' w' a {st with boxes:=st.boxes.set i B}:=by
 have z:i<st.boxes.length:=by rw[<-h.bl];exact ax hi
 have hg:Γ b=N:=(h.bx i b (st.boxes[i]'z) hi (by simp)).1
 have a3:∀{d n},Γ d=O n->d≠b:=λhb e=>by subst e;rw[hg]at hb;cases hb
 have R:Γ.Le w Γ w':=λd m hb _=>⟨m,hb,m7 _,λo' _=>dQ (hk d (a3 hb)) o'⟩
 have a2:∀{v e},kZ P Γ w v e->kZ P Γ w' v e:=λ{v e} ho=>ho.same λd o=>by let⟨n,xs,X,h2⟩:=ho;exact⟨hk d (a3 (h2 d o)),rfl⟩
 have a1:∀{j:Nat}{B':aJ},j≠i->(st.boxes.set i B)[j]? =O B'->st.boxes[j]? =O B':=by intro j B' H r;rwa[t7 (λe=>H e.symm)]at r
 have F:∀{B':aJ},(st.boxes.set i B)[i]? =O B'->B'=B:=by intro B' r;rw[o6 z]at r;cases r;rfl
 have a0:∀{j d:Nat},bs[j]? =O (O d)->j≠i->d≠b:=λH s e=>by subst e;exact s (h.inj _ _ _ H hi)
 exact{
  wi:=λd n o=>by let⟨c,t,fr,X,h2⟩:=h.wi d n o;exact⟨c,t,fr,(hk d (a3 o)).trans X,h2⟩
  sz:=h.sz
  tm:=λt p v hp hv=>(h.tm t p v hp hv).mono R (.refl _)
  bl:=by simp[h.bl]
  bx:=λj d B' o r=>by
   by_cases H:j=i
   .subst H;have:=F r;subst this;have:d=b:=by rw[hi]at o;cases o;rfl
    subst this;exact⟨hg,by rw[S];exact(h.bx j d (st.boxes[j]'z) hi (by simp)).2.1,hB⟩
   .let⟨X,h2,h3⟩:=h.bx j d B' o (a1 H r);exact⟨X,by rw[S];exact h2,h3.mono R (.refl _) (hk d (a0 o H))⟩
  inj:=h.inj
  bn:=h.bn
  on:=λd L hL=>⟨by rw[S];exact(a4 d L hL).1,(a4 d L hL).2⟩
  ot:=λt k e he=>by let⟨u,v,X,h2,h3,h4⟩:=h.ot t k e he;exact⟨u,v,X,h2,a2 h3,λd o=>A d _ (h4 d o) (λj hx=>by cases hx)⟩
  ob:=λj k e cs own d r H o=>by
   by_cases s:j=i
   .subst s;have:=F r;subst this;have:d=b:=by rw[hi]at o;cases o;rfl
    subst this;exact a6 cs own rfl k e H
   .let⟨v,X,h3,h4⟩:=h.ob j k e cs own d (a1 s r) H o;exact⟨v,(dQ (hk d (a0 o s)) k).trans X,a2 h3,λx hx=>A x _ (h4 x hx) (λy hy=>by cases hy;exact s rfl)⟩
  gl:=λg cs hg=>(h.gl g cs hg).mono R (.refl _)
  gc:=h.gc
  gx:=h.gx
  step:={
   os:=a9.trans h.step.os
   tape:=ab.trans h.step.tape
   output:=a5.trans h.step.output
   size:=by rw[S];exact h.step.size
   drawn:=n3 h.step.drawn a8
   keep:=λd o hT=>by
    have a7:d≠b:=λe=>by subst e;exact(h.bn i d hi).elim hT (λhx=>by omega)
    let⟨k1,k2⟩:=h.step.keep d o hT;exact⟨(hk d a7).trans k1,k2⟩
   le:=h.step.le.trans R}}
end
def absC:D->PVal|.int k n=>.int k n|.bool b=>.bool b|.string s=>.str s.data.toList|.slice N 0 0=>.slice []|v=>.val v
def absV:D->PVal|.agg cs=>.agg (cs.toList.map absC)|v=>absC v
def VR.absC{Γ:ca}{a:cF}{w:J}(v:D):VR Γ a w (absC v) v:=by
 unfold Go.Proofs.YtibglelmlnfojaaGreatDoor.absC;split;.exact .int _ _
 .exact .bool _
 .rename_i s;exact .str s.data.toList
 .exact .sliceNil
 .exact .val _
def VR.absV{Γ:ca}{b:cF}{w:J}(v:D):VR Γ b w (absV v) v:=by
 unfold Go.Proofs.YtibglelmlnfojaaGreatDoor.absV;split;.rename_i c;refine .agg _ c (by simp) λi p v a d=>?_;simp only[t8,vbb,d,oo,q8]at a;subst a;exact .absC v
 .exact .absC v
def Q9:List (Nat×List PVal)->Nat->PVal|[],_=>.undef|(g,cs)::r,x=>if g=x then .eptr cs else Q9 r x
def opv(GE:List (Nat×List PVal))(a:List PVal):Operand->PVal|.tmp t=>a.getD t .undef|.const v=>absV v|.global g=>Q9 GE g|.func f=>.func (.func f) [] []
def qgn{GE:List (Nat×List PVal)}{g:Nat}:Q9 GE g=.undef\/∃cs,(g,cs)∈GE/\Q9 GE g=.eptr cs:=by
 induction GE with
 |nil=>exact .inl rfl
 | cons x r a =>
  let⟨h,cs⟩:=x;simp only[Q9];split;.rename_i e;subst e;exact .inr ⟨cs,by simp,rfl⟩
  .rcases a with a|⟨cs',h1,h2⟩;.exact .inl a
   .exact .inr ⟨cs',by simp[h1],h2⟩
section
variable{P:I}{E:BP}{Γ:ca}{bs:cF}{c:Nat->Q rI}{w:J}{a:Array D}{st:aF}
def SR.opv(h:SR P E Γ bs c w a st)(n:List Deferred)(x:Operand):VR Γ bs w (opv E.GE st.tmps x) ((Act.mk a n).eval x):=by
 cases x with
 | tmp t =>
  show VR Γ bs w (st.tmps.getD t .undef) (a.getD t undef);by_cases d:t<a.size
  .have b:st.tmps[t]? =O (st.tmps[t]'(by rw[<-h.sz];exact d)):=by simp
   have e:a[t]? =O a[t]:=by simp[d]
   have:=h.tm t _ _ b e;rw[vap,b];simpa[vaE,d]using this
  .have:st.tmps[t]? =N:=va0 (by rw[<-h.sz];exact vbY d);rw[vap,this];exact .undef _
 |const v=>exact .absV v
 | global g =>
  show VR Γ bs w (Q9 E.GE g) _;rcases qgn (GE:=E.GE) (g:=g)with b|⟨cs,b,e⟩;.rw[b];exact .undef _
  .rw[e];exact h.gl g cs b
 |func f=>exact .func _ [] [] #[] #[] rfl rfl (λi p v m _=>by simp at m) (λi p v m _=>by simp at m)
def _root_.Go.Proofs.YtibglelmlnfojaaGreatDoor.PVal.one:PVal->K|.undef|.agg _|.tuple _|.nptr _ _=>Z|.val v=>v.oneCell'|_=>T
def VR.one{p:PVal}{v:D}(h:VR Γ bs w p v)(b:p.one=T):v.oneCell'=true:=by cases h<;>first|rfl|(simp[PVal.one]at b;done)|exact b
def X5{v:D}(h:v.oneCell'=T):v.cells=#[v]:=by cases v<;>simp[Value.oneCell']at h<;>rfl
def bH:PVal->Q (List PVal)|.agg cs=>O cs|p=>if p.one then O [p]else N
def VR.cells{p:PVal}{v:D}{e:List PVal}(h:VR Γ bs w p v)(b:bH p=O e):v.cells.size=e.length/\∀(i:Nat) q u,e[i]? =O q->v.cells[i]? =O u->VR Γ bs w q u:=by
 have d:∀{p:PVal}{v:D},VR Γ bs w p v->p.one=T->v.cells.size=[p].length/\∀(i:Nat) q u,[p][i]? =O q->v.cells[i]? =O u->VR Γ bs w q u:=by intro p v h o;rw[X5 (VR.one h o)];refine⟨rfl,λi q u m n=>?_⟩;match i,m,n with|0,m,n=>simp at m n;subst m;subst n;exact h
 unfold bH at b;split at b;.cases b;cases h with|agg e vs hl h=>exact⟨hl,h⟩
 .split at b;.rename_i o;cases b;exact d h o
  .cases b
def co(P:I)(t:G)(b:List PVal):Q PVal:=match P.underlying t with|some (.struct _)|some (.array _ _)=>if P.cellsOf t<=b.length then O (.agg (b.take (P.cellsOf t)))else N|some _=>b.head?|none=>N
def FA{t:G}{d:TypeDesc}(h:P.underlying t=O d):∃i,P.info? t=O i:=by unfold Program.underlying at h;cases b:P.info? t with|some i=>exact⟨i,rfl⟩|none=>simp[b]at h
def rD{t:G}{b off:Nat}{r:List PVal}{vals:Nat->D}{p:PVal}(h:co P t r=O p)
  (B:∀(k:Nat) q,r[k]? =O q->w.cell? ⟨b,off+k,N⟩=O (vals k)) (L:∀(k:Nat) q,r[k]? =O q->VR Γ bs w q (vals k)):
  ∃v,(loadVar t ⟨b,off,N⟩).run P w=.ok v w/\VR Γ bs w p v:=by
 have m:∀{d},P.underlying t=O d->(match d with|.struct _|.array _ _=>True|_=>False)->P.cellsOf t<=r.length->
   ∃v,(loadVar t ⟨b,off,N⟩).run P w=.ok v w/\VR Γ bs w (.agg (r.take (P.cellsOf t))) v:=by
  intro d o S hl
  let⟨i,R⟩:=FA o
  have s:=run_loadCells (P:=P) w ⟨b,off,N⟩ (P.cellsOf t) vals (λj hj=>by
   rw[Addr.add_lit];exact B j _ (m6 (by omega)))
  refine⟨.agg ((List.range (P.cellsOf t)).map vals).toArray,?_,.agg _ _ (by simp;omega) λk q u z H=>?_⟩
  .cases d<;>simp at S<;>simp[loadVar,isAgg,run_underlying o,run_sizeOf w R,s]
  .have F:k<P.cellsOf t:=by have:=ax z;simp at this;omega
   rw[vaG F]at z
   simp[F]at H
   subst H
   exact L k q z
 unfold co at h
 split at h
 .rename_i X o
  split at h
  .cases h;exact m o md ‹_›
  .cases h
 .rename_i n e o
  split at h
  .cases h;exact m o md ‹_›
  .cases h
 .rename_i d y x o
  cases r with
  |nil=>simp at h
  |cons q r=>
   simp at h;subst h
   have A:=B 0 q rfl
   simp only[Nat.add_zero]at A
   refine⟨vals 0,?_,L 0 q rfl⟩
   cases d<;>simp at y x<;>simp[loadVar,isAgg,run_underlying o,A]
 .cases h
end
def qjB:Nat:=4611686018427387904
def qo4(c:BinOp)(k:IntKind)(a b:Int):Q PVal:=match c with|.add=>O (.int k (k.wrap (a+b)))|.sub=>O (.int k (k.wrap (a - b)))|.mul=>O (.int k (k.wrap (a * b)))|.quo=>if b=0 then N else O (.int k (k.wrap (a.tdiv b)))|.rem=>if b=0 then N else O (.int k (a.tmod b))|.eql=>O (.bool (a==b))|.neq=>O (.bool (a !=b))|.lss=>O (.bool (Y (a<b)))|.leq=>O (.bool (Y (a<=b)))|.gtr=>O (.bool (Y (a>b)))|.geq=>O (.bool (Y (a>=b)))|_=>N
def qrC(c:BinOp)(a b:List UInt8):Q PVal:=match c with|.add=>if a.length+b.length<=qjB then O (.str (a++b))else N|.eql=>O (.bool (a==b))|.neq=>O (.bool !(a==b))|.lss=>O (.bool (Op.bytesLess a b))|.leq=>O (.bool (Op.bytesLess a b||a==b))|.gtr=>O (.bool !(Op.bytesLess a b||a==b))|.geq=>O (.bool !(Op.bytesLess a b))|_=>N
def qk6(c:BinOp)(a b:K):Q PVal:=match c with|.eql=>O (.bool (a==b))|.neq=>O (.bool !(a==b))|_=>N
def J9(P:I)(d e:List PVal):List Field->Q K|[]=>O T|f::r=>if f.name= "_" then N else match J9 P d e r,P.underlying f.type,d[f.offset]?,e[f.offset]? with|some b,O (.int _),O (.int k a),O (.int k' c)=>if k=k' then O ((a==c)&&b)else N|some b,O .string,O (.str a),O (.str c)=>O ((a==c)&&b)|some b,O .bool,O (.bool a),O (.bool c)=>O ((a==c)&&b)|_,_,_,_=>N
def Rh(P:I)(c:G)(a b:List PVal):Q K:=match P.stoodInHeld c,P.eqGuardType P.depth c,P.underlying c with|false,Z,O (.struct fs)=>J9 P a b fs.toList|_,_,_=>N
def qb7(P:I)(c:BinOp)(d:G)(x y:PVal):Q PVal:=match x,y with
 |.int k a,.int k' b=>if k=k' then qo4 c k a b else N
 |.str a,.str b=>qrC c a b
 |.bool a,.bool b=>match P.underlying d with|some .bool=>qk6 c a b|_=>N
 |.agg xs,.agg ys=>match c with|.eql=>(Rh P d xs ys).map .bool|.neq=>(Rh P d xs ys).map λb=>.bool !b|_=>N
 |_,_=>N
def qxd(a:UnOp)(x:PVal):Q PVal:=match a,x with|.not,.bool b=>O (.bool !b)|.neg,.int k n=>O (.int k (k.wrap (0 - n)))|_,_=>N
def L1:List (List PVal)->Q (List UInt8)|[]=>O []|[.int .u8 n]::r=>if 0<=n/\n<256 then(L1 r).map (UInt8.ofNat n.toNat::·)else N|_::_=>N
def Yn(P:I)(b a:G)(x:PVal):Q PVal:=match P.underlying b,P.underlying a,x with
 |some (.slice e),O .string,.slice es=>match P.underlying e with|some (.int .u8)=>(L1 es).map .str|_=>N
 |some (.int _),O (.int k),.int _ n=>O (.int k (k.wrap n))
 |some .string,O .string,.str s=>O (.str s)
 |_,_,_=>N
def lR(P:I)(s:G)(x:PVal)(f:Nat):Q PVal:=match P.underlying s with
 | some (.struct fs) =>match fs[f]? with
  |some fd=>if P.cellsOf fd.type=0 then N else match x with|.eptr cs=>if fd.offset<=cs.length then O (.eptr (cs.drop fd.offset))else N|.bptr i off=>O (.bptr i (off+fd.offset))|_=>N
  |none=>N
 |_=>N
def n9(P:I)(t:G)(x a:PVal):Q PVal:=match P.underlying t,x,a with
 | some (.slice e),.slice es,.int _ i =>if 0<=i then match es[i.toNat]? with|some el=>if el.length=P.cellsOf e/\(P.info? e).isSome then O (.eptr el)else N|none=>N else N
 |some (.slice e),.bsl b off n,.int _ i=>if 0<=i/\i<n/\(P.info? e).isSome then O (.bptr b (off+i.toNat * P.cellsOf e))else N
 |some (.array n e),.eptr cs,.int _ i=>if 0<=i/\i<n/\(P.info? e).isSome/\i.toNat * P.cellsOf e<=cs.length then O (.eptr (cs.drop (i.toNat * P.cellsOf e)))else N
 |some (.array n e),.bptr b off,.int _ i=>if 0<=i/\i<n/\(P.info? e).isSome then O (.bptr b (off+i.toNat * P.cellsOf e))else N
 |_,_,_=>N
def qgI(P:I)(t:G)(x:PVal)(f:Nat):Q PVal:=match P.underlying t,x with
 |some (.struct fs),.agg cs=>match fs[f]? with|some fd=>co P fd.type (cs.drop fd.offset)|none=>N
 |_,_=>N
def L3(P:I)(t:G)(x a:PVal):Q PVal:=match P.underlying t,x,a with|some (.array n e),.agg cs,.int _ i=>if 0<=i/\i<n/\(P.info? e).isSome then co P e (cs.drop (i.toNat * P.cellsOf e))else N|some .string,.str s,.int _ i=>if 0<=i then(s[i.toNat]?).map λc=>.int .u8 c.toNat else N|_,_,_=>N
def FK(x:PVal)(i:Nat):Q PVal:=match x with|.tuple vs=>vs[i]? |_=>N
def Zp(x:Q PVal)(d:Nat):Q Nat:=match x with|none=>O d|some (.int _ i)=>if 0<=i then O i.toNat else N|some _=>N
def QD(P:I)(t:G)(x:PVal)(lo a b:Q PVal):Q PVal:=match P.underlying t,x,b with
 |some .string,.str s,N=>match Zp lo 0,Zp a s.length with|some l,O h=>if l<=h/\h<=s.length then O (.str ((s.take h).drop l))else N|_,_=>N
 |some (.slice e),.slice es,N=>match Zp lo 0,Zp a es.length with|some l,O h=>if l<=h/\h<=es.length/\(P.info? e).isSome/\(∀x∈es.take 1,x.length=P.cellsOf e)then O (.slice ((es.take h).drop l))else N|_,_=>N
 |some (.slice e),.bsl i off n,N=>match Zp lo 0,Zp a n with|some l,O h=>if l<=h/\h<=n/\(P.info? e).isSome then O (.bsl i (off+l * P.cellsOf e) (h - l))else N|_,_=>N
 |_,_,_=>N
section
variable{P:I}{E:BP}{Γ:ca}{bs:cF}{m:Nat->Q rI}{w:J}{a:Array D}{st:aF}
def qo5{b:BinOp}{k:IntKind}{x y:Int}{p:PVal}(e:G)(c d:Operand)(h:qo4 b k x y=O p):∃v,(do eqGuard b e c d (.int k x) (.int k y);binOp b e (.int k x) (.int k y):Sem D).run P w=.ok v w/\VR Γ bs w p v:=by
  cases b<;>simp only[qo4]at h
  all_goals first
    |(cases h;done)
    |(cases h;refine⟨_,?_,.int _ _⟩;simp[eqGuard,binOp,Op.intArith];done)
    |(cases h;refine⟨_,?_,.bool _⟩;simp[eqGuard,binOp,Op.intCmp];done)
    | (split at h
       .cases h
       .cases h;refine⟨_,?_,.int _ _⟩;simp[eqGuard,binOp,Op.intDiv, *])
def qpf{c:BinOp}{x y:List UInt8}{p:PVal}(o:G)(i n:Operand)(h:qrC c x y=O p):∃v,(do eqGuard c o i n (.string ⟨x.toArray⟩) (.string ⟨y.toArray⟩);binOp c o (.string ⟨x.toArray⟩) (.string ⟨y.toArray⟩):Sem D).run P w=.ok v w/\VR Γ bs w p v:=by
  cases c<;>simp only[qrC]at h
  all_goals first
    |(cases h;done)
    |(cases h;refine⟨_,?_,.bool _⟩;simp[eqGuard,binOp,Op.stringOp];done)
    | (split at h
       . rename_i e
         cases h
         refine⟨.string ⟨(x++y).toArray⟩,?_,.str _⟩
         have d:¬(((ByteArray.mk x.toArray).size+(ByteArray.mk y.toArray).size:Nat):Int)>IntKind.i64.max:=by
           show ¬(((x.toArray.size+y.toArray.size:Nat):Int)>IntKind.i64.max);simp only[vbX];have:(IntKind.i64.max:Int)=9223372036854775807:=by decide
           unfold qjB at e;omega
         have b:ByteArray.mk x.toArray++ByteArray.mk y.toArray=ByteArray.mk (x++y).toArray:=by apply ByteArray.ext;simp
         simp only[eqGuard,binOp,Op.stringOp,hG d,b]
         simp
       .cases h)
def qcD{c:G}(b:P.underlying c=O .bool)(x y:K):(Op.equal c (.bool x) (.bool y)).run P w=.ok (x==y) w:=by show(Op.equalIn (9999+1) c (.bool x) (.bool y)).run P w=_;rw[Op.equalIn];simp[run_underlying b]
def U3{d:Nat}{S X:List PVal}{F B:Array D}(h1:∀(i:Nat) p v,S[i]? =O p->F[i]? =O v->VR Γ bs w p v)(h2:∀(i:Nat) p v,X[i]? =O p->B[i]? =O v->VR Γ bs w p v)
  (L:F.size=S.length) (R:B.size=X.length):∀{fs:List Field}{b:K},J9 P S X fs=O b->(Op.eqFields (d+1) F B fs).run P w=.ok b w
 |[],b,h=>by cases h;simp[Op.eqFields]
 | f :: r,b,h => by
  unfold J9 at h;split at h;.cases h
  .rename_i hn
   have n:∀{x y:PVal}{b1 A:K}{a2:TypeDesc},P.underlying f.type=O a2->(match a2 with|.struct _|.array _ _=>False|_=>True)->S[f.offset]? =O x->X[f.offset]? =O y->J9 P S X r=O A->
     (∀{v u},VR Γ bs w x v->VR Γ bs w y u->(Op.equalIn (d+1) f.type v u).run P w=.ok b1 w)->(Op.eqFields (d+1) F B (f::r)).run P w=.ok (b1&&A) w:=by
    intro x y b1 A a2 e H s t z hk
    have ih:=U3 h1 h2 L R (d:=d) z
    obtain⟨v,q⟩:∃v,F[f.offset]? =O v:=⟨_,vaX (by rw[L];exact ax s)⟩
    obtain⟨u,o⟩:∃u,B[f.offset]? =O u:=⟨_,vaX (by rw[R];exact ax t)⟩
    have a0:(part f.type F f.offset).run P w=.ok v w:=by cases a2<;>simp at H<;>simp[part,isAgg,run_underlying e,q]
    have a1:(part f.type B f.offset).run P w=.ok u w:=by cases a2<;>simp at H<;>simp[part,isAgg,run_underlying e,o]
    have hq:=hk (h1 _ _ _ s q) (h2 _ _ _ t o)
    unfold Op.eqFields
    rw[hU hn]
    cases b1<;>simp[a0,a1,hq,ih]
   split at h
   .rename_i A k' k a k2 c z e s t;split at h;.rename_i hk;subst hk;cases h;refine n e md s t z λq o=>?_;cases q;cases o;exact run_equalIn_int w d f.type _ _ _ _ e
    .cases h
   .rename_i A a c z e s t;cases h;refine n e md s t z λq o=>?_;cases q;cases o;rw[run_equalIn_string w d f.type _ _ e];simp
   .rename_i A a c z e s t;cases h;refine n e md s t z λq o=>?_;cases q;cases o;exact run_equalIn_bool' w d f.type _ _ e
   .cases h
def qoW {e:BinOp} {a0:G} {x y p:PVal} {s t:D} (i:VR Γ bs w x s) (n:VR Γ bs w y t) (o q:Operand) (h:qb7 P e a0 x y = O p) :∃ v,(do eqGuard e a0 o q s t; binOp e a0 s t:Sem D).run P w = .ok v w∧VR Γ bs w p v:=by
  unfold qb7 at h;split at h
  . split at h
    . rename_i L; subst L
      cases i;cases n
      exact qo5 a0 o q h
    .cases h
  . cases i; cases n
    exact qpf a0 o q h
  . split at h
    . rename_i H
      cases i;cases n
      cases e<;>simp only[qk6]at h
      all_goals first
        |(cases h;done)
        |(cases h;refine⟨_,?_,.bool _⟩;simp[eqGuard,binOp,qcD H];done)
    .cases h
  . rename_i X ys
    cases i with
    | agg _ vs hl1 hv1 =>
      cases n with
      | agg _ us hl2 hv2 =>
        have r:∀{b},Rh P a0 X ys=O b->P.eqGuardType P.depth a0=Z/\(Op.equalIn 10000 a0 (.agg vs) (.agg us)).run P w=.ok b w:=by
          intro b c;unfold Rh at c;split at c
          . rename_i fs B F z
            have A:P.fieldsOf a0=fs:=by unfold Program.fieldsOf;rw[z]
            refine⟨F,?_⟩
            rw[run_equalIn_struct w 9999 a0 vs us (by rw[A];exact z) B,A]
            exact U3 (d:=9998) hv1 hv2 (by omega) (by omega) c
          .cases c
        cases e<;>simp only at h<;>first
          |(cases h;done)
          | (rw [vaF] at h
             obtain⟨b,c,rfl⟩:=h
             let⟨R,S⟩:=r c
             refine⟨_,?_,.bool _⟩
             simp[run_eqGuard_agg w _ a0 o q vs us R,run_eql_struct,run_neq_struct,S])
  .cases h
def qrE{c:UnOp}{x p:PVal}{d:D}(b:VR Γ bs w x d)(h:qxd c x=O p):∃v,(Op.unary c d).run P w=.ok v w/\VR Γ bs w p v:=by
 unfold qxd at h;split at h;.cases h;cases b;exact⟨_,by simp[Op.unary],.bool _⟩
 .cases h;cases b;exact⟨_,by simp[Op.unary,Op.intArith],.int _ _⟩
 .cases h
def qb9:∀{b:List (List PVal)}{l:List UInt8},L1 b=O l->b.length=l.length/\∀(i:Nat)(h:i<l.length),b[i]? =O [.int .u8 (l[i].toNat:Int)]
 |[],l,h=>by simp[L1]at h;subst h;simp
 | e :: r,l,h => by
  unfold L1 at h;split at h;.rename_i c;cases c
  .rename_i n t c;cases c;split at h
   .rename_i s;cases d:L1 r with
    |none=>rw[d]at h;cases h
    | some l' =>rw[d]at h;cases h;let⟨p,q⟩:=qb9 d;refine⟨by simp[p],λi o=>?_⟩;cases i with|zero=>simp only[List.getElem?_cons_zero,List.getElem_cons_zero,q8,vbI,vcj,PVal.int.injEq,vck];rw[UInt8.toNat_ofNat_of_lt' (by show n.toNat<256;omega)];omega|succ i=>simpa using q i (by simpa using o)
   .cases h
  .cases h
def qmF{d c:G}{x p:PVal}{R:D}(B:VR Γ bs w x R)(h:Yn P d c x=O p):∃v,(convert d c R).run P w=.ok v w/\VR Γ bs w p v:=by
 unfold Yn at h;split at h
 .rename_i e S i o;split at h
  .rename_i s;cases t:L1 S with
   |none=>rw[t]at h;cases h
   | some l =>
    rw[t]at h;cases h;let⟨F,X⟩:=qb9 t;cases B with
    |sliceNil=>
     have z:l=[]:=by simpa using F.symm
     subst z;refine⟨.string ⟨#[]⟩,?_,.str []⟩;rw[run_convert_bytes_string w d c e N 0 0 i s o];rfl
    |sliceE a cap=>
     have z:l=[]:=by simpa using F.symm
     subst z;exact⟨.string ⟨#[]⟩,run_convert_bytes_back w d c e a cap [] i s o (λj y=>by simp at y),.str []⟩
    |slice _ b off cap n sz vals hz0 hcap hg hn hsz hc hv=>
     refine⟨.string ⟨l.toArray⟩,?_,.str l⟩;rw[F];refine run_convert_bytes_back w d c e ⟨b,off,N⟩ cap l i s o λj y=>?_;have r:=X j y;have A:sz=1:=by have:=hsz j _ r;simpa using this.symm
     subst A;have H:=hc j _ 0 _ r rfl;have L:=hv j _ 0 _ r rfl;rw[Addr.add_lit];rw[show off+j * 1+0=off+j by omega]at H;rw[H];generalize vals j 0=q at L;cases L;rfl
  .cases h
 .rename_i i o;cases h;cases B;exact⟨_,by simp[convert,run_underlying i,run_underlying o,Conv.intToInt],.int _ _⟩
 .rename_i i o;cases h;cases B;exact⟨_,by simp[convert,run_underlying i,run_underlying o],.str _⟩
 .cases h
def VR.eptr_drop{i:List PVal}{v:D}(h:VR Γ bs w (.eptr i) v){d:Nat}(o:d<=i.length):∃b c,v=.pointer (O ⟨b,c,N⟩)/\VR Γ bs w (.eptr (i.drop d)) (.pointer (O ⟨b,c+d,N⟩)):=by
 cases h with
 |eptrE b c=>exact⟨b,c,rfl,by simpa using .eptrE b (c+d)⟩
 | eptr i b c n vals hg hn hc hv =>
  refine⟨b,c,rfl,.eptr _ b (c+d) n (λk=>vals (d+k)) hg (by simp;omega) (λk p e=>?_) (λk p e=>?_)⟩;.rw[vbn]at e;have:=hc _ _ e;rwa[<-vcC]at this
  .rw[vbn]at e;exact hv _ _ e
def qcg{s:G}{f:Nat}{x p:PVal}{y:D}(t:VR Γ bs w x y)(h:lR P s x f=O p):∃v,(Instr.fieldAt s y f).run P w=.ok v w/\VR Γ bs w p v:=by
 unfold lR at h;split at h
 .rename_i F r;split at h
  .rename_i o q;split at h;.cases h
   .rename_i e;have c:∃i,P.info? o.type=O i:=by cases d:P.info? o.type with|some i=>exact⟨i,rfl⟩|none=>simp[Program.cellsOf,d]at e
    let⟨i,d⟩:=c;split at h
    .split at h;.rename_i B z;cases h;obtain⟨b,n,rfl,A⟩:=t.eptr_drop z;refine⟨_,?_,A⟩;simp[Instr.fieldAt,run_underlying r,q,Instr.sureAddr,fieldPlace,run_sizeOf w d,e,Addr.add_lit]
     .cases h
    .cases h;cases t with|bptr i' n b hb=>refine⟨_,?_,.bptr _ _ _ hb⟩;simp[Instr.fieldAt,run_underlying r,q,Instr.sureAddr,fieldPlace,run_sizeOf w d,e,Addr.add_lit]
    .cases h
  .cases h
 .cases h
def qci{t:G}{x ix p:PVal}{vx vi:D}(L:VR Γ bs w x vx)(H:VR Γ bs w ix vi)(h:n9 P t x ix=O p):∃v,(Instr.indexAt t vx vi).run P w=.ok v w/\VR Γ bs w p v:=by
 unfold n9 at h;split at h
 .rename_i e R k i s;cases H;split at h
  .rename_i q;split at h
   .rename_i el o;split at h
    .rename_i A;let⟨a0,c⟩:=A;let⟨y,c⟩:=vaO.1 c;cases h;have r:=ax o;cases L with
     |sliceNil=>simp at r
     |sliceE a cap=>simp at r
     | slice R b d cap n sz vals hz0 hcap hg hn hsz hc hv =>
      have hs:=hsz _ _ o;have F:sz=P.cellsOf e:=by omega
      have S:i<(R.length:Int):=by omega
      refine⟨.pointer (O ⟨b,d+i.toNat * sz,N⟩),?_,.eptr el b _ n (λk=>vals i.toNat k) hg ?_ (λk p X=>hc _ _ _ _ o X) (λk p X=>hv _ _ _ _ o X)⟩;.simp[Instr.indexAt,run_underlying s,asIntOf,run_sizeOf w c,q,S,Addr.add_lit,F]
      .have h2:(i.toNat+1) * sz<=R.length * sz:=vbm sz r;rw[vbr,vb8]at h2;omega
    .cases h
   .cases h
  .cases h
 .rename_i e bx d n k i s;cases H;split at h
  .rename_i B;let⟨q,z,c⟩:=B;let⟨y,c⟩:=vaO.1 c;cases h;cases L with
   | bsl _ _ _ x cap hcap hnil hxb =>
    rcases hxb with rfl|⟨b,rfl,hb⟩;.exact absurd z (by omega)
    .refine⟨_,?_,.bptr _ _ _ hb⟩;simp[Instr.indexAt,run_underlying s,asIntOf,run_sizeOf w c,q,z,Addr.add_lit]
  .cases h
 .rename_i n e cs k i s;cases H;split at h;.rename_i B;let⟨q,z,c,hd⟩:=B;let⟨y,c⟩:=vaO.1 c;cases h;obtain⟨b,d,rfl,hv⟩:=L.eptr_drop hd;refine⟨_,?_,hv⟩;simp[Instr.indexAt,run_underlying s,asIntOf,Instr.sureAddr,run_sizeOf w c,q,z,Addr.add_lit]
  .cases h
 .rename_i n e bx d k i s;cases H;split at h;.rename_i B;let⟨q,z,c⟩:=B;let⟨y,c⟩:=vaO.1 c;cases h;cases L with|bptr i' d b hb=>refine⟨_,?_,.bptr _ _ _ hb⟩;simp[Instr.indexAt,run_underlying s,asIntOf,Instr.sureAddr,run_sizeOf w c,q,z,Addr.add_lit]
  .cases h
 .cases h
end
section
variable{P:I}{E:BP}{Γ:ca}{bs:cF}{m:Nat->Q rI}{w:J}{a:Array D}{st:aF}
def qiz{t:G}{r:V PVal}{vs:Array D}{off:Nat}{p:PVal}(L:vs.size=r.length)
  (B:∀(i:Nat) q v,r[i]? =O q->vs[i]? =O v->VR Γ bs w q v) (h:co P t (r.drop off)=O p):
  ∃v,(part t vs off).run P w=.ok v w/\VR Γ bs w p v:=by
 have b:∀{d},P.underlying t=O d->(match d with|.struct _|.array _ _=>True|_=>False)->P.cellsOf t<=(r.drop off).length->
   ∃v,(part t vs off).run P w=.ok v w/\VR Γ bs w (.agg ((r.drop off).take (P.cellsOf t))) v:=by
  intro d c R x
  let⟨i,F⟩:=FA c
  refine⟨.agg (vs.extract off (off+P.cellsOf t)),?_,.agg _ _ ?_ λk q u A s=>?_⟩
  .cases d<;>simp at R<;>simp[part,isAgg,run_underlying c,run_sizeOf w F]
  .simp at x ⊢;omega
  .have H:k<P.cellsOf t:=by have:=ax A;simp at this;omega
   rw[vaG H,vbn]at A
   have o:k<off+P.cellsOf t - off:=by omega
   rw[Array.getElem?_extract]at s
   split at s
   .exact B _ _ _ A s
   .cases s
 unfold co at h
 split at h
 .rename_i S c
  split at h
  .cases h;exact b c md ‹_›
  .cases h
 .rename_i n e c
  split at h
  .cases h;exact b c md ‹_›
  .cases h
 .rename_i d z y c
  rw[List.head?_drop]at h
  have o:off<vs.size:=by rw[L];exact ax h
  refine⟨vs[off],?_,B off _ _ h (by simp[o])⟩
  cases d<;>simp at z y<;>simp[part,isAgg,run_underlying c,o]
 .cases h
def qjS{t:G}{f:Nat}{x p:PVal}{b:D}(o:VR Γ bs w x b)(h:qgI P t x f=O p):∃v,(Instr.field t b f).run P w=.ok v w/\VR Γ bs w p v:=by
 unfold qgI at h;split at h
 .rename_i r c n;split at h;.rename_i q d;cases o with|agg c vs hl hv=>let⟨v,i,e⟩:=qiz hl hv h;exact⟨v,by simp[Instr.field,run_underlying n,d,asAgg,i],e⟩
  .cases h
 .cases h
def qjT{t:G}{x F p:PVal}{L H:D}(B:VR Γ bs w x L)(A:VR Γ bs w F H)(h:L3 P t x F=O p):∃v,(Instr.index t L H).run P w=.ok v w/\VR Γ bs w p v:=by
 unfold L3 at h;split at h
 .rename_i n e R k i z;cases A;split at h;.rename_i X;let⟨r,S,b⟩:=X;let⟨a0,b⟩:=vaO.1 b;cases B with|agg R vs hl hv=>let⟨v,hr,hp⟩:=qiz hl hv h;exact⟨v,by simp[Instr.index,run_underlying z,asIntOf,r,S,run_sizeOf w b,hr],hp⟩
  .cases h
 .rename_i s k i z;cases A;cases B;split at h
  .rename_i r;simp only[vaF]at h;obtain⟨c,y,rfl⟩:=h;have o:=ax y;have q:i.toNat<(ByteArray.mk s.toArray).size:=by show i.toNat<s.toArray.size;simpa using o
   have d:(ByteArray.mk s.toArray)[i.toNat]? =O c:=by rw[getElem?_pos (ByteArray.mk s.toArray) i.toNat q];congr 1;show s.toArray[i.toNat]=c;rw[m6 o]at y;simpa using y
   exact⟨_,by simp[Instr.index,run_underlying z,asIntOf,r,d],.int _ _⟩
  .cases h
 .cases h
def Vw{x p:PVal}{c:D}{i:Nat}(d:VR Γ bs w x c)(h:FK x i=O p):∃v,(Instr.extract c i).run P w=.ok v w/\VR Γ bs w p v:=by
 unfold FK at h;split at h
 .cases d with
  |tuple cs vs hl hv=>
   have b:i<vs.size:=by rw[hl];exact ax h
   exact⟨vs[i],by simp[Instr.extract,b],hv i _ _ h (by simp[b])⟩
 .cases h
def xS{k:IntKind}{i:Int}{y:Nat}(b:BoundsCode)(c:0<=i)(d:i.toNat<=y):(Instr.sliceBound (.int k i) y b).run P w=.ok i.toNat w:=by
 have:i<=(y:Int):=by omega
 simp[Instr.sliceBound,asIntOf,c,this]
def qco{x:Q PVal}{b:Q D}{d n:Nat}(h:Zp x d=O n)(r:∀p,x=O p->∃v,b=O v/\VR Γ bs w p v)(e:x=N->b=N):(b=N/\n=d)\/∃k i,b=O (.int k i)/\0<=i/\n=i.toNat:=by cases x with|none=>simp[Zp]at h;exact .inl ⟨e rfl,h.symm⟩|some p=>obtain⟨v,rfl,c⟩:=r p rfl;cases p<;>simp[Zp]at h;cases c;exact .inr ⟨_,_,rfl,h.1,h.2.symm⟩
def oS{isSlice:K}{len cap:Nat}{lo q:Q PVal}{c b:Q D}{l h:Nat}(r:Zp lo 0=O l)(o:Zp q len=O h)
  (y:∀p,lo=O p->∃v,c=O v/\VR Γ bs w p v) (t:lo=N->c=N) (x:∀p,q=O p->∃v,b=O v/\VR Γ bs w p v) (s:q=N->b=N)
  (n:l<=h) (e:h<=len) (d:len<=cap):(Instr.sliceBounds isSlice len cap c b N).run P w=.ok (l,h,cap) w:=by
 rcases qco o x s with⟨rfl,rfl⟩|⟨k,i,rfl,h0,rfl⟩<;>rcases qco r y t with⟨rfl,rfl⟩|⟨k',i',rfl,h0',rfl⟩
 .simp[Instr.sliceBounds]
 .simp[Instr.sliceBounds,xS _ h0' n]
 .simp[Instr.sliceBounds,xS _ h0 (n3 e d)]
 .simp[Instr.sliceBounds,xS _ h0 (n3 e d),xS _ h0' n]
def qjW{t:G}{x p:PVal}{lo hi:Q PVal}{vx:D}{vlo vhi:Q D}(A:VR Γ bs w x vx)
  (a0:∀p,lo=O p->∃v,vlo=O v/\VR Γ bs w p v) (R:lo=N->vlo=N) (X:∀p,hi=O p->∃v,vhi=O v/\VR Γ bs w p v) (L:hi=N->vhi=N)
  (h:QD P t x lo hi N=O p):
  ∃v,(Instr.sliceAt t vx vlo vhi N).run P w=.ok v w/\VR Γ bs w p v:=by
 unfold QD at h
 split at h
 .rename_i s ht _
  cases A
  split at h
  .rename_i l hh hl z
   split at h
   .rename_i r
    cases h
    have r:=oS (P:=P) (isSlice:=Z) (cap:=s.length) hl z a0 R X L r.1 r.2 (m7 _)
    refine⟨.string ⟨((s.take hh).drop l).toArray⟩,?_,.str _⟩
    have a2:(ByteArray.mk s.toArray).size=s.length:=by show s.toArray.size=_;simp
    have a7:(ByteArray.mk s.toArray).extract l hh=ByteArray.mk ((s.take hh).drop l).toArray:=by apply ByteArray.ext;apply vbQ;simp;rw[List.drop_take]
    simp[Instr.sliceAt,Instr.slice,run_underlying ht,a2,r,a7]
   .cases h
  .cases h
 .rename_i e es ht _
  split at h
  .rename_i l hh hl z
   split at h
   .rename_i r
    let⟨o,d,c,a6⟩:=r
    let⟨a9,c⟩:=vaO.1 c
    cases h
    cases A with
    |sliceNil=>
     have r:=oS (P:=P) (isSlice:=T) (cap:=0) hl z a0 R X L o d (m7 _)
     simp at d;subst d
     simp at o;subst o
     refine⟨.slice N 0 0,?_,.sliceNil⟩
     have B:(Instr.sliceBounds T 0 0 vlo vhi N).run P w=.ok (0,0,0) w:=r
     simp[Instr.sliceAt,Instr.slice,run_underlying ht,B,run_sizeOf w c]
    |sliceE a cap=>
     have r:=oS (P:=P) (isSlice:=T) (cap:=cap) hl z a0 R X L o d (w0 _)
     simp at d;subst d
     simp at o;subst o
     refine⟨.slice (O a) 0 cap,?_,.sliceE a cap⟩
     have B:(Instr.sliceBounds T 0 cap vlo vhi N).run P w=.ok (0,0,cap) w:=r
     simp[Instr.sliceAt,Instr.slice,run_underlying ht,B,run_sizeOf w c,Addr.add]
    | slice es b S cap n sz vals hz0 hcap hg hn a2 hc hv =>
     have r:=oS (P:=P) (isSlice:=T) (cap:=cap) hl z a0 R X L o d hcap
     have a3:((es.take hh).drop l).length=hh - l:=by simp;omega
     have H:∀{i:Nat}{x:List PVal},((es.take hh).drop l)[i]? =O x->es[l+i]? =O x:=by
      intro i x A;rw[vbn]at A;have:l+i<hh:=by have:=ax A;simp at this;omega
      rwa[vaG this]at A
     have a5:es≠[]->sz=P.cellsOf e:=by intro a1;cases es with|nil=>exact absurd rfl a1|cons y ys=>rw[<-a6 y (by simp)];exact(a2 0 y rfl).symm
     have a4:VR Γ bs w (.slice ((es.take hh).drop l)) (.slice (O ⟨b,if cap=l then S else S+l * sz,N⟩) (hh - l) (cap - l)):=by
      rw[<-a3];have ab:l * sz+(hh - l) * sz=hh * sz:=by rw[<-vbr];congr 1;omega
      have a8:hh * sz<=es.length * sz:=vbm sz d;by_cases F:cap=l
      .have h0:(es.take hh).drop l=[]:=by apply vaw;omega
       rw[h0,hU F];exact .slice [] b S (cap - l) n sz vals hz0 (by simp) hg (by simp;omega) (by simp) (by simp) (by simp)
      .rw[hG F];refine .slice _ b (S+l * sz) (cap - l) n sz (λi k=>vals (l+i) k) hz0 (by omega) hg (by rw[a3];omega) (λi x A=>a2 _ _ (H A)) (λi x k q A hq=>?_) (λi x k q A hq=>hv _ _ _ _ (H A) hq);have:=hc _ _ _ _ (H A) hq;rw[vbr]at this;rw[<-this];congr 2;omega
     refine⟨_,?_,a4⟩
     by_cases a1:es=[]
     .subst a1
      simp at d;subst d
      simp at o;subst o
      have B:(Instr.sliceBounds T 0 cap vlo vhi N).run P w=.ok (0,0,cap) w:=r
      simp[Instr.sliceAt,Instr.slice,run_underlying ht,B,run_sizeOf w c,Addr.add_lit]
     .have:=a5 a1;subst this
      simp[Instr.sliceAt,Instr.slice,run_underlying ht,r,run_sizeOf w c,Addr.add_lit]
      split<;>simp
   .cases h
  .cases h
 .rename_i e bx S n ht _
  split at h
  .rename_i l hh hl z
   split at h
   .rename_i r
    let⟨o,d,c⟩:=r
    let⟨a9,c⟩:=vaO.1 c
    cases h
    cases A with
    | bsl _ _ _ x cap hcap hnil hxb =>
     have r:=oS (P:=P) (isSlice:=T) (cap:=cap) hl z a0 R X L o d hcap
     cases x with
     | none =>
      rcases hxb with rfl|⟨b,hb1,_⟩
      .obtain rfl:hh=0:=by omega
       obtain rfl:l=0:=by omega
       refine⟨.slice N 0 cap,?_,.bsl _ _ _ _ _ (w0 _) hnil (.inl rfl)⟩
       simp[Instr.sliceAt,Instr.slice,run_underlying ht,r,run_sizeOf w c]
      .cases hb1
     | some ad =>
      by_cases F:cap=l
      .subst F
       refine⟨.slice (O ad) (hh - cap) (cap - cap),?_,.bsl _ _ _ _ _ (by omega) (λh=>by cases h) (.inl (by omega))⟩
       simp[Instr.sliceAt,Instr.slice,run_underlying ht,r,run_sizeOf w c]
      .refine⟨.slice (O (ad.add (l * P.cellsOf e))) (hh - l) (cap - l),?_,.bsl _ _ _ _ _ (by omega) (λh=>by cases h) ?_⟩
       .simp[Instr.sliceAt,Instr.slice,run_underlying ht,r,run_sizeOf w c,F]
       .rcases hxb with rfl|⟨b,hb1,hb2⟩
        .exact .inl (by omega)
        .cases hb1
         exact .inr ⟨b,by rw[Addr.add_lit],hb2⟩
   .cases h
  .cases h
 .cases h
end
def qU(P:I)(t:G)(x:PVal)(H:List aJ):Q PVal:=match x with
 |.eptr cs=>co P t cs
 |.bptr i off=>match H[i]? with|some (.cells cs _)=>co P t (cs.drop off)|_=>N
 |_=>N
def gB(P:I)(t:G)(x v:PVal)(H:List aJ):Q (List aJ):=match x,bH v with
 | .bptr i off,O vs => match H[i]? with| some (.cells cs own) =>if vs.length=P.cellsOf t/\(P.info? t).isSome/\off+vs.length<=cs.length/\vs.all PVal.one then O (H.set i (.cells (cs.take off++vs++cs.drop (off+vs.length)) (own.filter λy=>y.1<off||off+vs.length<=y.1))) else N|_=>N
 |_,_=>N
def ft(P:I)(t:G):Q (V PVal):=((P.info? t).bind (·.zero)).map λz=>z.cells.toList.map absC
def zC:D->K|.slice N 0 0=>T|_=>Z
def Yt(P:I)(t:G):List (Nat×G):=match(P.info? t).bind (·.zero),P.cellTypes P.depth t with
 | some z,O ts => (List.range z.cells.size).filterMap fun j =>match z.cells[j]?,(ts[j]?).bind P.underlying with|some v,O (.slice e)=>if zC v then O (j,e)else N|_,_=>N
 |_,_=>[]
section
variable{P:I}{E:BP}{Γ:ca}{bs:cF}{d:Nat->Q rI}{w:J}{a:Array D}{st:aF}
def SR.box_cells(h:SR P E Γ bs d w a st){i b:Nat}{e:V PVal}{own:V (Nat×G)}(r:bs[i]? =O (O b))(q:st.boxes[i]? =O (.cells e own)):∃c t,w.heap[b]? =O (.cells c t (0,0))/\e.length<=c.size/\(∀(j:Nat) p v,e[j]? =O p->c[j]? =O v->VR Γ bs w p v)/\∀j,w.cell? ⟨b,j,N⟩=c[j]?:=by let⟨_,_,c,t,m,n,o,_⟩:=h.bx i b _ r q;exact⟨c,t,m,n,o,λj=>cell_of_row w b j c t _ m⟩
def SR.box_self(h:SR P E Γ bs d w a st){i b:Nat}{e:V PVal}{own:V (Nat×G)}(q:bs[i]? =O (O b))(o:st.boxes[i]? =O (.cells e own)){c:Array D}{t:G}{fr:Nat×Nat}(p:w.heap[b]? =O (.cells c t fr)):TQ e t c.size:=by let⟨_,_,r,s,m,_,_,n⟩:=h.bx i b _ q o;rw[p]at m;cases m;exact n
def Xt(h:SR P E Γ bs d w a st){t:G}{x p:PVal}{F:D}(B:VR Γ bs w x F)(m:qU P t x st.boxes=O p):∃v,(Instr.loadAt t F).run P w=.ok v w/\VR Γ bs w p v:=by
 unfold qU at m;split at m;.cases B with|eptrE b off=>let⟨v,s,e⟩:=rD (w:=w) (Γ:=Γ) (bs:=bs) (b:=b) (off:=off) (vals:=λ_=>undef) m (by simp) (by simp);exact⟨v,by simp[Instr.loadAt,Instr.sureAddr,s],e⟩|eptr A b off n vals hg hn y hv=>let⟨v,s,e⟩:=rD m y hv;exact⟨v,by simp[Instr.loadAt,Instr.sureAddr,s],e⟩
 .rename_i i off;split at m
  .rename_i A own S;cases B with
   | bptr i off b hi =>
    let⟨c,t',X,H,L,R⟩:=h.box_cells hi S;have o:∀(k:Nat) q,(A.drop off)[k]? =O q->w.cell? ⟨b,off+k,N⟩=O (c.getD (off+k) undef)/\VR Γ bs w q (c.getD (off+k) undef):=by
     intro k q r;rw[vbn]at r;have z:off+k<c.size:=vaT (ax r) H;have y:c[off+k]? =O (c.getD (off+k) undef):=by simp[vaE,z]
     exact⟨(R _).trans y,L _ _ _ r y⟩
    let⟨v,s,e⟩:=rD m (vals:=λk=>c.getD (off+k) undef) (λk q r=>(o k q r).1) (λk q r=>(o k q r).2);exact⟨v,by simp[Instr.loadAt,Instr.sureAddr,s],e⟩
  .cases m
 .cases m
def lW{α:Type}{cs vs:V α}{off:Nat}(h:off+vs.length<=cs.length)(j:Nat):(cs.take off++vs++cs.drop (off+vs.length))[j]? =if j<off then cs[j]? else if j<off+vs.length then vs[j - off]? else cs[j]?:=by
 have b:(cs.take off).length=off:=by simp;omega
 by_cases c:j<off;.rw[vbi,B2 (by omega),vaG c,hU c]
 .rw[hG c];by_cases e:j<off+vs.length;.rw[hU e,B2 (by simp;omega),vav (by omega),b]
  .rw[hG e,vav (by simp;omega),vbn];congr 1;simp;omega
def QH(w:J)(g:Nat)(b c:Array D)(t:G)(fr:Nat×Nat)(h:w.heap[g]? =O (.cells b t fr)):(w.setRow g c).heap[g]? =O (.cells c t fr):=setRow_heap w g b c t fr h
def TQ.splice{cs c:V PVal}{t:G}{n off:Nat}(h:TQ cs t n)(q:∀v∈c,v.one=T)(o:off+c.length<=cs.length):TQ (cs.take off++c++cs.drop (off+c.length)) t n:=by
 intro j i r b;have p:(cs.take off++c++cs.drop (off+c.length)).length=cs.length:=by simp only[m3,vbg,vbE];omega
 rw[p];rw[lW o]at b;by_cases e:j<off;.rw[hU e]at b;exact h j i r b
 .rw[hG e]at b;by_cases m:j<off+c.length;.rw[hU m]at b;have:=q _ (vaK b);cases this
  .rw[hG m]at b;exact h j i r b
def Ys(h:SR P E Γ bs d w a st){t:G}{x v:PVal}{vx vv:D}{H:List aJ}(hx:VR Γ bs w x vx)(hv:VR Γ bs w v vv)(z:gB P t x v st.boxes=O H):∃w',(Instr.storeAt t vx vv).run P w=.ok () w'/\SR P E Γ bs d w' a {st with boxes:=H}/\Γ.Le w Γ w'/\
   ∀i off b,x=.bptr i off->bs[i]? =O (O b)->(∀(j:Nat) u,vv.cells[j]? =O u->w'.cell? ⟨b,off+j,N⟩=O u)/\∀y,y≠b->w'.heap[y]? =w.heap[y]?:=by
 unfold gB at z
 split at z
 .rename_i i off vs ab
  split at z
  .rename_i cs own X
   split at z
   .rename_i hc
    let⟨h1,F,h2,h3⟩:=hc
    let⟨b0,F⟩:=vaO.1 F
    cases z
    cases hx with
    | bptr i off b hi =>
     let⟨c,t',e1,e2,e3,e4⟩:=h.box_cells hi X
     let⟨k1,k2⟩:=hv.cells ab
     have a3:∀u∈vv.cells.toList,u.oneCell'=true:=by
      intro u hu;let⟨j,R⟩:=vbc.1 hu;have a1:vv.cells[j]? =O u:=by simpa using R
      have a2:j<vs.length:=by rw[<-k1];exact(vao.1 a1).1
      exact VR.one (k2 j _ u (m6 a2) a1) (oR.1 h3 _ (m4 a2))
     have a4:=run_storeCells_at P b off t' vv.cells.toList 0 c w e1 (by simp;omega) a3
     simp only[Nat.add_zero,Array.length_toList]at a4
     have a9:vv.cells.size=P.cellsOf t:=by omega
     refine⟨w.setRow b (c.toList.take off++vv.cells.toList++c.toList.drop (off+vv.cells.size)).toArray,?_,?_,?_,?_⟩
     .simp[Instr.storeAt,Instr.sureAddr,storeVar,run_sizeOf w F,a9,a4]
     .have s:=QH w b c (c.toList.take off++vv.cells.toList++c.toList.drop (off+vv.cells.size)).toArray t' (0,0) e1
      refine h.box_write hi rfl rfl rfl (by simp) (λy r=>setRow_other w b y _ r) ?_ (λy L hL _=>hL) h.on ?_
      .refine⟨_,t',s,?_,λj p u z hu=>?_,?_⟩
       .simp only[vbX,m3,vbg,vbE,Array.length_toList];omega
       .have A:(c.toList.take off++vv.cells.toList++c.toList.drop (off+vv.cells.toList.length))[j]? =O u:=by simpa using hu
        rw[lW h2]at z
        rw[lW (by simp;omega)]at A
        have B:∀{q u},VR Γ bs w q u->VR Γ bs (w.setRow b (c.toList.take off++vv.cells.toList++c.toList.drop (off+vv.cells.size)).toArray) q u:=λhq=>
         hq.mono (λy m r _=>⟨m,r,m7 _,λo _=>dQ (setRow_other w b y _ (λe=>by subst e;have:=(h.bx i y _ hi X).1;rw[this]at r;cases r)) o⟩) (.refl _)
        by_cases R:j<off
        .rw[hU R]at z A
         exact B (e3 j p u z (by simpa using A))
        .rw[hG R]at z A
         by_cases S:j<off+vs.length
         .rw[hU S]at z
          rw[hU (by simp;omega)]at A
          exact B (k2 _ p u z (by simpa using A))
         .rw[hG S]at z
          rw[hG (by simp;omega)]at A
          exact B (e3 j p u z (by simpa using A))
       .have a7:=(h.box_self hi X e1).splice (off:=off) (λv hv=>oR.1 h3 v hv) h2
        have a8:(c.toList.take off++vv.cells.toList++c.toList.drop (off+vv.cells.size)).toArray.size=c.size:=by simp only[vbX,m3,vbg,vbE,Array.length_toList];omega
        rw[a8];exact a7
      .intro ar ao a6 j e R
       cases a6
       let⟨R,S⟩:=cK R
       simp only[va5,nm]at S
       let⟨v',r1,r2,r3⟩:=h.ob i j e cs own b X R hi
       refine⟨v',?_,r2.same λy r=>⟨setRow_other w b y _ (λe=>?_),rfl⟩,r3⟩
       .rw[cell_of_row _ b j _ t' _ s]
        have:=lW (cs:=c.toList) (vs:=vv.cells.toList) (off:=off) (by simp;omega) j
        simp only[Array.length_toList]at this
        simp only[vbU]
        rw[this]
        rw[e4]at r1
        split
        .simpa using r1
        .rw[hG (by omega)];simpa using r1
       .subst e
        let⟨n,xs,o1,o2⟩:=r2
        have:=(h.bx i y _ hi X).1
        rw[o2 y r]at this;cases this
     .exact λy m r _=>⟨m,r,m7 _,λo _=>dQ (setRow_other w b y _ (λe=>by subst e;have:=(h.bx i y _ hi X).1;rw[this]at r;cases r)) o⟩
     .intro i2 an b2 ad a0
      cases ad
      have a5:b2=b:=by rw[hi]at a0;cases a0;rfl
      subst a5
      have s:=QH w b2 c (c.toList.take off++vv.cells.toList++c.toList.drop (off+vv.cells.size)).toArray t' (0,0) e1
      refine⟨λj u hu=>?_,λy r=>setRow_other w b2 y _ r⟩
      have R:j<vv.cells.size:=(vao.1 hu).1
      rw[cell_of_row _ b2 (off+j) _ t' _ s]
      have:=lW (cs:=c.toList) (vs:=vv.cells.toList) (off:=off) (by simp;omega) (off+j)
      simp only[Array.length_toList]at this
      simp only[vbU]
      rw[this,hG (by omega),hU (by omega),show off+j - off=j by omega]
      simpa using hu
   .cases z
  .cases z
 .cases z
def qcx(h:SR P E Γ bs d w a st){t:G}{x v:PVal}{c b:D}{H:V aJ}(m:VR Γ bs w x c)(i:VR Γ bs w v b)(e:gB P t x v st.boxes=O H):∃w',(Instr.storeAt t c b).run P w=.ok () w'/\SR P E Γ bs d w' a {st with boxes:=H}/\Γ.Le w Γ w':=by let⟨w',n,o,p,_⟩:=Ys h m i e;exact⟨w',n,o,p⟩
end
def qch(a:Nat->Q (Nat×Nat))(cells:List PVal):List (Nat×PVal)->Q (List PVal)|[]=>O cells|(i,v)::rest=>match a i,bH v with|some (off,size),O vs=>if vs.length=size/\off+vs.length<=cells.length then qch a (cells.take off++vs++cells.drop (off+vs.length)) rest else N|_,_=>N
def df(P:I)(t:G)(a:List (Nat×PVal)):Q PVal:=match P.underlying t,ft P t with|some (.struct fs),O zs=>if fs.all (λf=>(P.info? f.type).isSome)then(qch (λi=>(fs[i]?).map λf=>(f.offset,P.cellsOf f.type)) zs a).map .agg else N|some (.array _ e),O zs=>if(P.info? e).isSome then(qch (λi=>O (i * P.cellsOf e,P.cellsOf e)) zs a).map .agg else N|_,_=>N
def Qo(sz:Nat):Nat->List (Nat×PVal)->Q (List (List PVal))|_,[]=>O []|k,(i,v)::rest=>match bH v,Qo sz (k+1) rest with|some a,O r=>if i=k/\a.length=sz then O (a::r)else N|_,_=>N
def gV(P:I)(t:G)(len:Nat)(a:List (Nat×PVal)):Q PVal:=match P.underlying t with
 |some (.slice e)=>match Qo (P.cellsOf e) 0 a with|some es=>if es.length=len/\(ft P e).isSome/\0<P.cellsOf e/\len * P.cellsOf e<=16777216/\((ft P e).map (·.length))=O (P.cellsOf e)then O (.slice es)else N|none=>N
 |_=>N
def TG(P:I)(t:G)(x:PVal)(H:List aJ):Q PVal:=match P.underlying t,x with
 |some .string,.str s=>O (.int .i64 s.length)
 |some (.slice _),.slice es=>O (.int .i64 es.length)
 |some (.slice _),.bsl _ _ n=>O (.int .i64 n)
 |some (.array n _),_=>O (.int .i64 n)
 |some (.map _ _),.mapr i=>match H[i]? with|some (.map es)=>O (.int .i64 es.length)|_=>N
 |_,_=>N
def qlb:PVal->PVal->Q PVal|.int k x,.int _ y=>O (.int k (if y>x then y else x))|_,_=>N
def qlc:PVal->PVal->Q PVal|.int k x,.int _ y=>O (.int k (if y<x then y else x))|_,_=>N
def Yo(f:PVal->PVal->Q PVal):PVal->List PVal->Q PVal|x,[]=>O x|x,y::r=>match f x y with|some z=>Yo f z r|none=>N
section
variable{P:I}{E:BP}{Γ:ca}{bs:cF}{d:Nat->Q rI}{w:J}{a:Array D}{st:aF}
def wk{t:G}{e:V PVal}(h:ft P t=O e):∃z,(zeroValue t).run P w=.ok z w/\e=z.cells.toList.map absC/\(∃i,P.info? t=O i/\i.zero=O z):=by unfold ft at h;simp only[vaF,vbe]at h;obtain⟨z,⟨i,b,c⟩,rfl⟩:=h;exact⟨z,by simp[zeroValue,run_typeInfo w b,c],rfl,i,b,c⟩
def qg7{z:D}(j:Nat)(p:PVal)(v:D)(b:(z.cells.toList.map absC)[j]? =O p)(c:z.cells[j]? =O v):VR Γ bs w p v:=by simp only[t8,vbb,c,oo,q8]at b;subst b;exact .absC v
def qnq(v:D)(i:Nat)(T:G):absC v≠.nptr i T:=by unfold absC;split<;>simp
def qna(z:D)(t:G):TQ (z.cells.toList.map absC) t z.cells.size:=by intro j i e b;rw[t8]at b;let⟨v,_,c⟩:=vaF.1 b;exact absurd c (qnq v i e)
def qCC:PVal->K|.nptr _ _=>T|_=>Z
def Zo(l:V PVal):K:=l.all λp=>!qCC p
def qoF{l:V PVal}(h:Zo l=T)(j i:Nat)(c:G):l[j]? ≠O (.nptr i c):=λb=>by have:=oR.1 h _ (vaK b);cases this
def qml{l:V PVal}(h:Zo l=T)(t:G)(n:Nat):TQ l t n:=λj i c b=>absurd b (qoF h j i c)
def Rf(p:PVal):Q (V PVal):=(bH p).bind λb=>if Zo b then O b else N
def qjR{p:PVal}{b:V PVal}(h:Rf p=O b):bH p=O b/\Zo b=true:=by
 unfold Rf at h;let⟨l,e,c⟩:=vbe.1 h;split at c;.cases c;exact⟨e,by assumption⟩
 .cases c
def qcb{p:PVal}{cs:V PVal}(h:bH p=O cs)(b:Zo cs=T):Rf p=O cs:=by unfold Rf;rw[h,hN,hU b]
def qb6(h:SR P E Γ bs d w a st){t:G}{id:Nat}{B:V PVal}(n:bs[id]? =O N)(A:ft P t=O B):∃v w',(Instr.alloc t T (.tuple #[])).run P w=.ok v w'/\SR P E Γ (bs.set id (O w.heap.size)) d w' a {st with boxes:=st.boxes.set id (.cells B (Yt P t))}/\
   VR Γ (bs.set id (O w.heap.size)) w' (.bptr id 0) v/\bs.Sub (bs.set id (O w.heap.size))/\Γ.Le w Γ w':=by
 obtain⟨z,X,rfl,i,L,A⟩:=wk (w:=w) A
 refine⟨.pointer (O ⟨w.heap.size,0,N⟩),w.alloc (.cells z.cells t),?_,?_,.bptr _ _ _ (o6 (ax n)),λi b o=>VY n o,
  λb m o _=>⟨m,o,m7 _,λo' _=>dQ (alloc_old w _ (h.lt_of_ghost o)) o'⟩⟩
 .simp[Instr.alloc,X,newVar,newRow]
 .refine h.alloc_box n _ _ (λF _=>⟨z.cells,t,jl w _,by simp,λj p v S hv=>qg7 j p v S hv,qna z t⟩) λcs own s j e q=>?_
  cases s
  unfold Yt at q
  split at q
  .rename_i z' ts r a0
   have:z'=z:=by simp[L,A]at r;exact r.symm
   subst this
   simp only[vb3,vbG]at q
   let⟨j',R,c⟩:=q
   split at c
   .rename_i v' e' y H
    split at c
    .rename_i x
     cases c
     have:v'=.slice N 0 0:=by
      unfold zC at x;split at x;.rfl
      .cases x
     subst this
     refine⟨_,?_,rfl,0,[],World.ownsRow_nil _ _ _ _,λb o=>by simp[Value.ownBlock]at o⟩
     rw[cell_of_row _ _ _ _ t _ (jl w _)]
     exact y
    .cases c
   .cases c
  .cases q
def qiA(h:SR P E Γ bs d w a st){t:G}{id:Nat}{x:PVal}{r:D}{cs:V PVal}(c:bs[id]? =O N)(S:VR Γ bs w x r)(s:Rf x=O cs):∃v w',(Instr.box t r).run P w=.ok v w'/\SR P E Γ (bs.set id (O w.heap.size)) d w' a {st with boxes:=st.boxes.set id (.cells cs [])}/\
   VR Γ (bs.set id (O w.heap.size)) w' (.bptr id 0) v/\bs.Sub (bs.set id (O w.heap.size))/\Γ.Le w Γ w':=by
 let⟨A,F⟩:=qjR s
 let⟨X,k2⟩:=S.cells A
 have n:∀o,Γ.Le w Γ (w.alloc o):=λo b m q _=>⟨m,q,m7 _,λo' _=>dQ (alloc_old w _ (h.lt_of_ghost q)) o'⟩
 refine⟨.pointer (O ⟨w.heap.size,0,N⟩),w.alloc (.cells r.cells t),?_,?_,.bptr _ _ _ (o6 (ax c)),λi b q=>VY c q,n _⟩
 .simp[Instr.box,newVar,newRow]
 .exact h.alloc_box c _ _ (λz L=>⟨r.cells,t,jl w _,Nat.le_of_eq X.symm,λj p v H R=>(k2 j p v H R).mono (n _) L,qml F _ _⟩) λcs own y j e B=>by cases y;simp at B
def qgK(h:SR P E Γ bs d w a st){t:G}{id:Nat}(c:bs[id]? =O N):∃v w',(Instr.makeMap t N).run P w=.ok v w'/\SR P E Γ (bs.set id (O w.heap.size)) d w' a {st with boxes:=st.boxes.set id (.map [])}/\
   VR Γ (bs.set id (O w.heap.size)) w' (.mapr id) v/\bs.Sub (bs.set id (O w.heap.size))/\Γ.Le w Γ w':=by
 have p:∀o,Γ.Le w Γ (w.alloc o):=λo b m e _=>⟨m,e,m7 _,λs _=>dQ (alloc_old w _ (h.lt_of_ghost e)) s⟩
 refine⟨.map (O w.heap.size),w.alloc (.map #[] 0),?_,?_,.mapr _ _ (o6 (ax c)),λi b e=>VY c e,p _⟩
 .simp[Instr.makeMap]
 .exact h.alloc_box c _ _ (λq z=>⟨#[],0,jl w _,rfl,λj k u x r _=>by simp at r,by simp,by simp⟩) λy own n=>by cases n
def Ri{n place':Nat->Q (Nat×Nat)}(y:∀i x,n i=O x->place' i=O x):∀(b:List (Nat×PVal))(vs:List (Nat×D))(cells:List PVal)(cv:Array D){m:List PVal},
  b.length=vs.length->(∀(j:Nat) p v,b[j]? =O p->vs[j]? =O v->p.1=v.1/\VR Γ bs w p.2 v.2)->
  cv.size=cells.length->(∀(j:Nat) p v,cells[j]? =O p->cv[j]? =O v->VR Γ bs w p v)->qch n cells b=O m->
  ∃z,Instr.fill place' cv vs=O z/\z.size=m.length/\∀(j:Nat) p v,m[j]? =O p->z[j]? =O v->VR Γ bs w p v
 |[],[],cells,cv,m,_,_,hs,hc,ho=>by simp only[qch,q8]at ho;subst ho;exact⟨cv,rfl,hs,hc⟩
 |[],_::_,_,_,_,hl,_,_,_,_=>by simp at hl
 |_::_,[],_,_,_,hl,_,_,_,_=>by simp at hl
 | (i,p) :: rest,(i',v) :: vs,cells,cv,m,hl,hv,hs,hc,ho => by
  obtain⟨rfl,R⟩:=hv 0 (i,p) (i',v) rfl rfl;simp only[qch]at ho;split at ho
  .rename_i off a0 ps H L;split at ho
   .rename_i hh;let⟨h1,h2⟩:=hh;let⟨X,k2⟩:=VR.cells R L;replace X:v.cells.size=ps.length:=X
    have h:∀(l:List D)(k:Nat)(cv:Array D),off+k+l.length<=cv.size->
      ((l.zipIdx k).foldl (λcs (c,j)=>cs.setIfInBounds (off+j) c) cv).toList=cv.toList.take (off+k)++l++cv.toList.drop (off+k+l.length):=by
     intro l
     induction l with
     |nil=>intro k cv _;simp
     | cons u l ih =>
      intro k cv F
      simp only[List.zipIdx_cons,List.foldl_cons]
      simp only[vz]at F
      rw[ih (k+1) _ (by simp;omega)]
      apply vbj
      intro j
      rw[show off+(k+1)=off+k+1 from by omega]
      have e1:=lW (cs:=(cv.setIfInBounds (off+k) u).toList) (vs:=l) (off:=off+k+1) (by simp;omega) j
      have e2:=lW (cs:=cv.toList) (vs:=u::l) (off:=off+k) (by simp;omega) j
      simp only[vz]at e2 ⊢
      rw[e1,e2]
      simp only[Array.toList_setIfInBounds,vbH]
      by_cases t:j<off+k
      .rw[hU (by omega),hU t,hG (by omega)]
      .by_cases A:j=off+k
       .subst A
        have a1:off+k<off+k+1:=by omega
        have a2:¬off+k<off+k:=by omega
        have a3:off+k<off+k+(l.length+1):=by omega
        have a4:off+k<cv.size:=by omega
        simp[a1,a3,a4]
       .rw[hG (by omega),hG t]
        by_cases c3:j<off+k+1+l.length
        .rw[hU c3,hU (by omega),show j - (off+k)=(j - (off+k+1))+1 from by omega];simp
        .rw[hG c3,hG (by omega),hG (by omega)]
    have B:v.cells.toList.length=ps.length:=by simpa using X
    have s:(v.cells.zipIdx.foldl (λcs (c,j)=>cs.setIfInBounds (off+j) c) cv).size=(cells.take off++ps++cells.drop (off+ps.length)).length:=by have:=h v.cells.toList 0 cv (by simp;omega);have h3:=mx List.length this;rw[<-vcr];simp only[vcl];simp only[Array.length_toList]at h3;rw[h3];simp;omega
    have r:∀(j:Nat) q u,(cells.take off++ps++cells.drop (off+ps.length))[j]? =O q->
      (v.cells.zipIdx.foldl (λcs (c,j)=>cs.setIfInBounds (off+j) c) cv)[j]? =O u->VR Γ bs w q u:=by
     intro j q u o e
     have:=h v.cells.toList 0 cv (by simp;omega)
     rw[<-vcr]at e
     simp only[vcl]at e
     rw[<-vbb,this]at e
     simp only[Nat.add_zero]at e
     rw[lW (by simp;omega)]at e
     rw[lW h2]at o
     simp only[B]at e
     by_cases t:j<off
     .rw[hU t]at o e;exact hc j q u o (by simpa using e)
     .rw[hG t]at o e
      by_cases A:j<off+ps.length
      .rw[hU A]at o e;exact k2 _ q u o (by simpa using e)
      .rw[hG A]at o e;exact hc j q u o (by simpa using e)
    let⟨z,r1,r2,r3⟩:=Ri y rest vs _ _ (by simpa using hl) (λj p v hp S=>hv (j+1) p v (by simpa using hp) (by simpa using S)) s r ho;refine⟨z,?_,r2,r3⟩;simp only[Instr.fill,y _ _ H];rw[hG (by simp;omega)];exact r1
   .cases ho
  .cases ho
end
def uY(a:TypeDesc)(k:PVal):K:=match a,k with|.string,.str _=>T|.int q,.int q' _=>Y (q=q')|_,_=>Z
def XA(P:I)(t:G):Q PVal:=((P.info? t).bind (·.zero)).map absV
def qgJ:PVal->PVal->Q K|.str a,.str b=>O (a==b)|.int k a,.int k' b=>if k=k' then O (a==b)else N|_,_=>N
def Qp(k:PVal):List (PVal×PVal)->Nat->Q (Q (Nat×PVal))|[],_=>O N|(x,v)::r,i=>match qgJ k x with|some T=>O (O (i,v))|some Z=>Qp k r (i+1)|none=>N
def HV(P:I)(t:G)(m k:PVal)(ok:K)(H:List aJ):Q PVal:=match P.underlying t,m with
 | some (.map kt e),.mapr i => match H[i]?,P.underlying kt with
  | some (.map es),O kd =>if uY kd k then match Qp k es 0,XA P e with|some (O (_,v)),_=>O (if ok then .tuple [v,.bool T]else v)|some N,O z=>O (if ok then .tuple [z,.bool Z]else z)|_,_=>N else N
  |_,_=>N
 |_,_=>N
def ka(P:I)(t:G)(m k v:PVal)(H:List aJ):Q (List aJ):=match P.underlying t,m with
 | some (.map kt _),.mapr i => match H[i]?,P.underlying kt with
  | some (.map es),O kd =>if uY kd k then match Qp k es 0 with|some (O (j,_))=>O (H.set i (.map (es.set j (k,v))))|some N=>O (H.set i (.map (es++[(k,v)])))|none=>N else N
  |_,_=>N
 |_,_=>N
section
variable{P:I}{E:BP}{Γ:ca}{bs:cF}{c:Nat->Q rI}{w:J}{a:Array D}{st:aF}
def qb8{t:G}{b:List (Nat×PVal)}{y:List (Nat×D)}{p:PVal}(r:b.length=y.length)
  (o:∀(j:Nat) p v,b[j]? =O p->y[j]? =O v->p.1=v.1/\VR Γ bs w p.2 v.2) (h:df P t b=O p):
  ∃v,(Instr.build t y.toArray).run P w=.ok v w/\VR Γ bs w p v:=by
 unfold df at h
 split at h
 .rename_i A zs H R
  obtain⟨z,F,rfl,i,hi,S⟩:=wk (w:=w) R
  split at h
  .rename_i q
   simp only[vaF]at h
   obtain⟨a0,B,rfl⟩:=h
   have m:∀(l:List Field),(∀f∈l,(P.info? f.type).isSome=T)->(l.mapM λf=>do pure (f.offset,<-sizeOf f.type):Sem (List (Nat×Nat))).run P w=.ok (l.map λf=>(f.offset,P.cellsOf f.type)) w:=by intro l r;induction l with|nil=>simp|cons f l ih=>let⟨X,d⟩:=vaO.1 (r f (by simp));have:=ih λg hg=>r g (by simp[hg]);simp only[vca,Sem.run_bind,run_sizeOf w d,Result.andThen_ok,this,Sem.run_pure,ox]
   have s:(A.mapM λf=>do pure (f.offset,<-sizeOf f.type):Sem (Array (Nat×Nat))).run P w=.ok (A.map λf=>(f.offset,P.cellsOf f.type)) w:=by
    rw[vcs];simp only[Sem.run_map]
    rw[m A.toList λf hf=>by
     have:=vbx.1 q f (by simpa using hf);simpa using this]
    simp only[Result.andThen_ok];exact mx (λx=>Result.ok x w) (vbQ (by simp))
   let⟨ov,r1,r2,r3⟩:=Ri (place':=((A.map λf=>(f.offset,P.cellsOf f.type))[·]?)) (λi x L=>by simpa using L) b y _ z.cells r o (by simp) (λj p v s o=>qg7 j p v s o) B
   refine⟨.agg ov,?_,.agg _ _ r2 r3⟩
   simp only[Instr.build,Sem.run_bind,F,Result.andThen_ok,run_underlying H,s]
   rw[r1]
   simp
  .cases h
 .rename_i n e zs H R
  obtain⟨z,F,rfl,i,hi,S⟩:=wk (w:=w) R
  split at h
  .rename_i d
   let⟨X,d⟩:=vaO.1 d
   simp only[vaF]at h
   obtain⟨a0,B,rfl⟩:=h
   let⟨ov,r1,r2,r3⟩:=Ri (λi x L=>L) b y _ z.cells r o (by simp) (λj p v s o=>qg7 j p v s o) B
   refine⟨.agg ov,?_,.agg _ _ r2 r3⟩
   simp only[Instr.build,Sem.run_bind,F,Result.andThen_ok,run_underlying H,run_sizeOf w d]
   simp[r1]
  .cases h
 .cases h
def qo9(h:SR P E Γ bs c w a st){t ty:G}{x p:PVal}{F:D}(z:VR Γ bs w x F)(m:TG P t x st.boxes=O p):∃v,(Builtin.len_ #[t] ty #[F]).run P w=.ok v w/\VR Γ bs w p v:=by
 unfold TG at m;split at m
 .rename_i s d;cases m;cases z;have r:(ByteArray.mk s.toArray).size=s.length:=by show s.toArray.size=_;simp
  exact⟨.int .i64 s.length,by simp[Builtin.len_,run_underlying d,goInt,r],.int _ _⟩
 .rename_i e y d;cases m;cases z with|sliceNil=>exact⟨.int .i64 0,by simp[Builtin.len_,run_underlying d,goInt],.int _ _⟩|sliceE a cap=>exact⟨.int .i64 0,by simp[Builtin.len_,run_underlying d,goInt],.int _ _⟩|slice y b A cap n sz vals hz0 hcap B hn r hc hv=>exact⟨.int .i64 y.length,by simp[Builtin.len_,run_underlying d,goInt],.int _ _⟩
 .rename_i e bx A n d;cases m;cases z with|bsl _ _ _ x cap hcap hnil hxb=>exact⟨.int .i64 n,by simp[Builtin.len_,run_underlying d,goInt],.int _ _⟩
 .rename_i n e d;cases m;exact⟨.int .i64 n,by simp[Builtin.len_,run_underlying d,goInt],.int _ _⟩
 .rename_i k e i d;split at m
  .rename_i y R;cases m;cases z with
   |mapr i b hi=>
    let⟨_,_,q,o,H,L,_⟩:=h.bx i b _ hi R;refine⟨.int .i64 y.length,?_,.int _ _⟩;have B:(getObj b).run P w=.ok (.map q o) w:=by simp[getObj,Sem.run,H]
    simp[Builtin.len_,run_underlying d,B,goInt,L]
  .cases m
 .cases m
def qmN{x y p:PVal}{b d:D}(e:VR Γ bs w x b)(i:VR Γ bs w y d)(h:qlb x y=O p):∃v,(Builtin.max2 b d).run P w=.ok v w/\VR Γ bs w p v:=by
 unfold qlb at h;split at h;.cases h;cases e;cases i;exact⟨_,by simp[Builtin.max2],.int _ _⟩
 .cases h
def qmO{x y p:PVal}{b d:D}(e:VR Γ bs w x b)(i:VR Γ bs w y d)(h:qlc x y=O p):∃v,(Builtin.min2 b d).run P w=.ok v w/\VR Γ bs w p v:=by
 unfold qlc at h;split at h;.cases h;cases e;cases i;exact⟨_,by simp[Builtin.min2],.int _ _⟩
 .cases h
def Xr{f:PVal->PVal->Q PVal}{g:D->D->Sem D}(d:∀{x y p:PVal}{b i:D},VR Γ bs w x b->VR Γ bs w y i->f x y=O p->∃v,(g b i).run P w=.ok v w/\VR Γ bs w p v):∀(l:List PVal)(e:List D)(x:PVal)(b:D){p:PVal},l.length=e.length->VR Γ bs w x b->(∀(j:Nat) p v,l[j]? =O p->e[j]? =O v->VR Γ bs w p v)->Yo f x l=O p->
  ∃v,(e.foldlM g b).run P w=.ok v w/\VR Γ bs w p v
 |[],[],x,b,p,_,hx,_,h=>by simp only[Yo,q8]at h;subst h;exact⟨b,by simp,hx⟩
 |[],_::_,_,_,_,hl,_,_,_=>by simp at hl
 |_::_,[],_,_,_,hl,_,_,_=>by simp at hl
 | y :: l,i :: e,x,b,p,hl,hx,hv,h => by
  simp only[Yo]at h;split at h;.rename_i z o;let⟨A,q,r⟩:=d hx (hv 0 y i rfl rfl) o;let⟨v,s,t⟩:=Xr d l e z A (by simpa using hl) r (λj p v n m=>hv (j+1) p v (by simpa using n) (by simpa using m)) h;exact⟨v,by simp[q,s],t⟩
  .cases h
end
end Go.Proofs.YtibglelmlnfojaaGreatDoor
