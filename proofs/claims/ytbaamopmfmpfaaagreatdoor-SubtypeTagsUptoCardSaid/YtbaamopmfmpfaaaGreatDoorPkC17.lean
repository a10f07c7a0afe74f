/- PROVED: a part of the proof. Conditions: none. -/
import Derived.Test.YtbaamopmfmpfaaaGreatDoorPkC16
import Derived.Test.YtbaamopmfmpfaaaGreatDoorPkC8
noncomputable section
namespace Go.Proofs.YtbaamopmfmpfaaaGreatDoor
open Go
set_option linter.unusedVariables false
set_option linter.unusedSimpArgs false
theorem VZ{l:List ag}{v:ag}:(match l.findIdx? (fun x=>x==v)with|some j=>(j:Int)|none=>-1)>=0↔v∈l:=by
 cases h:l.findIdx? (fun x=>x==v)with
 | none =>
  rw[vcc]at h
  simp only
  constructor
  ·intro h';omega
  ·intro hm;have:=h v hm;simp at this
 | some j =>
  obtain⟨hj,h1,_⟩:=List.findIdx?_eq_some_iff_getElem.1 h
  simp only
  constructor
  ·intro _
   have:l[j]=v:=by simpa using h1
   exact this▸vat hj
  ·intro _;omega
theorem P6(l:List ag)(v:ag)(hl:l.length<9223372036854775808):oZ l v=some (match l.findIdx? (fun x=>x==v)with|some j=>(j:Int)|none=>-1):=by
 unfold oZ rK
 have h:=M0 l hl (fun zz=>ew l v (l.length:Int) zz) (fun x=>x==v) (fun j=>Sum.inl (j:Int)) (.inr ()) (fun i hi=>?_) ?_
 ·rw[h]
  simp only[vaa]
  cases l.findIdx? (fun x=>x==v)<;>rfl
 ·show ew l v (l.length:Int) (i:Int)=_
  unfold ew
  rw[vak (by simp;omega),bv l i hi]
  simp only[vaa]
  by_cases he:v=l[i]
  ·subst he;simp
  ·have he':¬l[i]=v:=fun h=>he h.symm
   simp[he,he']
 ·show ew l v (l.length:Int) (l.length:Int)=_
  unfold ew
  rw[van (by simp)]
theorem uT(l:List ag)(v:ag)(hl:l.length<9223372036854775808):eH l v=some (decide (v∈l)):=by
 unfold eH
 rw[P6 l v hl]
 simp only[vaa]
 congr 1
 exact decide_eq_decide.2 VZ
def eO{α:Type}(o:Option α)(Q:α->Prop):Prop:=∃a,o=some a/\Q a
section
variable{α β σ τ X Y:Type}
theorem aj{a:α}{Q:α->Prop}(h:Q a):eO (some a) Q:=⟨a,rfl,h⟩
theorem Pd{o:Option α}{a:α}{Q:α->Prop}(e:o=some a)(h:Q a):eO o Q:=⟨a,e,h⟩
theorem au{o:Option α}{f:α->Option β}{R:α->Prop}{Q:β->Prop}(h:eO o R)(h':∀a,R a->eO (f a) Q):eO (o.bind f) Q:=by
 obtain⟨a,rfl,h⟩:=h
 exact h' a h
theorem ct{o:Option α}{a:α}{f:α->Option β}{Q:β->Prop}(e:o=some a)(h:eO (f a) Q):eO (o.bind f) Q:=by
 rw[e];exact h
theorem eO.mono{o:Option α}{Q R:α->Prop}(h:eO o Q)(h':∀a,Q a->R a):eO o R:=by
 obtain⟨a,e,h⟩:=h
 exact⟨a,e,h' a h⟩
theorem aJ{c:Prop}[Decidable c]{a b:Option α}{Q:α->Prop}(h1:c->eO a Q)(h2:¬c->eO b Q):eO (if c then a else b) Q:=by
 by_cases h:c
 ·rw[vak h];exact h1 h
 ·rw[van h];exact h2 h
theorem mU{F:(X->Option Y)->X->Option Y}(μ:X->Nat)(P:X->Prop)(Q:X->Y->Prop)(h:∀(R:X->Option Y) x,P x->(∀y,μ y<μ x->P y->eO (R y) (Q y))->eO (F R x) (Q x))(x:X)(hx:P x)(hm:μ x<XI):eO (oG F x) (Q x):=by
 have key:∀n x,μ x<n->P x->eO (qbr F n x) (Q x):=by
  intro n
  induction n with
  |zero=>intro x hx;omega
  |succ n ih=>intro x hx hq;exact h _ x hq fun y hy hqy=>ih y (by omega) hqy
 exact key _ x hm hx
theorem xt(l:List α)(hl:l.length<9223372036854775808)(mk:Int->σ->τ){body:τ->Option (τ⊕X)}(I:Nat->σ->Prop){Q:X->Prop}
  (hin:∀(i:Nat) (h:i<l.length) s,I i s->eO (body (mk i s)) (fun r=>match r with|.inl t=>∃s',t=mk (aR ((i:Int)+1)) s'/\I (i+1) s'|.inr y=>Q y))
  (hend:∀s,I l.length s->eO (body (mk l.length s)) (fun r=>match r with|.inl _=>False|.inr y=>Q y)):∀s,I 0 s->eO (loop body (mk 0 s)) Q:=by
 have key:∀k i s,k+i=l.length->I i s->eO (loop body (mk (i:Int) s)) Q:=by
  intro k
  induction k with
  |zero=>
   intro i s hi hI
   have:i=l.length:=by omega
   subst this
   obtain⟨r,e,hr⟩:=hend s hI
   rw[oK,e]
   cases r with
   |inl _=>exact hr.elim
   |inr y=>exact⟨y,rfl,hr⟩
  | succ k ih =>
   intro i s hi hI
   obtain⟨r,e,hr⟩:=hin i (by omega) s hI
   rw[oK,e]
   cases r with
   |inl t=>
    obtain⟨s',rfl,hI'⟩:=hr
    simp only
    rw[dB (by omega) (by omega),show((i:Int)+1)=((i+1:Nat):Int) by omega]
    exact ih (i+1) s' (by omega) hI'
   |inr y=>exact⟨y,rfl,hr⟩
 exact fun s hs=>key l.length 0 s (by omega) hs
end
section
variable{α β σ τ X Y:Type}
theorem w9(l:List α)(hl:l.length<=1073741824)(mk:Int->List β->τ)(body:τ->Option (τ⊕X))(h:α->Option β)(g:α->β)(e:List β->X)
  (hb:∀(i:Int) (s:List β),body (mk i s)=if decide (i<(l.length:Int))=true then(cR l i).bind (fun x=>(h x).bind fun r=>(app s ([r]:List β)).bind fun q=>some (.inl (mk (aR (i+1)) q)))else some (.inr (e s)))
  (hg:∀x∈l,h x=some (g x)):loop body (mk 0 [])=some (e (l.map g)):=by
 refine Qk l (by omega) mk body g e (fun i hi s hs=>?_) (fun s=>?_)
 ·rw[hb,vak (by simp;omega),bv l i hi]
  simp only[vaa]
  rw[hg _ (vat hi)]
  simp only[vaa]
  rw[dR (by simp;omega)]
  rfl
 ·rw[hb,van (by simp)]
theorem MZ(l:List α)(hl:l.length<9223372036854775808)(body:Int->Option (Int⊕X))(k:Int->α->Option (Int⊕X))(p:α->Bool)(y e:X)
  (hb:∀(i:Int),body i=if decide (i<(l.length:Int))=true then(cR l i).bind (k i)else some (.inr e))
  (hk:∀x∈l,∀i,k i x=some (if p x=true then .inr y else .inl (aR (i+1)))):loop body 0=some (if l.any p=true then y else e):=by
 have:=KC l hl body p y e (fun i hi=>?_) (by rw[hb,van (by simp)]) 0 (vaO _)
 ·rw[va2]at this
  exact this
 ·rw[hb,vak (by simp;omega),bv l i hi]
  simp only[vaa]
  exact hk _ (vat hi) i
theorem pH(l:List α)(hl:l.length<9223372036854775808)(mk:Int->σ->τ)(body:τ->Option (τ⊕X))(k:Int->σ->α->Option (τ⊕X))(I:Nat->σ->Prop)(g:α->σ->σ)(e:σ->X)(s0:σ)(h0:I 0 s0)
  (hb:∀(i:Int) (s:σ),body (mk i s)=if decide (i<(l.length:Int))=true then(cR l i).bind (k i s)else some (.inr (e s)))
  (hin:∀(i:Nat) (h:i<l.length) s,I i s->k i s l[i]=some (.inl (mk (aR ((i:Int)+1)) (g l[i] s)))/\I (i+1) (g l[i] s)):loop body (mk 0 s0)=some (e (l.foldl (fun s x=>g x s) s0)):=by
 have:=oL l hl mk body I (fun _ x s=>.inl (g x s)) e (fun i h s hs=>⟨?_,fun s' hs'=>by cases hs';exact(hin i h s hs).2⟩) (fun s hs=>by rw[hb,van (by simp)]) 0 s0 (vaO _) h0
 ·rw[va2,show((0:Nat):Int)=0 from rfl]at this
  rw[this]
  have key:∀(l:List α) (i:Nat) (s:σ),ph (fun _ x (s:σ)=>(Sum.inl (g x s):σ⊕X)) e l i s=e (l.foldl (fun s x=>g x s) s):=by
   intro l
   induction l with
   |nil=>intro i s;rfl
   |cons x l ih=>intro i s;unfold ph;simp only;rw[ih];rfl
  rw[key]
 ·rw[hb,vak (by simp;omega),bv l i h]
  simp only[vaa]
  exact(hin i h s hs).1
theorem Nt(l:List α)(hl:l.length<9223372036854775808)(mk:Int->σ->τ){body:τ->Option (τ⊕X)}(k:Int->σ->α->Option (τ⊕X))(e:σ->X)(I:Nat->σ->Prop){Q:X->Prop}
  (hb:∀(i:Int) (s:σ),body (mk i s)=if decide (i<(l.length:Int))=true then(cR l i).bind (k i s)else some (.inr (e s)))
  (hin:∀(i:Nat) (h:i<l.length) s,I i s->eO (k i s l[i]) (fun r=>match r with|.inl t=>∃s',t=mk (aR ((i:Int)+1)) s'/\I (i+1) s'|.inr y=>Q y))
  (hend:∀s,I l.length s->Q (e s)):∀s,I 0 s->eO (loop body (mk 0 s)) Q:=
 xt l hl mk I (fun i h s hs=>by
  rw[hb,vak (by simp;omega),bv l i h]
  exact hin i h s hs) (fun s hs=>by
  rw[hb,van (by simp)]
  exact⟨_,rfl,hend s hs⟩)
theorem U7(l:List α)(hl:l.length<9223372036854775808){body:Int->Option (Int⊕X)}(k:Int->α->Option (Int⊕X))(e:X)(I:Nat->Prop){Q:X->Prop}
  (hb:∀(i:Int),body i=if decide (i<(l.length:Int))=true then(cR l i).bind (k i)else some (.inr e))
  (hin:∀(i:Nat) (h:i<l.length),I i->eO (k i l[i]) (fun r=>match r with|.inl t=>t=aR ((i:Int)+1)/\I (i+1)|.inr y=>Q y))
  (hend:I l.length->Q e) (h0:I 0):eO (loop body 0) Q:=
 Nt l hl (fun i (_:Unit)=>i) (fun i _=>k i) (fun _=>e) (fun i _=>I i) (fun i _=>hb i) (fun i h s hs=>(hin i h hs).mono fun r hr=>by
  cases r with
  |inl t=>exact⟨(),hr.1,hr.2⟩
  |inr y=>exact hr) (fun _ h=>hend h) () h0
end
def AD{α:Type}(p:α->α->Bool):List α->List α->Bool
 |[],[]=>true
 |x::a,y::b=>p x y&&AD p a b
 |_,_=>false
theorem PG{α:Type}{p:α->α->Bool}:∀{a b:List α},AD p a b=true->a.length=b.length
 |[],[],_=>rfl
 |x::a,y::b,h=>by
  rw[AD,vag]at h
  simp[PG h.2]
 |[],y::b,h=>by simp[AD]at h
 |x::a,[],h=>by simp[AD]at h
theorem Xz{α:Type}{p:α->α->Bool}:∀{a b:List α},a.length≠b.length->AD p a b=false:=fun{a b} h=>by
 rw[vcj]
 exact fun he=>h (PG he)
theorem PH{α:Type}{p:α->α->Bool}:∀{a b:List α},a.length=b.length->(a.zip b).any (fun x=>!p x.1 x.2)= !AD p a b
 |[],[],_=>rfl
 |x::a,y::b,h=>by
  rw[List.zip_cons_cons,List.any_cons,PH (by simpa using h),AD]
  cases p x y<;>rfl
theorem Uv{α X:Type}{a b:List α}(hl:a.length=b.length)(ha:a.length<9223372036854775808)(body:Int->Option (Int⊕X))(k:Int->α->α->Option (Int⊕X))(p:α->α->Bool)(y e:X)
  (hb:∀(i:Int),body i=if decide (i<(a.length:Int))=true then(cR a i).bind (fun x=>(cR b i).bind (k i x))else some (.inr e))
  (hk:∀x∈a,∀z∈b,∀i,k i x z=some (if p x z=true then .inl (aR (i+1))else .inr y)):loop body 0=some (if AD p a b=true then e else y):=by
 have hz:(a.zip b).length=a.length:=by simp[hl]
 have:=KC (a.zip b) (by omega) body (fun x=>!p x.1 x.2) y e (fun i h=>?_) (by rw[hb,van (by simp[hz])]) 0 (vaO _)
 ·rw[va2,PH hl]at this
  rw[show((0:Nat):Int)=0 from rfl]at this
  rw[this]
  by_cases h:AD p a b=true<;>simp[h]
 ·have h1:i<a.length:=by omega
  have h2:i<b.length:=by omega
  rw[hb,vak (by simp;omega),bv a i h1]
  simp only[vaa]
  rw[bv b i h2]
  simp only[vaa]
  rw[hk _ (vat h1) _ (vat h2)]
  have hzi:(a.zip b)[i]=(a[i],b[i]):=by simp
  rw[hzi]
  by_cases h:p a[i] b[i]=true<;>simp[h]
theorem wQ{α:Type}(l:List α)(h:l.length<=1073741824):lP l=some l:=vak h
mutual
def dP:aa->Nat
 |⟨_,_,_,ks⟩=>dL ks+1
def dL:List aa->Nat
 |[]=>0
 |p::ps=>max (dP p) (dL ps)
end
theorem qbo(p:aa):dP p=dL p.Kids+1:=by obtain⟨o,n,k,ks⟩:=p;rw[dP];rfl
mutual
theorem YW:∀(p:aa),dP p<=nP p
 |⟨o,n,k,ks⟩=>by have:=YV ks;rw[dP,nP];omega
theorem YV:∀(l:List aa),dL l<=nL l
 |[]=>by simp[dL]
 |p::l=>by have:=YW p;have:=YV l;rw[dL,nL];omega
end
theorem S0:∀(l:List aa) (a:Nat),l.foldl (fun(s:Int) x=>if(dP x:Int)>s then(dP x:Int)else s) (a:Int)=((max a (dL l):Nat):Int)
 |[],a=>by simp[dL]
 |x::l,a=>by
  rw[List.foldl_cons,show(if(dP x:Int)>(a:Int)then(dP x:Int)else(a:Int))=((max a (dP x):Nat):Int) by split<;>omega,S0 l,dL,Nat.max_assoc]
theorem VU(p:aa)(hp:nP p<=bz):FI p=some (dP p:Int):=by
 refine kf (F:=zM) nP (fun x=>nP x<=bz) (fun x=>(dP x:Int)) (fun R x hx ih=>?_) p hp (f6 hp)
 show uA (fun p=>R p) x=_
 unfold uA xF
 have hlen:=tT x
 have hd:=YW x
 have he:=qbo x
 have hz:(0:Int)=((0:Nat):Int):=rfl
 rw[pH x.Kids (by unfold bz at hx;omega) (fun i s=>(s,i)) _ (fun i s x=>(R x).bind fun r=>some (.inl ((if r>s then r else s),aR (i+1)))) (fun _ _=>True) (fun x s=>if(dP x:Int)>s then(dP x:Int)else s) id 0 trivial (fun i s=>rfl) (fun i hi s _=>⟨?_,trivial⟩)]
 ·rw[hz,S0]
  simp only[id,vaa]
  unfold bz at hx
  rw[dB (by omega) (by omega)]
  congr 1;omega
 ·have hm:=vat hi
  have hk:=rC hm
  rw[ih _ hk (by omega)]
  rfl
def tU(ns:List ag)(bs:List aa)(n:ag):Option aa:=(ns.findIdx? (fun x=>x==n)).bind fun j=>bs[j]?
mutual
def Ht(f:ag->Option aa):aa->aa
 |⟨o,n,k,ks⟩=>(if o=3 then f n else none).getD ⟨o,n,k,Tx f ks⟩
def Tx(f:ag->Option aa):List aa->List aa
 |[]=>[]
 |p::ps=>Ht f p::Tx f ps
end
theorem O9(f:ag->Option aa):∀(l:List aa),Tx f l=l.map (Ht f)
 |[]=>by rw[Tx];rfl
 |p::l=>by rw[Tx,O9 f l];rfl
theorem Z6(f:ag->Option aa)(p:aa):Ht f p=(if p.Op=3 then f p.Name else none).getD ⟨p.Op,p.Name,p.N,p.Kids.map (Ht f)⟩:=by
 obtain⟨o,n,k,ks⟩:=p
 rw[Ht,O9];rfl
mutual
theorem Y9(f:ag->Option aa)(M:Nat)(hM:1<=M)(hf:∀n q,f n=some q->nP q<=M):∀(p:aa),nP (Ht f p)<=nP p * M
 | ⟨o,n,k,ks⟩ => by
  have:=Y8 f M hM hf ks
  rw[Ht]
  cases h:(if o=3 then f n else none)with
  |none=>
   simp only[Option.getD_none]
   rw[nP,nP,va8];omega
  | some q =>
   simp only[Option.getD_some]
   have:f n=some q:=by
    split at h
    ·exact h
    ·cases h
   have:=hf n q this
   rw[nP,va8]
   have:0<=nL ks * M:=vaO _
   omega
theorem Y8(f:ag->Option aa)(M:Nat)(hM:1<=M)(hf:∀n q,f n=some q->nP q<=M):∀(l:List aa),nL (Tx f l)<=nL l * M
 |[]=>by simp[Tx,nL]
 |p::l=>by
  have:=Y9 f M hM hf p
  have:=Y8 f M hM hf l
  rw[Tx,nL,nL,va8];omega
end
theorem Wm{ns:List ag}{bs:List aa}{n:ag}{q:aa}(h:tU ns bs n=some q):q∈bs:=by
 unfold tU at h
 cases hf:ns.findIdx? (fun x=>x==n)with
 |none=>rw[hf]at h;cases h
 |some j=>
  rw[hf]at h
  exact vaz h
theorem Yi(ns:List ag)(bs:List aa)(p:aa)(hn:ns.length<9223372036854775808)(hb:∀q∈bs,nP q<=bz):ly ns bs p=some ((if p.Op=3 then tU ns bs p.Name else none).elim (.inr ()) (fun q=>.inl (q.Op,q.Name,q.N,q.Kids))):=by
 unfold ly pP tU DF
 by_cases h1:p.Op=3
 ·rw[vak (by simpa using h1),P6 ns p.Name hn,vak h1]
  simp only[vaa]
  cases hf:ns.findIdx? (fun x=>x==p.Name)with
  |none=>rfl
  | some j =>
   simp only[vaa]
   rw[vak (vbp (show(j:Int)>=0 by omega))]
   simp only[vaa]
   by_cases h2:j<bs.length
   ·rw[vak (vbp (by omega)),bv bs j h2,vab h2]
    simp only[vaa]
    rw[MK _ (hb _ (vat h2))]
    rfl
   ·rw[van (by simp;omega),vau (by omega)]
    rfl
 ·rw[van (by simpa using h1),van h1]
  rfl
theorem O5(p:aa)(ns:List ag)(bs:List aa)(hp:nP p<=bz)(hn:ns.length<9223372036854775808)(hb:∀q∈bs,nP q<=bz):j5 p ns bs=some (Ht (tU ns bs) p):=by
 refine kf (F:=rE) (fun x=>nP x.1) (fun x=>nP x.1<=bz/\x.2=(ns,bs)) (fun x=>Ht (tU x.2.1 x.2.2) x.1) (fun R x hx ih=>?_) (p,ns,bs) ⟨hp,rfl⟩ (f6 hp)
 obtain⟨p,ns',bs'⟩:=x
 obtain⟨hx,he⟩:=hx
 cases he
 have hx:nP p<=bz:=hx
 show ng (fun p names a=>R (p,names,a)) p ns bs=some (Ht (tU ns bs) p)
 unfold ng
 rw[Yi ns bs p hn hb,Z6]
 cases h:(if p.Op=3 then tU ns bs p.Name else none)with
 |some q=>
  simp only[Option.elim,vaa,wS,Option.getD_some]
 |none=>
  simp only[Option.elim,vaa,Option.getD_none]
  unfold pQ
  have hlen:=tT p
  rw[w9 p.Kids (by unfold bz at hx;omega) (fun i s=>(i,s)) _ (fun y=>R (y,ns,bs)) (Ht (tU ns bs)) id (fun i s=>rfl) (fun y hy=>ih (y,ns,bs) (rC hy) ⟨by have:=rC hy;show nP y<=bz;omega,rfl⟩)]
  rfl
def KZ(v:ag)(q:aa)(n:ag):Option aa:=if n=v then some q else none
theorem Wn(v:ag)(q:aa):tU [v] [q]=KZ v q:=by
 funext n
 unfold tU KZ
 rw[vcL]
 by_cases h:n=v
 ·subst h;simp
 ·have h':(v==n)=false:=by simpa using fun e=>h e.symm
  simp[h',h]
theorem Nh(p:aa)(v:ag)(q:aa)(hp:nP p<=bz)(hq:nP q<=bz):ub p v q=some (Ht (KZ v q) p):=by
 unfold ub
 rw[O5 p [v] [q] hp (by simp) (by simpa using hq),Wn]
 rfl
mutual
def cu:ae->Nat
 |⟨_,_,xs,ns,_,ps⟩=>cM xs+ns.length+ps.length+1
def cM:List ae->Nat
 |[]=>0
 |a::xs=>cu a+cM xs
end
theorem qp(t:ae):cu t=cM t.Args+t.Names.length+t.Preds.length+1:=by obtain⟨o,n,xs,ns,p,ps⟩:=t;rw[cu];rfl
theorem mL(t:ae):1<=cu t:=by rw[qp];omega
theorem Gl:∀{l:List ae} {x:ae},x∈l->cu x<=cM l
 | y :: l,x,h => by
  rw[cM]
  rcases vaA.1 h with rfl|h
  ·omega
  ·have:=Gl h;omega
theorem wY:∀(l:List ae),l.length<=cM l
 |[]=>by simp[cM]
 |p::l=>by rw[cM];have:=wY l;have:=mL p;simp only[vaN];omega
theorem je{t a:ae}(h:a∈t.Args):cu a<cu t:=by rw[qp t];have:=Gl h;omega
theorem iO(t:ae):t.Args.length<cu t:=by rw[qp];have:=wY t.Args;omega
theorem j3(t:ae):t.Names.length<cu t:=by rw[qp];omega
theorem GJ(t:ae):t.Preds.length<cu t:=by rw[qp];omega
mutual
def Di(Q:aa->Prop):ae->Prop
 |⟨_,_,xs,_,p,ps⟩=>Q p/\(∀q∈ps,Q q)/\AF Q xs
def AF(Q:aa->Prop):List ae->Prop
 |[]=>True
 |a::xs=>Di Q a/\AF Q xs
end
theorem Vn(Q:aa->Prop)(t:ae):Di Q t↔Q t.Pred/\(∀q∈t.Preds,Q q)/\AF Q t.Args:=by obtain⟨o,n,xs,ns,p,ps⟩:=t;rw[Di];rfl
theorem Mw(Q:aa->Prop):∀(l:List ae),AF Q l↔∀t∈l,Di Q t
 |[]=>by simp[AF]
 |a::l=>by rw[AF,Mw Q l];simp
mutual
theorem Mx{Q R:aa->Prop}(h:∀p,Q p->R p):∀(t:ae),Di Q t->Di R t
 |⟨_,_,xs,_,p,ps⟩,ht=>by
  rw[Di]at ht ⊢
  exact⟨h _ ht.1,fun q hq=>h _ (ht.2.1 q hq),JQ h xs ht.2.2⟩
theorem JQ{Q R:aa->Prop}(h:∀p,Q p->R p):∀(l:List ae),AF Q l->AF R l
 |[],_=>trivial
 |a::xs,hl=>by
  rw[AF]at hl ⊢
  exact⟨Mx h a hl.1,JQ h xs hl.2⟩
end
theorem Y5(l:List aa):l.length<=bM (l.map ac):=by
 have:=DE l
 have:=Td l
 omega
theorem Qb(l:List ag):l.length<=bM (l.map cS):=by
 have h:=QB (l.map cS) (fun x hx=>by
  obtain⟨s,_,rfl⟩:=vap.1 hx
  simp only[cS,fx,pm];omega)
 rwa[vaL]at h
theorem xh(t:ae):fx (af t)=1+(pm (.str t.Name)+(pm (sl af t.Args)+(pm (sl cS t.Names)+(1+(pm (.str t.Pred.Name)+(1+(pm (sl ac t.Pred.Kids)+(pm (sl ac t.Preds)+0)))))))):=by
 rw[bk];rfl
mutual
theorem Ta:∀(t:ae),cu t<=fx (af t)
 |⟨o,n,xs,ns,p,ps⟩=>by
  have h1:=Qc xs
  have h2:=Y5 ps
  have h3:=Qb ns
  rw[cu,xh]
  show _<=1+(pm (.str n)+(pm (sl af xs)+(pm (sl cS ns)+(1+(pm (.str p.Name)+(1+(pm (sl ac p.Kids)+(pm (sl ac ps)+0))))))))
  simp only[pm,sl]
  omega
theorem Qc:∀(l:List ae),cM l<=bM (l.map af)
 |[]=>by simp[cM]
 |a::l=>by
  have:=Ta a
  have:=Qc l
  rw[cM]
  simp only[vax,bM]
  omega
end
theorem Ye(t:ae):nP t.Pred<=fx (af t):=by
 have h:=Td t.Pred.Kids
 rw[M3,xh]
 simp only[pm,sl]
 omega
mutual
theorem SI(B:Nat):∀(t:ae),fx (af t)<=B->Di (fun p=>nP p<=B) t
 |⟨o,n,xs,ns,p,ps⟩,h=>by
  have h0:=Ye ⟨o,n,xs,ns,p,ps⟩
  rw[xh]at h h0
  have h:1+(pm (.str n)+(pm (sl af xs)+(pm (sl cS ns)+(1+(pm (.str p.Name)+(1+(pm (sl ac p.Kids)+(pm (sl ac ps)+0))))))))<=B:=h
  have h0:nP p<=1+(pm (.str n)+(pm (sl af xs)+(pm (sl cS ns)+(1+(pm (.str p.Name)+(1+(pm (sl ac p.Kids)+(pm (sl ac ps)+0)))))))):=h0
  simp only[pm,sl]at h h0
  rw[Di]
  refine⟨by omega,fun q hq=>?_,PK B xs (by omega)⟩
  have h1:=Y6 q
  have h2:=ua (vap.2 ⟨q,hq,rfl⟩:ac q∈ps.map ac)
  omega
theorem PK(B:Nat):∀(l:List ae),bM (l.map af)<=B->AF (fun p=>nP p<=B) l
 |[],_=>trivial
 |a::xs,h=>by
  simp only[vax,bM]at h
  rw[AF]
  exact⟨SI B a (by omega),PK B xs (by omega)⟩
end
section
variable{α β σ τ X Y:Type}
theorem Sa(l:List α)(hl:l.length<9223372036854775808)(mk:Int->τ)(body:τ->Option (τ⊕X))(f:α->Option X)(e:X)
  (hin:∀(i:Nat) (h:i<l.length),body (mk (i:Int))=some ((f l[i]).elim (.inl (mk (aR ((i:Int)+1)))) .inr)) (hend:body (mk l.length)=some (.inr e)):loop body (mk 0)=some ((l.findSome? f).elim e id):=by
 have key:∀k i,k+i=l.length->loop body (mk (i:Int))=some (((l.drop i).findSome? f).elim e id):=by
  intro k
  induction k with
  |zero=>
   intro i hi
   have:i=l.length:=by omega
   subst this
   rw[oK,hend,vbY]
   rfl
  | succ k ih =>
   intro i hi
   rw[oK,hin i (by omega),va7 (by omega),List.findSome?_cons]
   cases h:f l[i]with
   |none=>
    simp only[Option.elim]
    rw[dB (by omega) (by omega),show((i:Int)+1)=((i+1:Nat):Int) by omega]
    exact ih (i+1) (by omega)
   |some y=>rfl
 have:=key l.length 0 (by omega)
 rw[va2]at this
 exact this
theorem pZ{A:Type}(l:List α)(hl:l.length<9223372036854775808){body:Int->Option (Int⊕(A⊕Unit))}(k:Int->α->Option (Int⊕(A⊕Unit)))(P:α->Prop)(B:A->Prop)
  (hb:∀(i:Int),body i=if decide (i<(l.length:Int))=true then(cR l i).bind (k i)else some (.inr (.inr ())))
  (hk:∀x∈l,∀i,eO (k i x) (fun r=>r.elim (fun t=>t=aR (i+1)/\P x) (fun y=>y.elim B (fun _=>False)))):eO (loop body 0) (fun r=>r.elim B (fun _=>∀x∈l,P x)):=by
 refine U7 l hl k (.inr ()) (fun i=>∀j (h:j<l.length),j<i->P l[j]) hb (fun i hi hI=>(hk _ (vat hi) i).mono fun r hr=>?_) (fun hI x hx=>?_) (fun j _ h=>absurd h (vaQ _))
 ·cases r with
  | inl t =>
   refine⟨hr.1,fun j hj h=>?_⟩
   by_cases he:j=i
   ·subst he;exact hr.2
   ·exact hI j hj (by omega)
  |inr y=>cases y with
   |inl a=>exact hr
   |inr u=>exact hr.elim
 ·obtain⟨j,hj,rfl⟩:=vcE hx
  exact hI j hj hj
end
theorem Ft{a b:List ag}{x:ag}:x∈IH a b↔x∈a\/x∈b:=(K7 a b).2 x
theorem QX(a b:List ag):YJ (IH a b):=(K7 a b).1
theorem W4{a b c d:List ag}(h:∀x,(x∈a\/x∈b)↔(x∈c\/x∈d)):IH a b=IH c d:=
 Ko (QX a b) (QX c d) fun x=>by rw[Ft,Ft];exact h x
theorem QY(a b:List ag):(IH a b).length<=a.length+b.length:=by
 have h1:=Hb (kV (a++b))
 have h2:=o0 (a++b)
 rw[vae]at h2
 unfold IH
 omega
def tR{α σ:Type}(g:Nat->α->σ->σ):List α->Nat->σ->σ
 |[],_,s=>s
 |x::l,i,s=>tR g l (i+1) (g i x s)
theorem Sc{α σ τ X:Type}(l:List α)(hl:l.length<9223372036854775808)(mk:Int->σ->τ)(body:τ->Option (τ⊕X))(k:Int->σ->α->Option (τ⊕X))(I:Nat->σ->Prop)(g:Nat->α->σ->σ)(e:σ->X)(s0:σ)(h0:I 0 s0)
  (hb:∀(i:Int) (s:σ),body (mk i s)=if decide (i<(l.length:Int))=true then(cR l i).bind (k i s)else some (.inr (e s)))
  (hin:∀(i:Nat) (h:i<l.length) s,I i s->k i s l[i]=some (.inl (mk (aR ((i:Int)+1)) (g i l[i] s)))/\I (i+1) (g i l[i] s)):loop body (mk 0 s0)=some (e (tR g l 0 s0)):=by
 have:=oL l hl mk body I (fun i x s=>.inl (g i x s)) e (fun i h s hs=>⟨?_,fun s' hs'=>by cases hs';exact(hin i h s hs).2⟩) (fun s hs=>by rw[hb,van (by simp)]) 0 s0 (vaO _) h0
 ·rw[va2,show((0:Nat):Int)=0 from rfl]at this
  rw[this]
  have key:∀(l:List α) (i:Nat) (s:σ),ph (fun i x (s:σ)=>(Sum.inl (g i x s):σ⊕X)) e l i s=e (tR g l i s):=by
   intro l
   induction l with
   |nil=>intro i s;rfl
   |cons x l ih=>intro i s;unfold ph;simp only;rw[ih];rfl
  rw[key]
 ·rw[hb,vak (by simp;omega),bv l i h]
  simp only[vaa]
  exact(hin i h s hs).1
mutual
def Pp:aa->List ag
 |⟨o,n,k,ks⟩=>(if o=3 then[n]else[])++Po ks
def Po:List aa->List ag
 |[]=>[]
 |p::ps=>Pp p++Po ps
end
theorem TF{x:ag}:∀{l:List aa},x∈Po l↔∃p∈l,x∈Pp p
 |[]=>by simp[Po]
 |p::l=>by rw[Po,vaE,TF];simp
mutual
theorem IY:∀(p:aa),(Pp p).length<=nP p
 |⟨o,n,k,ks⟩=>by
  have:=Ph ks
  rw[Pp,nP,vae]
  split<;>simp<;>omega
theorem Ph:∀(l:List aa),(Po l).length<=nL l
 |[]=>by simp[Po]
 |p::l=>by
  have:=IY p
  have:=Ph l
  rw[Po,nL,vae];omega
end
mutual
theorem Q5:∀(p:aa) (s:List ag),nP p<=bz->s.length+(Pp p).length<=1073741824->Pf qR p s=some (true,s++Pp p)
 | ⟨o,n,k,ks⟩,s,hp,hs => by
  rw[nP]at hp
  rw[Pp,vae]at hs
  have hk:=DE ks
  have h1:qR s ⟨o,n,k,ks⟩=some (true,s++(if o=3 then[n]else[])):=by
   unfold qR
   show(if(o==3)=true then(app s [n]).bind fun l=>some (true,l)else some (true,s))=_
   by_cases h:o=3
   ·rw[vak (by simpa using h),vak h,dR (by rw[vak h]at hs;simp at hs ⊢;omega)]
    rfl
   ·rw[van (by simpa using h),van h,va6]
  have h2:=Nv ks (s++(if o=3 then[n]else[])) (by omega) (by rw[vae];omega)
  rw[Pf,h1]
  simp only[vaa]
  rw[vak (by unfold bz at hp;omega),h2,Pp,vbe]
theorem Nv:∀(l:List aa) (s:List ag),nL l<=bz->s.length+(Po l).length<=1073741824->Pe qR l s=some (true,s++Po l)
 |[],s,_,_=>by rw[Pe,Po,va6]
 |p::l,s,hp,hs=>by
  rw[nL]at hp
  rw[Po,vae]at hs
  rw[Pe,Q5 p s (by omega) (by omega)]
  simp only[vaa]
  rw[Nv l _ (by omega) (by rw[vae];omega),Po,vbe]
end
def kK(p:aa):List ag:=IH (Pp p) []
theorem MR{p:aa}{x:ag}:x∈kK p↔x∈Pp p:=by unfold kK;rw[Ft];simp
theorem BM(p:aa):(kK p).length<=nP p:=by
 have h1:=QY (Pp p) []
 have h2:=IY p
 unfold kK
 simp at h1
 omega
theorem Qx(p:aa)(hp:nP p<=400000000):pO p=some (kK p):=by
 have h:=IY p
 unfold pO
 rw[Q5 p [] (by unfold bz;omega) (by simp;omega)]
 simp only[vaa,vaD]
 rw[A1 _ _ (by simp;omega)]
 rfl
def Ey(o:Int)(ns:List ag)(i:Nat):List ag:=if o=6 then ns.take i else[]
mutual
def vT:ae->List ag
 |⟨o,n,xs,ns,p,ps⟩=>(Pp p++Po ps).filter (fun s=>!(s==[118]))++YE o ns 0 xs
def YE(o:Int)(ns:List ag):Nat->List ae->List ag
 |_,[]=>[]
 |i,a::xs=>(vT a).filter (fun s=>!decide (s∈Ey o ns i))++YE o ns (i+1) xs
end
theorem qbM(t:ae):vT t=(Pp t.Pred++Po t.Preds).filter (fun s=>!(s==[118]))++YE t.Op t.Names 0 t.Args:=by obtain⟨o,n,xs,ns,p,ps⟩:=t;rw[vT];rfl
mutual
def wT:ae->Nat
 |⟨_,_,xs,_,p,ps⟩=>nP p+nL ps+sU xs
def sU:List ae->Nat
 |[]=>0
 |a::xs=>wT a+sU xs
end
theorem uo(t:ae):wT t=nP t.Pred+nL t.Preds+sU t.Args:=by obtain⟨o,n,xs,ns,p,ps⟩:=t;rw[wT];rfl
theorem Pj:∀{l:List ae} {x:ae},x∈l->wT x<=sU l
 | y :: l,x,h => by
  rw[sU]
  rcases vaA.1 h with rfl|h
  ·omega
  ·have:=Pj h;omega
theorem YK{t a:ae}(h:a∈t.Args):wT a<=wT t:=by rw[uo t];have:=Pj h;omega
theorem Lc(l:List ae)(i:Nat)(h:i<l.length):sU (l.take (i+1))=sU (l.take i)+wT l[i]:=by
 have key:∀(a b:List ae),sU (a++b)=sU a+sU b:=by
  intro a b
  induction a with
  |nil=>simp[sU]
  |cons x a ih=>rw[vaF,sU,sU,ih];omega
 rw[vaS h,key]
 simp[sU]
theorem Hu:∀(l:List ae) (i:Nat),sU (l.take i)<=sU l
 |[],i=>by simp
 |x::l,0=>by simp[sU]
 |x::l,i+1=>by rw[List.take_succ_cons,sU,sU];have:=Hu l i;omega
mutual
theorem Xc:∀(t:ae),(vT t).length<=wT t
 |⟨o,n,xs,ns,p,ps⟩=>by
  have h1:=TD o ns 0 xs
  have h2:=IY p
  have h3:=Ph ps
  have h4:=vbb (fun s=>!(s==[118])) (Pp p++Po ps)
  rw[vT,wT,vae]
  rw[vae]at h4
  omega
theorem TD(o:Int)(ns:List ag):∀(i:Nat) (l:List ae),(YE o ns i l).length<=sU l
 |i,[]=>by simp[YE]
 |i,a::xs=>by
  have h1:=Xc a
  have h2:=TD o ns (i+1) xs
  have h3:=vbb (fun s=>!decide (s∈Ey o ns i)) (vT a)
  rw[YE,sU,vae]
  omega
end
def freeT(t:ae):List ag:=IH (vT t) []
theorem Ug{t:ae}{x:ag}:x∈freeT t↔x∈vT t:=by unfold freeT;rw[Ft];simp
theorem wW(t:ae):(freeT t).length<=wT t:=by
 have h1:=QY (vT t) []
 have h2:=Xc t
 unfold freeT
 simp at h1
 omega
theorem TE{o:Int}{ns:List ag}{x:ag}:∀{l:List ae} {i:Nat},x∈YE o ns i l↔∃(j:Nat) (h:j<l.length),x∈vT l[j]/\x∉Ey o ns (i+j)
 |[],i=>by simp[YE]
 | a :: l,i => by
  rw[YE,vaE,TE]
  simp only[vaT,va3,vbm]
  constructor
  ·rintro(h|⟨j,hj,h1,h2⟩)
   ·exact⟨0,by simp,by simpa using h⟩
   ·exact⟨j+1,by simp;omega,by simpa using h1,by rw[show i+(j+1)=i+1+j by omega];exact h2⟩
  ·rintro⟨j,hj,h1,h2⟩
   cases j with
   |zero=>exact .inl ⟨by simpa using h1,by simpa using h2⟩
   |succ j=>exact .inr ⟨j,by simp at hj;omega,by simpa using h1,by rw[show i+1+j=i+(j+1) by omega];exact h2⟩
theorem Ys{α:Type}(l:List α)(i:Nat)(hl:l.length<9223372036854775808):Ld l none (some (if(l.length:Int)<(i:Int)then(l.length:Int)else(i:Int)))=some (l.take i):=by
 by_cases h:l.length<i
 ·rw[vak (by omega),Sy l l.length (vah _),vbx (vah _),vbx (by omega)]
 ·rw[van (by omega),Sy l i (by omega)]
theorem TU(t:ae)(i:Nat)(h:t.Names.length<9223372036854775808):kS t i=some (Ey t.Op t.Names i):=by
 unfold kS Ey
 by_cases ho:t.Op=6
 ·rw[van (by simpa using ho),Ys _ i h,vak ho]
  rfl
 ·rw[vak (by simpa using ho),van ho]
theorem Gk(f:ag->Bool):∀(l a:List ag),l.foldl (fun s x=>if f x=true then s++[x]else s) a=a++l.filter f
 |[],a=>by simp
 |x::l,a=>by
  rw[List.foldl_cons,Gk f l]
  by_cases h:f x=true<;>simp[h]
theorem Kg{α:Type}(f:α->List ag):∀(l:List α) (a:List ag),l.foldl (fun s x=>s++f x) a=a++l.flatMap f
 |[],a=>by simp
 |x::l,a=>by rw[List.foldl_cons,Kg f l,vck,vbe]
theorem MQ{α:Type}(f:Nat->α->List ag):∀(l:List α) (i:Nat) (a:List ag) (x:ag),x∈tR (fun i y s=>s++f i y) l i a↔x∈a\/∃(j:Nat) (h:j<l.length),x∈f (i+j) l[j]
 |[],i,a,x=>by simp[tR]
 | y :: l,i,a,x => by
  rw[tR,MQ f l (i+1),vaE,or_assoc]
  refine or_congr_right ⟨?_,?_⟩
  ·rintro(h|⟨j,hj,h⟩)
   ·exact⟨0,by simp,by simpa using h⟩
   ·exact⟨j+1,by simp;omega,by rw[show i+(j+1)=i+1+j by omega];simpa using h⟩
  ·rintro⟨j,hj,h⟩
   cases j with
   |zero=>exact .inl (by simpa using h)
   |succ j=>exact .inr ⟨j,by simp at hj;omega,by rw[show i+1+j=i+(j+1) by omega];simpa using h⟩
theorem UQ(l out:List ag)(h:out.length+l.length<=1073741824):jD l (l.length:Int) out 0=some (out++l.filter (fun s=>!(s==[118]))):=by
 unfold jD
 rw[pH l (by omega) (fun i s=>(s,i)) _ (fun i s x=>if(!(x==([118]:ag)))=true then(app s ([x]:List ag)).bind fun l8=>some (.inl (l8,aR (i+1)))else some (.inl (s,aR (i+1)))) (fun i s=>s.length<=out.length+i) (fun x s=>if(!(x==[118]))=true then s++[x]else s) id out (by simp) (fun i s=>rfl) (fun i hi s hs=>?_),Gk]
 ·rfl
 ·refine⟨?_,by split<;>(try rw[vae,List.length_singleton])<;>omega⟩
  by_cases hx:(!(l[i]==([118]:ag)))=true
  ·rw[vak hx,vak hx,dR (by simp;omega)]
   rfl
  ·rw[van hx,van hx]
theorem UR(b l out:List ag)(hb:b.length<9223372036854775808)(h:out.length+l.length<=1073741824):jE b l (l.length:Int) out 0=some (out++l.filter (fun s=>!decide (s∈b))):=by
 unfold jE
 rw[pH l (by omega) (fun i s=>(s,i)) _ (fun i s x=>(eH b x).bind fun r17=>if(!r17)=true then(app s ([x]:List ag)).bind fun l8=>some (.inl (l8,aR (i+1)))else some (.inl (s,aR (i+1)))) (fun i s=>s.length<=out.length+i) (fun x s=>if(!decide (x∈b))=true then s++[x]else s) id out (by simp) (fun i s=>rfl) (fun i hi s hs=>?_),Gk]
 ·rfl
 ·refine⟨?_,by split<;>(try rw[vae,List.length_singleton])<;>omega⟩
  rw[uT b _ hb]
  simp only[vaa]
  by_cases hx:(!decide (l[i]∈b))=true
  ·rw[vak hx,vak hx,dR (by simp;omega)]
   rfl
  ·rw[van hx,van hx]
theorem UW{p:aa}{ps:List aa}{x:ag}:(∃q∈[p]++ps,x∈Pp q)↔x∈Pp p++Po ps:=by
 rw[vaE,TF]
 simp
theorem ZX(p:aa)(ps:List aa):nL ([p]++ps)=nP p+nL ps:=by
 rw[xd];simp[nL]
theorem US(t:ae)(hw:wT t<=200000000)(hl:cu t<=200000000):yJ t=some (freeT t):=by
 refine kf (F:=ue) cu (fun x=>wT x<=200000000/\cu x<=200000000) freeT (fun R x hx ih=>?_) t ⟨hw,hl⟩ (f6 (by unfold bz;omega))
 obtain⟨hw,hl⟩:=hx
 show oP (fun t=>R t) x=_
 have h1:=iO x
 have h2:=j3 x
 have h3:=GJ x
 have hwe:=uo x
 have hn1:=ZX x.Pred x.Preds
 unfold oP
 rw[dR (by simp;omega)]
 simp only[vaa]
 unfold rG
 rw[pH ([x.Pred]++x.Preds) (by simp;omega) (fun i s=>(s,i)) _ (fun i s y=>(pO y).bind fun r4=>(jD r4 (r4.length:Int) s 0).bind fun o9=>some (.inl (o9,aR (i+1)))) (fun i s=>s.length<=nL (([x.Pred]++x.Preds).take i)) (fun y s=>s++(kK y).filter (fun s=>!(s==[118]))) id [] (by simp[nL]) (fun i s=>rfl) (fun i hi s hs=>?_),Kg]
 ·simp only[id,vaa,vaD]
  have hlen0:∀(l:List aa),(l.flatMap fun y=>(kK y).filter (fun s=>!(s==[118]))).length<=nL l:=by
   intro l
   induction l with
   |nil=>simp[nL]
   |cons y l ih=>
    have g1:=vbb (fun s=>!(s==[118])) (kK y)
    have g2:=BM y
    rw[vck,vae,nL]
    omega
  have hlen:=hlen0 ([x.Pred]++x.Preds)
  have hmem:∀z,z∈(([x.Pred]++x.Preds).flatMap fun y=>(kK y).filter (fun s=>!(s==[118])))↔z∈(Pp x.Pred++Po x.Preds).filter (fun s=>!(s==[118])):=by
   intro z
   rw[vcQ,vaT,<-UW]
   simp only[vaT,MR]
   constructor
   ·rintro⟨y,hy,h,h'⟩;exact⟨⟨y,hy,h⟩,h'⟩
   ·rintro⟨⟨y,hy,h⟩,h'⟩;exact⟨y,hy,h,h'⟩
  generalize (([x.Pred]++x.Preds).flatMap fun y=>(kK y).filter (fun s=>!(s==[118])))=o10 at hlen hmem
  unfold rH
  have hI:∀(i:Nat) (h:i<x.Args.length) (s:List ag),s.length<=o10.length+sU (x.Args.take i)->(s++(freeT x.Args[i]).filter (fun z=>!decide (z∈Ey x.Op x.Names i))).length<=o10.length+sU (x.Args.take (i+1)):=fun i h s hs=>by
   have g1:=vbb (fun z=>!decide (z∈Ey x.Op x.Names i)) (freeT x.Args[i])
   have g2:=wW x.Args[i]
   have g3:=Lc x.Args i h
   rw[vae];omega
  rw[Sc x.Args (by omega) (fun i s=>(s,i)) _ (fun i s y=>(kS x i).bind fun r13=>(R y).bind fun r14=>(jE r13 r14 (r14.length:Int) s 0).bind fun o20=>some (.inl (o20,aR (i+1)))) (fun i s=>s.length<=o10.length+sU (x.Args.take i)) (fun i y s=>s++(freeT y).filter (fun z=>!decide (z∈Ey x.Op x.Names i))) id o10 (by simp[sU]) (fun i s=>rfl) (fun i hi s hs=>⟨?_,hI i hi s hs⟩)]
  ·simp only[id,vaa]
   have hlast:(tR (fun i y s=>s++(freeT y).filter (fun z=>!decide (z∈Ey x.Op x.Names i))) x.Args 0 o10).length<=o10.length+sU x.Args:=by
    have key:∀(l:List ae) (i:Nat) (a:List ag),(tR (fun i y s=>s++(freeT y).filter (fun z=>!decide (z∈Ey x.Op x.Names i))) l i a).length<=a.length+sU l:=by
     intro l
     induction l with
     |nil=>intro i a;simp[tR]
     |cons y l ih=>
      intro i a
      have g1:=vbb (fun z=>!decide (z∈Ey x.Op x.Names i)) (freeT y)
      have g2:=wW y
      have g3:=ih (i+1) (a++(freeT y).filter (fun z=>!decide (z∈Ey x.Op x.Names i)))
      rw[tR,sU]
      rw[vae]at g3
      omega
    exact key x.Args 0 o10
   rw[A1 _ _ (by simp;exact vaI hlast (by omega))]
   simp only[vaa]
   congr 1
   refine W4 fun z=>?_
   rw[MQ,qbM,vaE,hmem,TE]
   simp only[vaT,Ug,va3,vbm,vaJ,or_false]
  ·have hm:=vat hi
   have g2:=wW x.Args[i]
   have g3:=Lc x.Args i hi
   have g4:=Hu x.Args (i+1)
   have g5:=je hm
   have g6:=YK hm
   rw[TU x i (by omega)]
   simp only[vaa]
   rw[ih _ g5 ⟨by omega,by omega⟩]
   simp only[vaa]
   have hbl:(Ey x.Op x.Names i).length<9223372036854775808:=by
    unfold Ey
    split
    ·rw[vaM];omega
    ·simp
   rw[UR _ _ _ hbl (by omega)]
   rfl
 ·have hm:=vat hi
  have g1:=EZ ([x.Pred]++x.Preds) i hi
  have g2:=yC ([x.Pred]++x.Preds) (i+1)
  have g3:=BM ([x.Pred]++x.Preds)[i]
  have g4:=vbb (fun s=>!(s==[118])) (kK ([x.Pred]++x.Preds)[i])
  refine⟨?_,by rw[vae];omega⟩
  rw[Qx _ (by omega)]
  simp only[vaa]
  rw[UQ _ _ (by omega)]
  rfl
theorem Ql{σ τ X:Type}(n:Nat)(hn:n<9223372036854775808)(mk:Int->σ->τ)(body:τ->Option (τ⊕X))(F:Nat->σ)(y:X)
  (hin:∀i,i<n->body (mk (i:Int) (F i))=some (.inl (mk (aR ((i:Int)+1)) (F (i+1))))) (hend:body (mk (n:Int) (F n))=some (.inr y)):loop body (mk 0 (F 0))=some y:=by
 have key:∀k i,k+i=n->loop body (mk (i:Int) (F i))=some y:=by
  intro k
  induction k with
  |zero=>
   intro i hi
   have:i=n:=by omega
   subst this
   exact j2 hend
  |succ k ih=>
   intro i hi
   rw[pI (hin i (by omega)),dB (by omega) (by omega),show((i:Int)+1)=((i+1:Nat):Int) by omega]
   exact ih (i+1) (by omega)
 exact key n 0 (by omega)
abbrev Sb:Type:=List (ag×aa)
abbrev kN(c:Sb):List ag:=c.map (·.1)
abbrev kB(c:Sb):List aa:=c.map (·.2)
def nG(x:ag):aa:=⟨3,x,0,[]⟩
def fl(x:ag)(c:Sb):Sb:=c.filter (fun e=>!(e.1==x))
def Of(x:ag)(c:Sb):Bool:=c.any (fun e=>decide (x∈Pp e.2))
abbrev S3:Type:=List ag×Sb×List ag
def CE(o:Int)(ns:List ag)(i:Nat)(s:S3):S3:=
 if o=6/\i<ns.length then
  if Of (ns.getD i []) (fl (ns.getD i []) s.2.1)=true then
   (s.1++[fq s.1 (ns.getD i [])],fl (ns.getD i []) s.2.1++[(ns.getD i [],nG (fq s.1 (ns.getD i [])))],s.2.2.set i (fq s.1 (ns.getD i [])))
  else(s.1,fl (ns.getD i []) s.2.1,s.2.2)
 else s
mutual
def Ce:ae->Sb->ae
 |⟨o,n,xs,ns,p,ps⟩,c=>
  ⟨o,n,(Im o ns 0 xs (((kB c).flatMap kK++freeT ⟨o,n,xs,ns,p,ps⟩)++ns,c,ns)).1,(Im o ns 0 xs (((kB c).flatMap kK++freeT ⟨o,n,xs,ns,p,ps⟩)++ns,c,ns)).2,Ht (tU (kN c) (kB c)) p,ps.map (Ht (tU (kN c) (kB c)))⟩
def Im(o:Int)(ns:List ag):Nat->List ae->S3->List ae×List ag
 |_,[],s=>([],s.2.2)
 |i,a::xs,s=>(Ce a s.2.1::(Im o ns (i+1) xs (CE o ns i s)).1,(Im o ns (i+1) xs (CE o ns i s)).2)
end
def pf(o:Int)(ns:List ag)(s:S3):Nat->S3
 |0=>s
 |i+1=>CE o ns i (pf o ns s i)
def dq(t:ae)(c:Sb):S3:=(((kB c).flatMap kK++freeT t)++t.Names,c,t.Names)
theorem VD(o:Int)(ns:List ag)(s:S3):∀(xs:List ae) (i:Nat),Im o ns i xs (pf o ns s i)=((xs.zipIdx i).map (fun y=>Ce y.1 (pf o ns s y.2).2.1),(pf o ns s (i+xs.length)).2.2)
 |[],i=>by rw[Im];rfl
 |a::xs,i=>by
  have ih:=VD o ns s xs (i+1)
  rw[Im,show CE o ns i (pf o ns s i)=pf o ns s (i+1)from rfl,ih,List.zipIdx_cons,vax,vaN,show i+1+xs.length=i+(xs.length+1) by omega]
theorem RA(t:ae)(c:Sb):Ce t c=⟨t.Op,t.Name,(t.Args.zipIdx).map (fun y=>Ce y.1 (pf t.Op t.Names (dq t c) y.2).2.1),(pf t.Op t.Names (dq t c) t.Args.length).2.2,Ht (tU (kN c) (kB c)) t.Pred,t.Preds.map (Ht (tU (kN c) (kB c)))⟩:=by
 obtain⟨o,n,xs,ns,p,ps⟩:=t
 have h:=VD o ns (dq ⟨o,n,xs,ns,p,ps⟩ c) xs 0
 rw[show pf o ns (dq ⟨o,n,xs,ns,p,ps⟩ c) 0=(((kB c).flatMap kK++freeT ⟨o,n,xs,ns,p,ps⟩)++ns,c,ns)from rfl,vaK]at h
 rw[Ce,h]
 rfl
def VB(t:ae)(c:Sb)(i:Nat):List ae:=((t.Args.take i).zipIdx).map (fun y=>Ce y.1 (pf t.Op t.Names (dq t c) y.2).2.1)
theorem VC(t:ae)(c:Sb)(i:Nat)(h:i<t.Args.length):VB t c (i+1)=VB t c i++[Ce t.Args[i] (pf t.Op t.Names (dq t c) i).2.1]:=by
 unfold VB
 rw[vaS h,List.zipIdx_append,vbG,vaM]
 rw[show min i t.Args.length=i by omega]
 simp[List.zipIdx_cons]
theorem XK(t:ae)(c:Sb)(i:Nat)(h:i<=t.Args.length):(VB t c i).length=i:=by
 unfold VB
 rw[vaL,List.length_zipIdx,vaM]
 omega
theorem XJ(t:ae)(c:Sb):VB t c t.Args.length=(t.Args.zipIdx).map (fun y=>Ce y.1 (pf t.Op t.Names (dq t c) y.2).2.1):=by
 unfold VB
 rw[vbx (vah _)]
theorem OH(x:ag):∀(c:Sb),kN (fl x c)=(kN c).filter (fun n=>!(n==x))
 |[]=>rfl
 | e :: c => by
  have ih:=OH x c
  unfold fl kN at ih ⊢
  rw[vbi,vax,vbi]
  split
  ·rw[vax,ih]
  ·exact ih
theorem VW(x:ag)(c:Sb):x∉kN (fl x c):=by rw[OH];simp
theorem Dt{x:ag}{c:Sb}(h:(kN c).Nodup):(kN (fl x c)).Nodup:=by rw[OH];exact h.filter _
theorem RL(x:ag)(c:Sb):fl x (fl x c)=fl x c:=by
 unfold fl
 rw[vb7]
 congr 1
 funext e
 cases(e.1==x)<;>rfl
theorem OR(x:ag):∀(c:Sb),nL (kB (fl x c))<=nL (kB c)
 |[]=>by simp[fl,kB]
 | e :: c => by
  have ih:=OR x c
  unfold fl kB at ih ⊢
  rw[vbi]
  split
  ·rw[vax,vax,nL,nL];omega
  ·rw[vax,nL];omega
theorem RZ(c:Sb):c.length<=nL (kB c):=by
 have:=DE (kB c)
 rwa[vaL]at this
theorem A0(x:ag):nP (nG x)=1:=by simp[nG,nP,nL]
theorem X2(c:Sb)(e:ag×aa):nL (kB (c++[e]))=nL (kB c)+nP e.2:=by
 unfold kB
 rw[vbG,xd];simp[nL]
theorem Ge(o:Int)(ns:List ag)(s:S3)(h:(kN s.2.1).Nodup):∀i,(kN (pf o ns s i).2.1).Nodup
 |0=>h
 | i + 1 => by
  have ih:=Ge o ns s h i
  show(kN (CE o ns i (pf o ns s i)).2.1).Nodup
  unfold CE
  split
  ·split
   ·unfold kN
    rw[vbG]
    simp only[vax,vbU]
    rw[List.nodup_append]
    refine⟨Dt ih,by simp,fun a ha b hb=>?_⟩
    rw[va4]at hb
    subst hb
    exact fun e=>VW _ _ (e▸ha)
   ·exact Dt ih
  ·exact ih
theorem VG(o:Int)(ns:List ag)(s:S3):∀i,nL (kB (pf o ns s i).2.1)<=nL (kB s.2.1)+min i ns.length
 |0=>by simp[pf]
 | i + 1 => by
  have ih:=VG o ns s i
  show nL (kB (CE o ns i (pf o ns s i)).2.1)<=_
  have hd:=OR (ns.getD i []) (pf o ns s i).2.1
  unfold CE
  split
  ·rename_i hc
   split
   ·show nL (kB (fl (ns.getD i []) (pf o ns s i).2.1++[(ns.getD i [],nG (fq (pf o ns s i).1 (ns.getD i [])))]))<=_
    rw[X2,A0]
    omega
   ·show nL (kB (fl (ns.getD i []) (pf o ns s i).2.1))<=_
    omega
  ·omega
theorem VI(o:Int)(ns:List ag)(s:S3):∀i,(pf o ns s i).1.length<=s.1.length+i
 |0=>by simp[pf]
 | i + 1 => by
  have ih:=VI o ns s i
  show(CE o ns i (pf o ns s i)).1.length<=_
  unfold CE
  split
  ·split
   ·simp only[vae,List.length_singleton];omega
   ·simp only;omega
  ·omega
theorem VJ(o:Int)(ns:List ag)(s:S3):∀i,(pf o ns s i).2.2.length=s.2.2.length
 |0=>rfl
 | i + 1 => by
  have ih:=VJ o ns s i
  show(CE o ns i (pf o ns s i)).2.2.length=_
  unfold CE
  split
  ·split
   ·simp only[vbw];exact ih
   ·exact ih
  ·exact ih
theorem BL:∀(l:List aa),(l.flatMap kK).length<=nL l
 |[]=>by simp[nL]
 |p::l=>by
  have:=BL l
  have:=BM p
  rw[vck,vae,nL];omega
theorem TB(t:ae)(c:Sb):(dq t c).1.length<=nL (kB c)+wT t+cu t:=by
 have h1:=BL (kB c)
 have h2:=wW t
 have h3:=j3 t
 unfold dq
 simp only[vae]
 omega
theorem RF(x:ag)(c:Sb):decide (x∈(kB c).flatMap kK)=Of x c:=by
 unfold Of
 rw[vb2,vam,vbo,vcQ]
 simp only[MR,vam,kB,vap]
 constructor
 ·rintro⟨p,⟨e,he,rfl⟩,h⟩;exact⟨e,he,h⟩
 ·rintro⟨e,he,h⟩;exact⟨e.2,⟨e,he,rfl⟩,h⟩
theorem RU{α:Type}(n:Nat)(l:List α)(i:Nat)(h:i<n)(h2:i<l.length):Vc n l (i:Int)=some l[i]:=by
 unfold Vc
 rw[vak ⟨by omega,by omega⟩]
 simp[h2]
theorem Xa{α:Type}(l:List α)(i:Nat)(x:α)(h:i<l.length):qae l (i:Int) x=some (l.set i x):=by
 unfold qae
 rw[vak ⟨by omega,by omega⟩]
 rfl
theorem RR{α:Type}(n:Nat)(l:List α)(h:n=l.length):Y2 n l=some l:=vak h
theorem IT(ns:List ag)(i:Nat)(h:i<ns.length):ns.getD i []=ns[i]:=by simp[h]
theorem MM:∀(k u:Nat),u<10 ^ (k+1)->(Lib.decDigits u).length<=k+1
 |0,u,h=>by
  rw[Lib.decDigits,dif_pos (by omega)];simp
 | k + 1,u,h => by
  rw[Lib.decDigits]
  by_cases h10:u<10
  ·rw[dif_pos h10];simp
  ·rw[dif_neg h10]
   have:=MM k (u / 10) (by
    have:10 ^ (k+1+1)=10 ^ (k+1) * 10:=Nat.pow_succ ..
    omega)
   simp only[vae,List.length_singleton]
   omega
theorem Kd(used:List ag)(base:ag):∀(k n:Nat),n+k<=100000002->(kJ used base k n).length<=base.length+10
 |0,n,_=>by rw[kJ];simp
 | k + 1,n,h => by
  rw[kJ]
  split
  ·exact Kd used base k (n+1) (by omega)
  ·rw[vae]
   have:=MM 8 n (by omega)
   omega
theorem RQ(used:List ag)(base:ag):(fq used base).length<=base.length+10:=by
 unfold fq
 split
 ·exact Kd used base 100000001 1 (by omega)
 ·omega
mutual
def uq(L:Nat):ae->Prop
 |⟨_,_,xs,ns,_,_⟩=>(∀s∈ns,s.length<=L)/\rQ L xs
def rQ(L:Nat):List ae->Prop
 |[]=>True
 |a::xs=>uq L a/\rQ L xs
end
theorem wK(L:Nat)(t:ae):uq L t↔(∀s∈t.Names,s.length<=L)/\rQ L t.Args:=by obtain⟨o,n,xs,ns,p,ps⟩:=t;rw[uq];rfl
theorem BD(L:Nat):∀(l:List ae),rQ L l↔∀t∈l,uq L t
 |[]=>by simp[rQ]
 |a::l=>by rw[rQ,BD L l];simp
theorem Vm{L:Nat}{t a:ae}(h:uq L t)(ha:a∈t.Args):uq L a:=(BD L _).1 ((wK L t).1 h).2 a ha
mutual
theorem BE{L M:Nat}(h:L<=M):∀(t:ae),uq L t->uq M t
 |⟨_,_,xs,ns,_,_⟩,ht=>by
  rw[uq]at ht ⊢
  exact⟨fun s hs=>vaI (ht.1 s hs) h,JP h xs ht.2⟩
theorem JP{L M:Nat}(h:L<=M):∀(l:List ae),rQ L l->rQ M l
 |[],_=>trivial
 |a::xs,hl=>by
  rw[rQ]at hl ⊢
  exact⟨BE h a hl.1,JP h xs hl.2⟩
end
theorem Yv{ns:List ag}{s:ag}(h:s∈ns):s.length<=bM (ns.map cS):=by
 have h2:=ua (vap.2 ⟨s,h,rfl⟩:cS s∈ns.map cS)
 simp only[cS,fx,pm]at h2
 omega
mutual
theorem Eo(B:Nat):∀(t:ae),fx (af t)<=B->uq B t
 |⟨o,n,xs,ns,p,ps⟩,h=>by
  rw[xh]at h
  have h:1+(pm (.str n)+(pm (sl af xs)+(pm (sl cS ns)+(1+(pm (.str p.Name)+(1+(pm (sl ac p.Kids)+(pm (sl ac ps)+0))))))))<=B:=h
  simp only[pm,sl]at h
  rw[uq]
  exact⟨fun s hs=>by have:=Yv hs;omega,PJ B xs (by omega)⟩
theorem PJ(B:Nat):∀(l:List ae),bM (l.map af)<=B->rQ B l
 |[],_=>trivial
 |a::xs,h=>by
  simp only[vax,bM]at h
  rw[rQ]
  exact⟨Eo B a (by omega),PJ B xs (by omega)⟩
end
theorem FA:∀(c:Sb),(kN c).zip (kB c)=c
 |[]=>rfl
 |e::c=>by
  have ih:=FA c
  unfold kN kB at ih ⊢
  rw[vax,vax,List.zip_cons_cons,ih]
def FC(hid:List ag)(c:Sb):Sb:=c.foldl (fun o e=>if e.1∈hid\/e.1∈kN o then o else o++[e]) []
theorem Xf(hid:List ag)(c:Sb)(i:Nat)(h:i<c.length):FC hid (c.take (i+1))=if c[i].1∈hid\/c[i].1∈kN (FC hid (c.take i))then FC hid (c.take i)else FC hid (c.take i)++[c[i]]:=by
 unfold FC
 rw[vaS h,vch]
 rfl
theorem YH(hid:List ag):∀(c:Sb),(FC hid c).length<=c.length:=by
 have key:∀(c o:Sb),(c.foldl (fun o e=>if e.1∈hid\/e.1∈kN o then o else o++[e]) o).length<=o.length+c.length:=by
  intro c
  induction c with
  |nil=>intro o;simp
  | cons e c ih =>
   intro o
   rw[List.foldl_cons,vaN]
   refine vaI (ih _) ?_
   split
   ·omega
   ·rw[vae,List.length_singleton];omega
 intro c
 have:=key c []
 simpa[FC]using this
theorem YI{x:ag}{c:Sb}(h:(kN c).Nodup):FC [x] c=fl x c:=by
 have key:∀(c o:Sb),(kN c).Nodup->(∀e∈c,e.1∉kN o)->c.foldl (fun o e=>if e.1∈[x]\/e.1∈kN o then o else o++[e]) o=o++fl x c:=by
  intro c
  induction c with
  |nil=>intro o _ _;simp[fl]
  | cons e c ih =>
   intro o hn ho
   unfold kN at hn
   rw[vax,vbM]at hn
   have h1:=ho e (by simp)
   rw[List.foldl_cons]
   by_cases hx:e.1=x
   ·rw[vak (.inl (by simp[hx])),ih o hn.2 (fun e' he'=>ho e' (by simp[he']))]
    unfold fl
    rw[vbi,van (by simp[hx])]
   ·rw[van (by simp only[va4];rintro(h|h);exact hx h;exact h1 h)]
    rw[ih (o++[e]) hn.2 (fun e' he' hm=>by
     unfold kN at hm
     rw[vbG,vaE]at hm
     rcases hm with hm|hm
     ·exact ho e' (by simp[he']) hm
     ·simp only[vax,vbU,va4]at hm
      exact hn.1 (vap.2 ⟨e',he',hm⟩))]
    unfold fl
    rw[vbi,vak (by simpa using hx),vbe]
    rfl
 have:=key c [] h (fun e _=>by simp)
 simpa[FC]using this
theorem Hs(hid:List ag)(c:Sb)(hh:hid.length<9223372036854775808)(hc:c.length<=1000000000):bQ ⟨kN c,kB c⟩ hid=some ⟨kN (FC hid c),kB (FC hid c)⟩:=by
 unfold bQ eK
 have hl:(kN c).length=c.length:=vaL ..
 have:=Ql c.length (by omega) (fun i (s:List ag×List aa)=>(i,s.1,s.2)) (fun(zz:Int×(List ag)×(List aa))=>bH hid ⟨kN c,kB c⟩ (kN c) ((kN c).length:Int) zz.1 zz.2.1 zz.2.2)
  (fun i=>(kN (FC hid (c.take i)),kB (FC hid (c.take i)))) (kN (FC hid c),kB (FC hid c)) (fun i hi=>?_) ?_
 ·rw[show(FC hid (c.take 0))=[]from rfl]at this
  rw[show(((0:Int),([]:List ag),([]:List aa)):Int×(List ag)×(List aa))=(0,kN [],kB [])from rfl,this]
  rfl
 ·show bH hid ⟨kN c,kB c⟩ (kN c) ((kN c).length:Int) (i:Int) (kN (FC hid (c.take i))) (kB (FC hid (c.take i)))=_
  unfold bH eJ
  have hw:=YH hid (c.take i)
  rw[vaM]at hw
  have hkl:(kN (FC hid (c.take i))).length=(FC hid (c.take i)).length:=vaL ..
  have hkb:(kB (FC hid (c.take i))).length=(FC hid (c.take i)).length:=vaL ..
  rw[vak (by simp;omega),bv (kN c) i (by omega)]
  simp only[vaa]
  rw[uT hid _ hh,uT (kN (FC hid (c.take i))) _ (by omega)]
  simp only[vaa]
  have hg:(kN c)[i]'(by omega)=c[i].1:=by simp[kN]
  have hb:(kB c)[i]'(by simp[kB];omega)=c[i].2:=by simp[kB]
  rw[hg,Xf hid c i hi]
  by_cases h1:c[i].1∈hid
  ·simp only[h1,decide_true,vcM,va5,if_false,vaa,true_or,if_true]
  ·by_cases h2:c[i].1∈kN (FC hid (c.take i))
   ·simp only[h1,h2,decide_false,decide_true,vcA,vcM,va5,if_false,vaa,or_true,if_true]
   ·simp only[h1,h2,decide_false,vcA,if_true,vaa,or_self,if_false]
    rw[dR (by simp;omega)]
    simp only[vaa]
    rw[bv (kB c) i (by simp[kB];omega)]
    simp only[vaa,hb]
    rw[dR (by simp;omega)]
    simp[kN,kB]
 ·show bH hid ⟨kN c,kB c⟩ (kN c) ((kN c).length:Int) (c.length:Int) (kN (FC hid (c.take c.length))) (kB (FC hid (c.take c.length)))=_
  unfold bH
  rw[van (by simp),vbx (vah _)]
theorem WV(x:ag)(c:Sb)(hn:(kN c).Nodup)(hc:c.length<=1000000000):bQ ⟨kN c,kB c⟩ [x]=some ⟨kN (fl x c),kB (fl x c)⟩:=by
 rw[Hs [x] c (by simp) hc,YI hn]
theorem WU(x:ag)(q:aa)(c:Sb)(hn:(kN c).Nodup)(hc:c.length<=1000000000):eN ⟨kN (fl x c),kB (fl x c)⟩ x q=some ⟨kN (fl x c++[(x,q)]),kB (fl x c++[(x,q)])⟩:=by
 unfold eN
 have hd:(fl x c).length<=c.length:=vbb ..
 rw[WV x _ (Dt hn) (by omega),RL]
 simp only[vaa]
 have h1:(kN (fl x c)).length=(fl x c).length:=vaL ..
 have h2:(kB (fl x c)).length=(fl x c).length:=vaL ..
 rw[dR (by simp;omega)]
 simp only[vaa]
 rw[dR (by simp;omega)]
 simp[kN,kB]
theorem Ng(ns:List ag)(bs:List aa)(h:nL bs<=400000000):dD ⟨ns,bs⟩=some (bs.flatMap kK):=by
 unfold dD fL
 have hl:=DE bs
 show(loop (fun(zz:(List ag)×Int)=>eZ bs (bs.length:Int) zz.1 zz.2) ([],0)).bind _=_
 rw[pH bs (by omega) (fun i s=>(s,i)) _ (fun i s x=>(pO x).bind fun r3=>(app s r3).bind fun l4=>some (.inl (l4,aR (i+1)))) (fun i s=>s.length<=nL (bs.take i)) (fun x s=>s++kK x) id [] (by simp[nL]) (fun i s=>rfl) (fun i hi s hs=>?_),Kg]
 ·rfl
 ·have h1:=EZ bs i hi
  have h2:=yC bs (i+1)
  have h3:=BM bs[i]
  refine⟨?_,by rw[vae];omega⟩
  rw[Qx _ (by omega)]
  simp only[vaa]
  rw[dR (by omega)]
  rfl
structure X5(t:ae)(c:Sb):Prop where
 nd:(kN c).Nodup
 sz:nL (kB c)+cu t<=20000000
 w:wT t<=20000000
 n:uq 1000000000000000 t
theorem ZT{c:Sb}{q:aa}(h:q∈kB c):nP q<=nL (kB c):=Gu h
theorem qbt{t:ae}:nP t.Pred<=wT t:=by rw[uo];omega
theorem QJ{t:ae}{q:aa}(h:q∈t.Preds):nP q<=wT t:=by rw[uo];have:=Gu h;omega
theorem Th{t:ae}{c:Sb}(h:X5 t c)(i:Nat)(hi:i<t.Args.length):X5 t.Args[i] (pf t.Op t.Names (dq t c) i).2.1 where
 nd:=Ge _ _ _ h.nd i
 sz:=by
  have h1:=VG t.Op t.Names (dq t c) i
  have h2:=qp t
  have h3:=Gl (vat hi)
  have h4:=h.sz
  show nL (kB (pf t.Op t.Names (dq t c) i).2.1)+cu t.Args[i]<=20000000
  have h5:nL (kB (dq t c).2.1)=nL (kB c):=rfl
  omega
 w:=vaI (YK (vat hi)) h.w
 n:=Vm h.n (vat hi)
theorem GK(c:Sb)(p:aa)(hp:nP p<=bz)(hc:nL (kB c)<=bz):cH ⟨kN c,kB c⟩ p=some (Ht (tU (kN c) (kB c)) p):=by
 unfold cH
 have:=RZ c
 have h1:(kN c).length=c.length:=vaL ..
 rw[O5 p (kN c) (kB c) hp (by unfold bz at hc;omega) (fun q hq=>vaI (ZT hq) hc)]
 rfl
theorem KU(c:Sb)(l:List aa)(hl:l.length<=1073741824)(hp:∀p∈l,nP p<=bz)(hc:nL (kB c)<=bz):kT l ⟨kN c,kB c⟩=some (l.map (Ht (tU (kN c) (kB c)))):=by
 unfold kT oU
 rw[w9 l hl (fun i s=>(s,i)) _ (fun y=>cH ⟨kN c,kB c⟩ y) (Ht (tU (kN c) (kB c))) id (fun i s=>rfl) (fun y hy=>GK c y (hp y hy) hc)]
 rfl
theorem VE{o:Int}(ho:o≠6)(ns:List ag)(s:S3):∀i,pf o ns s i=s
 |0=>rfl
 |i+1=>by
  show CE o ns i (pf o ns s i)=s
  rw[VE ho ns s i]
  unfold CE
  rw[van (fun h=>ho h.1)]
theorem CY{α β:Type}(f:α->β):∀(l:List α) (i:Nat),(l.zipIdx i).map (fun y=>f y.1)=l.map f
 |[],i=>rfl
 |x::l,i=>by rw[List.zipIdx_cons,vax,vax,CY f l (i+1)]
theorem Yj(t:ae)(c:Sb)(h:X5 t c):ip ⟨kN c,kB c⟩ t=some (Ce t c):=by
 have hbig:cu t<XI:=f6 (by have:=h.sz;unfold bz;omega)
 refine(kf (F:=gA) (fun x=>cu x.2) (fun x=>∃c,x.1=⟨kN c,kB c⟩/\X5 x.2 c) (fun x=>Ce x.2 (x.1.names.zip x.1.by_)) (fun R x hx ih=>?_) (⟨kN c,kB c⟩,t) ⟨c,rfl,h⟩ hbig).trans (by
  show some (Ce t ((kN c).zip (kB c)))=_
  rw[FA])
 obtain⟨s,t⟩:=x
 obtain⟨c,hs,h⟩:=hx
 have hs:s=⟨kN c,kB c⟩:=hs
 have h:X5 t c:=h
 subst hs
 show eu (fun s t=>R (s,t)) ⟨kN c,kB c⟩ t=some (Ce t ((kN c).zip (kB c)))
 rw[FA]
 have hR:∀(i:Nat) (hi:i<t.Args.length),R (⟨kN (pf t.Op t.Names (dq t c) i).2.1,kB (pf t.Op t.Names (dq t c) i).2.1⟩,t.Args[i])=some (Ce t.Args[i] (pf t.Op t.Names (dq t c) i).2.1):=fun i hi=>by
  have:=ih (⟨kN (pf t.Op t.Names (dq t c) i).2.1,kB (pf t.Op t.Names (dq t c) i).2.1⟩,t.Args[i]) (je (vat hi)) ⟨_,rfl,Th h i hi⟩
  rw[this]
  show some (Ce t.Args[i] ((kN (pf t.Op t.Names (dq t c) i).2.1).zip (kB (pf t.Op t.Names (dq t c) i).2.1)))=_
  rw[FA]
 have l1:=iO t
 have l2:=j3 t
 have l3:=GJ t
 have hsz:nL (kB c)+cu t<=20000000:=h.sz
 have hw:wT t<=20000000:=h.w
 have hnd:=h.nd
 have hp:=qbt (t:=t)
 have hcl:=RZ c
 unfold eu
 by_cases ho:t.Op=6
 ·rw [vak (by simpa using ho)]
  unfold fy
  rw[wQ _ (by omega),GK c _ (by unfold bz;omega) (by unfold bz;omega),KU c _ (by omega) (fun q hq=>by have:=QJ hq;unfold bz;omega) (by unfold bz;omega),Ng _ _ (by omega),US t (by omega) (by omega)]
  simp only[vaa]
  have f1:=BL (kB c)
  have f2:=wW t
  rw[dR (by omega)]
  simp only[vaa]
  rw[dR (by rw[vae];omega)]
  simp only[vaa]
  unfold er
  have hloop:=Ql t.Args.length (by omega) (fun i (s:List ag×List ag×List ae×List ag×List aa)=>(s.1,i,s.2.1,s.2.2.1,s.2.2.2.1,s.2.2.2.2)) (fun(zz:(List ag)×Int×List ag×(List ae)×(List ag)×(List aa))=>bo (fun s t=>R (s,t)) t t.Args (t.Args.length:Int) t.Names.length zz.1 zz.2.1 zz.2.2.1 zz.2.2.2.1 zz.2.2.2.2.1 zz.2.2.2.2.2)
   (fun i=>((pf t.Op t.Names (dq t c) i).1,(pf t.Op t.Names (dq t c) i).2.2,VB t c i,kN (pf t.Op t.Names (dq t c) i).2.1,kB (pf t.Op t.Names (dq t c) i).2.1))
   ((pf t.Op t.Names (dq t c) t.Args.length).2.2,VB t c t.Args.length,kN (pf t.Op t.Names (dq t c) t.Args.length).2.1,kB (pf t.Op t.Names (dq t c) t.Args.length).2.1) (fun i hi=>?_) ?_
  ·have hloop':loop (fun(zz:(List ag)×Int×List ag×(List ae)×(List ag)×(List aa))=>bo (fun s t=>R (s,t)) t t.Args (t.Args.length:Int) t.Names.length zz.1 zz.2.1 zz.2.2.1 zz.2.2.2.1 zz.2.2.2.2.1 zz.2.2.2.2.2) (((kB c).flatMap kK++freeT t)++t.Names,0,t.Names,[],kN c,kB c)=_:=hloop
   rw[hloop']
   simp only[vaa]
   rw[RR _ _ (by rw[VJ];rfl)]
   simp only[vaa]
   rw[RA,XJ]
  ·show bo (fun s t=>R (s,t)) t t.Args (t.Args.length:Int) t.Names.length (pf t.Op t.Names (dq t c) i).1 (i:Int) (pf t.Op t.Names (dq t c) i).2.2 (VB t c i) (kN (pf t.Op t.Names (dq t c) i).2.1) (kB (pf t.Op t.Names (dq t c) i).2.1)=_
   unfold bo
   rw[vak (by simp;omega),bv _ i hi]
   simp only[vaa]
   rw[hR i hi]
   simp only[vaa]
   have hal:=XK t c i (by omega)
   rw[dR (by simp;omega)]
   simp only[vaa]
   rw[VC t c i hi]
   have hq:pf t.Op t.Names (dq t c) (i+1)=CE t.Op t.Names i (pf t.Op t.Names (dq t c) i):=rfl
   have hQn:=VG t.Op t.Names (dq t c) i
   have hQu:=VI t.Op t.Names (dq t c) i
   have hQw:=VJ t.Op t.Names (dq t c) i
   have hQd:=Ge t.Op t.Names (dq t c) hnd i
   have hu0:=TB t c
   have hn0:nL (kB (dq t c).2.1)=nL (kB c):=rfl
   have hw0:(dq t c).2.2=t.Names:=rfl
   rw[hw0]at hQw
   generalize pf t.Op t.Names (dq t c) i=S at hq hQn hQu hQw hQd ⊢
   obtain⟨u,cc,w⟩:=S
   simp only at hQn hQu hQw hQd ⊢
   have hccl:=RZ cc
   by_cases hi2:i<t.Names.length
   ·rw[van (by simp;omega),bv _ i hi2]
    simp only[vaa]
    rw[WV _ cc hQd (by omega)]
    simp only[vaa]
    have hd:=OR t.Names[i] cc
    rw[Ng _ _ (by omega)]
    simp only[vaa]
    have f3:=BL (kB (fl t.Names[i] cc))
    rw[uT _ _ (by omega),RF]
    simp only[vaa]
    have hnl:t.Names[i].length<=1000000000000000:=((wK _ t).1 h.n).1 _ (vat hi2)
    unfold CE at hq
    rw[vak ⟨ho,hi2⟩,IT _ i hi2]at hq
    by_cases hcm:Of t.Names[i] (fl t.Names[i] cc)=true
    ·rw[vak hcm]at hq ⊢
     rw[(wB u t.Names[i] (by omega) (by omega)).1]
     simp only[vaa]
     rw[RU _ w i (by omega) (by omega)]
     simp only[vaa]
     rw[Xa w i _ (by omega)]
     simp only[vaa]
     rw[RU _ (w.set i (fq u t.Names[i])) i (by omega) (by rw[vbw];omega),List.getElem_set_self]
     simp only[vaa]
     rw[dR (by simp;omega)]
     simp only[vaa]
     have hpw:=WU t.Names[i] (⟨3,fq u t.Names[i],0,[]⟩:aa) cc hQd (by omega)
     rw[hpw]
     simp only[vaa]
     rw[hq]
     rfl
    ·rw[van hcm]at hq ⊢
     rw[hq]
   ·rw[vak (by simp;omega),hq]
    unfold CE
    rw[van (fun h=>hi2 h.2)]
  ·show bo (fun s t=>R (s,t)) t t.Args (t.Args.length:Int) t.Names.length (pf t.Op t.Names (dq t c) t.Args.length).1 (t.Args.length:Int) (pf t.Op t.Names (dq t c) t.Args.length).2.2 (VB t c t.Args.length) (kN (pf t.Op t.Names (dq t c) t.Args.length).2.1) (kB (pf t.Op t.Names (dq t c) t.Args.length).2.1)=_
   unfold bo
   rw[van (by simp)]
 ·rw[van (by simpa using ho),wQ _ (by omega),GK c _ (by unfold bz;omega) (by unfold bz;omega),KU c _ (by omega) (fun q hq=>by have:=QJ hq;unfold bz;omega) (by unfold bz;omega)]
  simp only[vaa]
  have hQ:=VE ho t.Names (dq t c)
  unfold pU lV
  rw[w9 t.Args (by omega) (fun i s=>(s,i)) _ (fun y=>R (⟨kN c,kB c⟩,y)) (fun y=>Ce y c) id (fun i s=>rfl) (fun y hy=>by
   obtain⟨i,hi,rfl⟩:=vcE hy
   have:=hR i hi
   rw[hQ i]at this
   exact this)]
  simp only[vaa,id]
  rw[RA]
  simp only[hQ]
  congr 2
  exact(CY (fun y=>Ce y c) t.Args 0).symm
def Bt(x:ag)(q:aa):Sb:=if x=[118]then[]else[(x,q)]
theorem Sz(x:ag)(q:aa):(kN (Bt x q)).Nodup:=by unfold Bt;split<;>simp[kN]
theorem Z8(x:ag)(q:aa):nL (kB (Bt x q))<=nP q:=by
 unfold Bt
 split
 ·simp[kB,nL]
 ·simp[kB,nL]
theorem UI(t:ae)(x:ag)(q:aa)(h:X5 t (Bt x q)):qx t x q=some (Ce t (Bt x q)):=by
 unfold qx pT
 rw[show Ld ([x]:List ag) none (some (if(([q]:List aa).length:Int)<(([x]:List ag).length:Int)then(([q]:List aa).length:Int)else(([x]:List ag).length:Int)))=some [x]from rfl,show Ld ([q]:List aa) none (some (if(([q]:List aa).length:Int)<(([x]:List ag).length:Int)then(([q]:List aa).length:Int)else(([x]:List ag).length:Int)))=some [q]from rfl]
 simp only[vaa]
 have hw:=Hs [([118]:ag)] [(x,q)] (by simp) (by simp)
 have he:FC [([118]:ag)] [(x,q)]=Bt x q:=by
  unfold FC Bt
  simp only[List.foldl_cons,List.foldl_nil,va4,kN,vbU,vaJ,or_false,vaD]
 rw[he]at hw
 have hw':bQ ⟨[x],[q]⟩ [([118]:ag)]=some ⟨kN (Bt x q),kB (Bt x q)⟩:=hw
 rw[hw']
 simp only[vaa]
 rw[Yj t _ h]
 rfl
mutual
def nC:ak->Nat
 |⟨_,_,_,p,_,ks⟩=>nP p+wz ks+1
def wz:List ak->Nat
 |[]=>0
 |c::cs=>nC c+wz cs
end
theorem M2(c:ak):nC c=nP c.Pred+wz c.Kids+1:=by obtain⟨o,n,s,p,t,ks⟩:=c;rw[nC];rfl
theorem ZW(c:ak):1<=nC c:=by rw[M2];omega
theorem OQ:∀{l:List ak} {x:ak},x∈l->nC x<=wz l
 | y :: l,x,h => by
  rw[wz]
  rcases vaA.1 h with rfl|h
  ·omega
  ·have:=OQ h;omega
theorem IU:∀(l:List ak),l.length<=wz l
 |[]=>by simp[wz]
 |p::l=>by rw[wz];have:=IU l;have:=ZW p;simp only[vaN];omega
theorem KE:∀(a b:List ak),wz (a++b)=wz a+wz b
 |[],b=>by simp[wz]
 |p::a,b=>by rw[vaF,wz,KE a b,wz];omega
theorem Hm:∀(l:List ak) (i:Nat),wz (l.take i)<=wz l
 |[],i=>by simp
 |x::l,0=>by simp[wz]
 |x::l,i+1=>by rw[List.take_succ_cons,wz,wz];have:=Hm l i;omega
theorem Oa{c x:ak}(h:x∈c.Kids):nC x<nC c:=by rw[M2 c];have:=OQ h;omega
theorem MC(c:ak):c.Kids.length<nC c:=by rw[M2];have:=IU c.Kids;omega
theorem Ud(c:ak):(⟨c.Op,c.Name,c.Sort_,c.Pred,c.Tag,c.Kids⟩:ak)=c:=by obtain⟨o,n,s,p,t,ks⟩:=c;rfl
theorem J6(c:ak):(⟨c.Op,c.Name,c.Sort_,⟨c.Pred.Op,c.Pred.Name,c.Pred.N,c.Pred.Kids⟩,c.Tag,c.Kids⟩:ak)=c:=by obtain⟨o,n,s,p,t,ks⟩:=c;rw[wS];rfl
mutual
theorem Tz:∀(p:aa),Ht (tU [] []) p=p
 |⟨o,n,k,ks⟩=>by
  rw[Ht,QV ks]
  split<;>rfl
theorem QV:∀(l:List aa),Tx (tU [] []) l=l
 |[]=>by rw[Tx]
 |p::l=>by rw[Tx,Tz p,QV l]
end
theorem JX(c:ak)(h:nC c<=bz):ke c=some c:=by
 refine kf (F:=lS) nC (fun c=>nC c<=bz) id (fun R c hc ih=>?_) c h (f6 h)
 show iy (fun c=>R c) c=some c
 unfold iy kE
 have h1:=M2 c
 have h2:=MC c
 unfold bz at hc
 rw[O5 c.Pred [] [] (by unfold bz;omega) (by simp) (by simp),Tz]
 simp only[vaa]
 rw[w9 c.Kids (by omega) (fun i s=>(i,s)) _ R id id (fun i s=>rfl) (fun x hx=>ih x (Oa hx) (by have:=Oa hx;unfold bz;omega)),List.map_id]
 simp only[vaa,id]
 rw[Ud]
abbrev Zf:ak:=⟨0,[],[],ie,0,[]⟩
abbrev En(ks:List ak):ak:=⟨1,[],[],ie,0,ks⟩
abbrev EN(p:aa)(tag:Int):ak:=⟨3,[],[],p,tag,[]⟩
abbrev L4(x s:ag)(p:aa)(c:ak):ak:=⟨2,x,s,p,0,[c]⟩
mutual
def CB:ak->List ak
 |⟨o,n,s,p,t,ks⟩=>if o=2\/o=3 then[⟨o,n,s,p,t,ks⟩]else fT ks
def fT:List ak->List ak
 |[]=>[]
 |c::cs=>CB c++fT cs
end
theorem Vo(c:ak):CB c=if c.Op=2\/c.Op=3 then[c]else fT c.Kids:=by obtain⟨o,n,s,p,t,ks⟩:=c;rw[CB];rfl
mutual
theorem XB:∀(c:ak),wz (CB c)<=nC c
 | ⟨o,n,s,p,t,ks⟩ => by
  have:=Es ks
  rw[CB]
  split
  ·simp[wz]
  ·rw[nC];omega
theorem Es:∀(l:List ak),wz (fT l)<=wz l
 |[]=>by simp[fT]
 |c::l=>by
  have:=XB c
  have:=Es l
  rw[fT,KE,wz];omega
end
theorem Er:∀(a b:List ak),fT (a++b)=fT a++fT b
 |[],b=>by simp[fT]
 |c::a,b=>by rw[vaF,fT,Er a b,fT,vbe]
theorem Rh(l:List ak)(i:Nat)(h:i<l.length):fT (l.take (i+1))=fT (l.take i)++CB l[i]:=by
 rw[vaS h,Er]
 simp[fT]
theorem PZ:∀(l s:List ak),l.foldl (fun s x=>s++CB x) s=s++fT l
 |[],s=>by simp[fT]
 |c::l,s=>by rw[List.foldl_cons,PZ l,fT,vbe]
theorem TR(l:List ak):(fT l).length<=wz l:=vaI (IU _) (Es l)
theorem SN(l:List ak)(h:wz l<=bz):oB l=some (En (fT l)):=by
 refine kf (F:=pD) wz (fun l=>wz l<=bz) (fun l=>En (fT l)) (fun R l hl ih=>?_) l h (f6 h)
 show lw (fun a=>R a) l=some (En (fT l))
 unfold lw oC
 have h2:=IU l
 unfold bz at hl
 rw[pH l (by omega) (fun i s=>(i,s)) _ (fun i s x=>(kc x.Op).bind fun o4=>if o4=true then(ke x).bind fun r7=>(app s ([r7]:List ak)).bind fun l8=>some (.inl (aR (i+1),l8))else(R x.Kids).bind fun r9=>(app s r9.Kids).bind fun l10=>some (.inl (aR (i+1),l10))) (fun i s=>s=fT (l.take i)) (fun x s=>s++CB x) id [] (by simp[fT]) (fun i s=>rfl) (fun i hi s hs=>?_),PZ]
 ·rfl
 ·have h3:=OQ (vat hi)
  have h4:=M2 l[i]
  have h5:=Rh l i hi
  have h6:=TR (l.take (i+1))
  have h7:=Hm l (i+1)
  rw[h5,vae,<-hs]at h6
  refine⟨?_,by rw[hs,h5]⟩
  have e:=Vo l[i]
  unfold kc
  by_cases c2:l[i].Op=2
  ·rw[vak (by simpa using c2)]
   rw[vak (.inl c2)]at e
   simp only[vaa,if_true]
   rw[JX _ (by unfold bz;omega)]
   simp only[vaa]
   rw[e]at h6 ⊢
   rw[dR (by omega)]
   rfl
  ·rw[van (by simpa using c2)]
   simp only[vaa]
   by_cases c3:l[i].Op=3
   ·rw[vak (by simpa using c3),JX _ (by unfold bz;omega)]
    rw[vak (.inr c3)]at e
    simp only[vaa]
    rw[e]at h6 ⊢
    rw[dR (by omega)]
    rfl
   ·rw[van (by simpa using c3),ih l[i].Kids (by omega) (by unfold bz;omega)]
    rw[van (by simp[c2,c3])]at e
    simp only[vaa]
    rw[e]at h6 ⊢
    show(app s (fT l[i].Kids)).bind _=_
    rw[dR (by omega)]
    rfl
theorem Q3{X:Type}(n:Nat)(hn:n<9223372036854775808){body:Int->Option (Int⊕X)}(k:Int->Option (Int⊕X))(e:X)(hb:∀i:Int,body i=if decide (i<(n:Int))=true then k i else some (.inr e))
  (hk:∀i:Nat,i<n->eO (k (i:Int)) (fun r=>match r with|.inl t=>t=aR ((i:Int)+1)|.inr _=>True)):eO (loop body 0) (fun _=>True):=by
 have e1:(List.replicate n ()).length=n:=List.length_replicate
 refine xt (List.replicate n ()) (by omega) (fun i (_:Unit)=>i) (fun _ _=>True) (fun i hi s _=>?_) (fun s _=>?_) () trivial
 ·rw[e1]at hi
  rw[hb,vak (vbp (by omega))]
  exact(hk i hi).mono fun r hr=>by
   cases r with
   |inl t=>exact⟨(),hr,trivial⟩
   |inr _=>trivial
 ·rw[hb,van (by rw[e1];simp)]
  exact aj trivial
theorem sT(c:Int):eO (lc c) (fun _=>True):=by unfold lc;exact aJ (fun _=>aj trivial) (fun _=>aj trivial)
theorem BK(c:Int):eO (pw c) (fun _=>True):=by unfold pw;exact aJ (fun _=>aj trivial) (fun _=>aj trivial)
theorem AM(c:Int):eO (nI c) (fun _=>True):=by unfold nI;exact aJ (fun _=>aj trivial) (fun _=>aj trivial)
theorem g7{s:ag}{i:Nat}(h:i<s.length):eO (sG s (i:Int)) (fun _=>True):=Pd (V5 s i h) trivial
theorem wX{s:ag}(h:0<s.length):eO (sG s 0) (fun _=>True):=g7 (i:=0) h
theorem P9(s:ag):eO (uy s) (fun _=>True):=by
 unfold uy
 exact au (R:=fun l=>l.length<9223372036854775808) ⟨_,rfl,by decide⟩ (fun l hl=>ct (nH l s hl) (aj trivial))
theorem RB{s:ag}{i:Nat}(h:i<s.length):eO (nZ s i) (fun _=>True):=by
 unfold nZ
 exact au (g7 h) fun _ _=>au (sT _) fun _ _=>aJ (fun _=>au (g7 h) fun _ _=>au (BK _) fun _ _=>aJ (fun _=>au (g7 h) fun _ _=>aj trivial) fun _=>aj trivial) fun _=>aj trivial
theorem Ms(s:ag):eO (pu s) (fun _=>True):=by
 unfold pu
 refine au (R:=fun o=>o=true\/s.length<=24) ?_ fun o ho=>aJ (fun _=>aj trivial) fun hn=>?_
 ·unfold xA
  refine aJ (fun _=>aj (.inl rfl)) fun h1=>aJ (fun _=>aj (.inl rfl)) fun h2=>?_
  rw[vam]at h1 h2
  exact au (wX (by omega)) fun _ _=>au (sT _) fun _ _=>aJ (fun _=>aj (.inl rfl)) fun _=>au (P9 s) fun _ _=>aj (.inr (by omega))
 ·have hs:s.length<=24:=ho.resolve_left hn
  unfold xB
  refine au (Q3 s.length (by omega) (fun i=>(nZ s i).bind fun o=>if o=true then some (.inr (.inl ()))else some (.inl (aR (i+1)))) (.inr ()) (fun i=>rfl) fun i hi=>au (RB hi) fun _ _=>aJ (fun _=>aj trivial) fun _=>aj rfl) fun o _=>?_
  cases o<;>exact aj trivial
theorem SA{s:ag}{i:Nat}(h:i<s.length):eO (n8 s i) (fun _=>True):=by
 unfold n8
 exact au (g7 h) fun _ _=>au (sT _) fun _ _=>aJ (fun _=>au (g7 h) fun _ _=>au (AM _) fun _ _=>aJ (fun _=>au (g7 h) fun _ _=>au (BK _) fun _ _=>aj trivial) fun _=>aj trivial) fun _=>aj trivial
theorem TQ(s:ag):eO (Bw s) (fun _=>True):=by
 unfold Bw
 refine au (R:=fun o=>o=true\/s.length<=24) ?_ fun o ho=>aJ (fun _=>aj trivial) fun hn=>?_
 ·unfold xC
  refine aJ (fun _=>aj (.inl rfl)) fun h1=>aJ (fun _=>aj (.inl rfl)) fun h2=>?_
  rw[vam]at h1 h2
  have h3:s.length<=24:=by omega
  exact au (wX (by omega)) fun _ _=>au (AM _) fun _ _=>aJ (fun _=>aj (.inl rfl)) fun _=>aJ (fun _=>aj (.inl rfl)) fun _=>aJ (fun _=>aj (.inl rfl)) fun _=>aJ (fun _=>aj (.inl rfl)) fun _=>aj (.inr h3)
 ·have hs:s.length<=24:=ho.resolve_left hn
  unfold xD
  refine au (Q3 s.length (by omega) (fun i=>(n8 s i).bind fun o=>if o=true then some (.inr (.inl ()))else some (.inl (aR (i+1)))) (.inr ()) (fun i=>rfl) fun i hi=>au (SA hi) fun _ _=>aJ (fun _=>aj trivial) fun _=>aj rfl) fun o _=>?_
  cases o<;>exact aj trivial
theorem UJ{s:ag}(b:Bool){i:Nat}(h:i<s.length):eO (uz s b i) (fun _=>True):=by
 unfold uz
 exact aJ (fun _=>au (g7 h) fun _ _=>au (sT _) fun _ _=>aJ (fun _=>aj trivial) fun _=>au (g7 h) fun _ _=>au (AM _) fun _ _=>aJ (fun _=>aj trivial) fun _=>au (g7 h) fun _ _=>au (BK _) fun _ _=>aj trivial) fun _=>aj trivial
theorem Wy(s:ag):eO (D7 s) (fun _=>True):=by
 unfold D7
 refine au (R:=fun o=>o=true\/(0<s.length/\s.length<=24)) ?_ fun o ho=>aJ (fun _=>aj trivial) fun hn=>?_
 ·unfold zK
  refine aJ (fun _=>aj (.inl rfl)) fun h1=>aj ?_
  rw[vam]at h1
  by_cases h2:(s.length:Int)>24
  ·exact .inl (vbp h2)
  ·exact .inr ⟨by omega,by omega⟩
 ·obtain⟨h0,hs⟩:=ho.resolve_left hn
  refine au (wX h0) fun _ _=>au (sT _) fun r6 _=>?_
  unfold zL
  refine au (R:=fun _=>True) (xt s (by omega) (fun i (z:Bool×Bool)=>(z.1,z.2,i)) (fun _ _=>True) (fun i hi z _=>?_) (fun z _=>?_) (true,r6) trivial) fun o _=>aJ (fun _=>aj trivial) fun _=>aj trivial
  ·show eO (jL s s.length z.1 z.2 i) _
   unfold jL
   rw[vak (vbp (by omega))]
   exact au (UJ _ hi) fun o _=>aJ (fun _=>au (g7 hi) fun _ _=>au (sT _) fun _ _=>aJ (fun _=>aj ⟨(o,true),rfl,trivial⟩) fun _=>au (g7 hi) fun _ _=>au (BK _) fun _ _=>aJ (fun _=>aj ⟨(o,true),rfl,trivial⟩) fun _=>au (g7 hi) fun c _=>aj ⟨(o,c==95),rfl,trivial⟩) fun _=>aj ⟨(o,false),rfl,trivial⟩
  ·show eO (jL s s.length z.1 z.2 s.length) _
   unfold jL
   rw[van (by simp)]
   exact aj trivial
theorem QZ{α:Type}(l:List α)(a b:Nat)(h:a<=b)(h2:b<=l.length):Ld l (some (a:Int)) (some (b:Int))=some ((l.take b).drop a):=by
 simp[Ld,bd,h,h2]
theorem UK(s:ag)(hs:s.length<=120):eO (Bx s) (fun l=>l≠[]/\l.length<=121):=by
 unfold Bx xE
 refine au (R:=fun o=>o.1.length<=s.length/\∃b:Nat,o.2=(b:Int)/\b<=s.length) (xt s (by omega) (fun i (z:List ag×Int)=>(z.1,z.2,i)) (fun i z=>z.1.length<=i/\∃b:Nat,z.2=(b:Int)/\b<=i) (fun i hi z hz=>?_) (fun z hz=>?_) ([],0) ⟨vah _,0,rfl,vah _⟩) fun o ho=>?_
 ·obtain⟨out,bg⟩:=z
  obtain⟨h1,b,hb,hbi⟩:=hz
  simp only at h1 hb
  subst hb
  show eO (iE s s.length out b i) _
  unfold iE
  rw[vak (vbp (by omega))]
  refine au (g7 hi) fun c _=>aJ (fun _=>?_) fun _=>aj ⟨(out,b),rfl,by simp only;omega,b,rfl,by omega⟩
  refine ct (QZ s b i hbi (by omega)) (ct (dR (by simp;omega)) (aj ⟨(_,aR ((i:Int)+1)),rfl,by simp;omega,i+1,?_,vah _⟩))
  simp only
  rw[dB (by omega) (by omega)]
  omega
 ·obtain⟨out,bg⟩:=z
  show eO (iE s s.length out bg s.length) _
  unfold iE
  rw[van (by simp)]
  exact aj hz
 ·obtain⟨h1,b,hb,hbi⟩:=ho
  rw[hb]
  exact ct (Fv s b hbi) (ct (dR (by simp;omega)) (aj ⟨by simp,by simp;omega⟩))
theorem T6{v:List ag}(h:v≠[]):eO (uv v) (fun _=>True):=by
 obtain⟨x,r,rfl⟩:=List.exists_cons_of_ne_nil h
 unfold uv
 exact ct (EO x r) (au (Ms x) fun _ _=>aJ (fun _=>ct (EO x r) (au (TQ x) fun _ _=>aJ (fun _=>ct (EO x r) (aJ (fun _=>aj trivial) fun _=>aj trivial)) fun _=>aj trivial)) fun _=>aj trivial)
theorem VO:qD []=some 3:=by kernel_rfl
theorem Pt(s:ag):eO (qD s) (fun r=>(r==0)=true->0<s.length):=by
 by_cases hs:s=[]
 ·subst hs
  exact Pd VO fun h=>by simp at h
 have hp:0<s.length:=vcF.2 hs
 unfold qD
 refine aJ (fun _=>aj fun _=>hp) fun h1=>?_
 rw[vam]at h1
 refine au (UK s (by omega)) fun l hl=>au (T6 hl.1) fun _ _=>aJ (fun _=>aj fun _=>hp) fun _=>?_
 have h2:1<=l.length:=vcF.2 hl.1
 refine ct (Fv l 1 h2) ?_
 unfold zF
 refine au (pZ (l.drop 1) (by simp;omega) _ (fun _=>True) (fun _=>True) (fun i=>rfl) (fun x hx i=>au (Wy x) fun _ _=>aJ (fun _=>aj trivial) fun _=>aj ⟨rfl,trivial⟩)) fun o _=>?_
 cases o<;>exact aj fun _=>hp
theorem NB(l:List ag)(hl:l.length<9223372036854775808):eO (rZ l) (fun _=>True):=by
 unfold rZ rl
 refine au (pZ l hl _ (fun _=>True) (fun _=>True) (fun i=>rfl) (fun x hx i=>ct (nH l x hl) (aJ (fun _=>aj trivial) fun _=>aj ⟨rfl,trivial⟩))) fun o _=>?_
 cases o<;>exact aj trivial
theorem VN(s:ag)(b:Bool):eO (wE s b) (fun _=>True):=by
 unfold wE
 exact au (Pt s) fun r hr=>aJ (fun h=>au (wX (hr h)) fun _ _=>aJ (fun _=>au (wX (hr h)) fun _ _=>aj trivial) fun _=>aj trivial) fun _=>aj trivial
theorem RH(t:ae)(ht:cu t<=bz):eO (FM t) (fun _=>True):=by
 refine mU (F:=zZ) cu (fun x=>cu x<=bz) (fun _ _=>True) (fun R x hx ih=>?_) t ht (f6 ht)
 show eO (uG (fun t=>R t) x) _
 unfold uG xK
 have h1:=iO x
 refine au (R:=fun _=>True) (Nt x.Args (by unfold bz at hx;omega) (fun i s=>(s,i)) (fun i s y=>(R y).bind fun r=>some (.inl ((if r>s then r else s),aR (i+1)))) id (fun _ _=>True) (fun i s=>rfl) (fun i hi s _=>?_) (fun _ _=>trivial) 0 trivial) (fun a _=>aj trivial)
 exact au (ih _ (je (vat hi)) (by have:=je (vat hi);omega)) (fun a _=>aj ⟨_,rfl,trivial⟩)
theorem Sg(t:ae):eO (D9 t) (fun _=>True):=by
 unfold D9
 refine au (R:=fun _=>True) ?_ fun _ _=>aJ (fun _=>aj trivial) fun _=>au (R:=fun _=>True) ?_ fun _ _=>aJ (fun _=>aj trivial) fun _=>au (R:=fun _=>True) ?_ fun _ _=>aJ (fun _=>aj trivial) fun _=>au (R:=fun _=>True) ?_ fun _ _=>aJ (fun _=>aj trivial) fun _=>aj trivial
 ·unfold Ab
  repeat' first|exact aj trivial|refine aJ (fun _=>?_) (fun _=>?_)
 ·unfold Ac
  repeat' first|exact aj trivial|refine aJ (fun _=>?_) (fun _=>?_)
 ·unfold Ad
  repeat' first|exact aj trivial|refine aJ (fun _=>?_) (fun _=>?_)
 ·unfold Ae
  repeat' first|exact aj trivial|refine aJ (fun _=>?_) (fun _=>?_)|refine au (VN _ _) fun _ _=>?_
theorem RP(t:ae)(ht:cu t<=bz):eO (Jl t) (fun _=>True):=by
 refine mU (F:=C6) cu (fun x=>cu x<=bz) (fun _ _=>True) (fun R x hx ih=>?_) t ht (f6 ht)
 show eO (xL (fun t=>R t) x) _
 unfold xL z8
 have h1:=iO x
 refine au (Sg x) fun _ _=>aJ (fun _=>aj trivial) fun _=>au (pZ x.Args (by unfold bz at hx;omega) _ (fun _=>True) (fun _=>True) (fun i=>rfl) (fun y hy i=>au (ih _ (je hy) (by have:=je hy;omega)) fun _ _=>aJ (fun _=>aj trivial) fun _=>aj ⟨rfl,trivial⟩)) fun o _=>?_
 cases o<;>exact aj trivial
theorem Ps(t:ae)(ht:cu t<=bz):eO (BA t) (fun _=>True):=by
 unfold BA
 exact au (RH t ht) fun _ _=>aJ (fun _=>aj trivial) fun _=>au (RP t ht) fun _ _=>aj trivial
theorem Wf(op n:Int):eO (od op n) (fun r=>r=true->op=8->n=2):=by
 by_cases h:op=8
 ·subst h
  refine Pd (a:=n==2) ?_ fun h _=>by simpa using h
  simp[od,uC,uD,uE]
 ·unfold od
  refine au (R:=fun _=>True) ?_ fun _ _=>aJ (fun _=>aj fun _ e=>absurd e h) fun _=>au (R:=fun _=>True) ?_ fun _ _=>aJ (fun _=>aJ (fun _=>aj fun _ e=>absurd e h) fun _=>aj fun _ e=>absurd e h) fun _=>au (R:=fun _=>True) ?_ fun _ _=>aJ (fun _=>aj fun _ e=>absurd e h) fun _=>aj fun _ e=>absurd e h
  ·unfold uC
   repeat' first|exact aj trivial|refine aJ (fun _=>?_) (fun _=>?_)
  ·unfold uD
   repeat' first|exact aj trivial|refine aJ (fun _=>?_) (fun _=>?_)
  ·unfold uE
   repeat' first|exact aj trivial|refine aJ (fun _=>?_) (fun _=>?_)
theorem Rz(p:aa):eO (xI p) (fun _=>True):=by
 unfold xI
 have hc:=fun s=>(Pt s).mono (R:=fun _=>True) fun _ _=>trivial
 repeat' first|exact aj trivial|refine aJ (fun _=>?_) (fun _=>?_)|refine au (hc _) fun _ _=>?_
theorem Sf(p:aa):eO (D8 p) (fun _=>True):=by
 unfold D8
 have hk:eO (od p.Op (p.Kids.length:Int)) (fun r=>r=true->p.Op=8->0<p.Kids.length):=(Wf _ _).mono fun r hr h1 h2=>by have:=hr h1 h2;omega
 have hn:∀r:Bool,(r=true->p.Op=8->0<p.Kids.length)->eO (some (!r)) (fun o=>o=true\/(p.Op=8->0<p.Kids.length)):=fun r hr=>by
  cases r with
  |false=>exact aj (.inl rfl)
  |true=>exact aj (.inr (hr rfl))
 refine au (R:=fun _=>True) ?_ fun o3 _=>au (R:=fun o=>o=true\/(p.Op=8->0<p.Kids.length)) ?_ fun o ho=>aJ (fun _=>aj trivial) fun hno=>au (R:=fun _=>True) ?_ fun _ _=>aJ (fun _=>aj trivial) fun _=>au (Rz p) fun _ _=>aJ (fun _=>aj trivial) fun _=>au (R:=fun _=>True) ?_ fun _ _=>aJ (fun _=>aj trivial) fun _=>aj trivial
 ·unfold zV
  repeat' first|exact aj trivial|refine aJ (fun _=>?_) (fun _=>?_)
 ·unfold zW
  have hm:eO (Bz p.Op) (fun _=>True):=by
   unfold Bz
   repeat' first|exact aj trivial|refine aJ (fun _=>?_) (fun _=>?_)
  repeat' first|exact aj (.inl rfl)|refine aJ (fun _=>?_) (fun _=>?_)|refine au hm fun _ _=>?_|exact au hk hn
 ·have hi:eO (NE p.N) (fun _=>True):=by
   unfold NE
   repeat' first|exact aj trivial|refine aJ (fun _=>?_) (fun _=>?_)
  unfold zX
  repeat' first|exact aj trivial|refine aJ (fun _=>?_) (fun _=>?_)|refine au hi fun _ _=>?_
 ·unfold zY
  refine aJ (fun h=>?_) fun _=>aj trivial
  exact ct (bv p.Kids 0 (ho.resolve_left hno (by simpa using h))) (aj trivial)
theorem RO(p:aa)(hp:nP p<=bz):eO (Jd p) (fun _=>True):=by
 refine mU (F:=C5) nP (fun x=>nP x<=bz) (fun _ _=>True) (fun R x hx ih=>?_) p hp (f6 hp)
 show eO (xJ (fun t=>R t) x) _
 unfold xJ zT
 have h1:=tT x
 refine au (Sf x) fun _ _=>aJ (fun _=>aj trivial) fun _=>au (pZ x.Kids (by unfold bz at hx;omega) _ (fun _=>True) (fun _=>True) (fun i=>rfl) (fun y hy i=>au (ih _ (rC hy) (by have:=rC hy;omega)) fun _ _=>aJ (fun _=>aj trivial) fun _=>aj ⟨rfl,trivial⟩)) fun o _=>?_
 cases o<;>exact aj trivial
theorem Pr(p:aa)(hp:nP p<=bz):eO (By p) (fun _=>True):=by
 unfold By
 exact ct (Ws p hp) (aJ (fun _=>aj trivial) fun _=>ct (VU p hp) (aJ (fun _=>aj trivial) fun _=>au (RO p hp) fun _ _=>aj trivial))
theorem Ny(p:aa):Ax p=some (decide (p=ie)):=by
 unfold Ax
 have h1:wD p (⟨0,([]:ag),0,([]:List aa)⟩:aa)=some (decide (p=ie)):=W2 p ie X3
 rw[h1];rfl
mutual
def xl:ae->ae->Bool
 |⟨o,n,xs,ns,p,ps⟩,⟨o',n',xs',ns',p',ps'⟩=>decide (o=o')&&(decide (n=n')&&y7 xs xs')
def y7:List ae->List ae->Bool
 |[],[]=>true
 |a::xs,b::bs=>xl a b&&y7 xs bs
 |_,_=>false
end
theorem No:∀(a b:List ae),y7 a b=AD xl a b
 |[],[]=>by rw[y7,AD]
 |a::xs,b::bs=>by rw[y7,AD,No xs bs]
 |[],b::bs=>by simp[y7,AD]
 |a::xs,[]=>by simp[y7,AD]
theorem Yr(a b:ae):xl a b=(decide (a.Op=b.Op)&&(decide (a.Name=b.Name)&&AD xl a.Args b.Args)):=by
 obtain⟨o,n,xs,ns,p,ps⟩:=a
 obtain⟨o',n',xs',ns',p',ps'⟩:=b
 rw[xl,No];rfl
theorem Sd{α σ τ X:Type}(l:List α)(hl:l.length<9223372036854775808)(mk:Int->σ->τ)(body:τ->Option (τ⊕X))(I:Nat->σ->Prop)(g:Nat->α->σ->σ)(e:σ->X)(s0:σ)(h0:I 0 s0)
  (hin:∀(i:Nat) (h:i<l.length) s,I i s->body (mk (i:Int) s)=some (.inl (mk (aR ((i:Int)+1)) (g i l[i] s)))/\I (i+1) (g i l[i] s)) (hend:∀s,I l.length s->body (mk (l.length:Int) s)=some (.inr (e s))):loop body (mk 0 s0)=some (e (tR g l 0 s0)):=by
 have:=oL l hl mk body I (fun i x s=>.inl (g i x s)) e (fun i h s hs=>⟨(hin i h s hs).1,fun s' hs'=>by cases hs';exact(hin i h s hs).2⟩) hend 0 s0 (vaO _) h0
 rw[va2,show((0:Nat):Int)=0 from rfl]at this
 rw[this]
 have key:∀(l:List α) (i:Nat) (s:σ),ph (fun i x (s:σ)=>(Sum.inl (g i x s):σ⊕X)) e l i s=e (tR g l i s):=by
  intro l
  induction l with
  |nil=>intro i s;rfl
  |cons x l ih=>intro i s;unfold ph;simp only;rw[ih];rfl
 rw[key]
mutual
def sS:ae->ae
 |⟨o,n,xs,_,_,_⟩=>⟨o,n,Ba xs,[],ie,[]⟩
def Ba:List ae->List ae
 |[]=>[]
 |t::l=>sS t::Ba l
end
theorem Qy:∀(l:List ae),Ba l=l.map sS
 |[]=>by rw[Ba];rfl
 |t::l=>by rw[Ba,Qy l];rfl
theorem GD(t:ae):sS t=⟨t.Op,t.Name,t.Args.map sS,[],ie,[]⟩:=by obtain⟨o,n,xs,ns,p,ps⟩:=t;rw[sS,Qy];rfl
theorem Nf(t:ae)(h:cu t<=bz):vp t=some (sS t):=by
 refine kf (F:=wv) cu (fun t=>cu t<=bz) sS (fun R t ht ih=>?_) t h (f6 h)
 show qA (fun t=>R t) t=some (sS t)
 unfold qA um
 have h1:=iO t
 unfold bz at ht
 rw[w9 t.Args (by omega) (fun i s=>(i,s)) _ R sS id (fun i s=>rfl) (fun x hx=>ih x (je hx) (by have:=je hx;unfold bz;omega)),GD]
 rfl
def DW(t:ae):ag×Bool:=(B3 t).getD ([],false)
theorem QK(t:ae):B3 t=some (DW t):=by
 unfold DW B3
 by_cases h1:(t.Op==1)=true
 ·rw[vak h1];rfl
 ·rw [van h1]
  by_cases h2:(t.Op==2)=true
  ·rw[vak h2];rfl
  ·rw [van h2]
   by_cases h3:(t.Op==3)=true
   ·rw[vak h3];rfl
   ·rw[van h3]
    by_cases h4:(t.Op==4)=true
    ·rw[vak h4]
     by_cases h5:((t.Args.length:Int)==0)=true
     ·rw[vak h5];rfl
     ·rw[van h5];rfl
    ·rw[van h4];rfl
def Ri(t:ae)(q:aa):aa:=if t.Op=6\/t.Pred=ie then nS else Ht (KZ [118] q) t.Pred
theorem Sm(t:ae)(q:aa)(h:nP t.Pred<=bz)(hq:nP q<=bz):pS t q=some (Ri t q):=by
 unfold pS wr yL Ri
 by_cases h6:t.Op=6
 ·rw[vak (by simpa using h6),vak (.inl h6)];rfl
 ·rw[van (by simpa using h6),show iU t.Pred (⟨0,[],0,[]⟩:aa)=some (decide (t.Pred=ie))from Fr t.Pred ie h]
  simp only[vaa]
  by_cases hz:t.Pred=ie
  ·rw[vak (by simpa using hz),vak (.inr hz)];rfl
  ·rw[van (by simpa using hz),van (by simp[h6,hz]),Nh _ _ _ h hq];rfl
theorem Ty(f:ag->Option aa)(hf:∀n q,f n=some q->nP q=1):∀(p:aa),nP (Ht f p)<=nP p:=fun p=>by
 have:=Y9 f 1 (vah 1) (fun n q h=>by rw[hf n q h];exact vah 1) p
 omega
theorem Nj{v x n:ag}{q:aa}(h:KZ v (nG x) n=some q):nP q=1:=by
 unfold KZ at h
 split at h
 ·cases h;rfl
 ·cases h
theorem Vt(t:ae)(x:ag):nP (Ri t (nG x))<=nP t.Pred:=by
 unfold Ri
 split
 ·rename_i h
  have:=OS t.Pred
  show 1<=_
  omega
 ·exact Ty _ (fun n q h=>Nj h) _
def lT(m:aQ)(name:ag):eS×Bool:=(m.Datas.find? (fun d=>d.Name==name)).elim (⟨[],[],[],[]⟩,false) (fun d=>(d,true))
abbrev T4:Type:=ag×List ag×List dh×List iu
theorem MO{α β:Type}(p:α->Bool)(f:α->β):∀(l:List α),l.findSome? (fun x=>if p x=true then some (f x)else none)=(l.find? p).map f
 |[]=>rfl
 |x::l=>by
  rw[List.findSome?_cons,List.find?_cons]
  cases h:p x with
  |true=>rfl
  |false=>simpa using MO p f l
theorem WF(m:aQ)(name:ag)(h1:m.Datas.length<9223372036854775808):vj m name=some (lT m name):=by
 unfold vj uk lT
 have:=Sa m.Datas h1 (fun i=>(i,[],[],[],[])) (fun(zz:Int×ag×(List ag)×(List dh)×(List iu))=>e9 name m.Datas (m.Datas.length:Int) zz.1 zz.2.1 zz.2.2.1 zz.2.2.2.1 zz.2.2.2.2)
  (fun d=>if(d.Name==name)=true then some (Sum.inl (d.Name,d.Vars,d.Preds,d.Cons):T4⊕T4)else none) (.inr ([],[],[],[])) (fun i hi=>?_) ?_
 ·rw[this]
  simp only[vaa]
  rw[show m.Datas.findSome? (fun d=>if(d.Name==name)=true then some (Sum.inl (d.Name,d.Vars,d.Preds,d.Cons):T4⊕T4)else none)=_ from MO (fun d:eS=>d.Name==name) (fun d=>(Sum.inl (d.Name,d.Vars,d.Preds,d.Cons):T4⊕T4)) m.Datas]
  cases m.Datas.find? (fun d=>d.Name==name)<;>rfl
 ·show e9 name m.Datas (m.Datas.length:Int) (i:Int) [] [] [] []=_
  unfold e9
  rw[vak (by simp;omega),bv _ i hi]
  simp only[vaa]
  by_cases hn:(m.Datas[i].Name==name)=true<;>simp[hn]
 ·show e9 name m.Datas (m.Datas.length:Int) (m.Datas.length:Int) [] [] [] []=_
  unfold e9
  rw[van (by simp)]
theorem J4(m:aQ)(name:ag)(B:Nat)(h:∀d∈m.Datas,d.Preds.length<=B):(lT m name).1.Preds.length<=B:=by
 unfold lT
 cases hf:m.Datas.find? (fun d=>d.Name==name)with
 |none=>exact vaO _
 |some d=>exact h d (vbj hf)
theorem UX(a b:ae)(ht:cu a<=bz):D1 a b=some (xl a b):=by
 refine kf (F:=yU) (fun x=>cu x.1) (fun x=>cu x.1<=bz) (fun x=>xl x.1 x.2) (fun R x hx ih=>?_) (a,b) ht (f6 ht)
 obtain⟨a,b⟩:=x
 have hl:cu a<=bz:=hx
 show sN (fun a a2=>R (a,a2)) a b=some (xl a b)
 unfold sN ww wx
 have h1:=iO a
 rw[Yr]
 by_cases e1:a.Op=b.Op
 ·by_cases e2:a.Name=b.Name
  ·by_cases e3:a.Args.length=b.Args.length
   ·rw[van (by simp[e1]),van (by simp[e2])]
    simp only[vaa]
    rw[van (by simp[e3]),Uv (X:=Unit⊕Unit) e3 (by unfold bz at hl;omega) (fun zz=>rO (fun a a2=>R (a,a2)) a b (a.Args.length:Int) zz) (fun i y z=>(R (y,z)).bind fun r11=>if(!r11)=true then some (.inr (.inl ()))else some (.inl (aR (i+1)))) xl (.inl ()) (.inr ()) (fun i=>rfl) (fun y hy z hz i=>by
     have he:=ih (y,z) (je hy) (by have:=je hy;show cu y<=bz;omega)
     rw[he]
     show(if(!xl y z)=true then _ else _)=_
     cases xl y z<;>rfl)]
    simp only[vaa,e1,e2,decide_true,Bool.true_and]
    cases AD xl a.Args b.Args<;>rfl
   ·rw[van (by simp[e1]),van (by simp[e2])]
    simp only[vaa]
    rw[vak (by simp;omega),Xz e3]
    simp
  ·rw[van (by simp[e1]),vak (by simp[e2])]
   simp[e2]
 ·rw[vak (by simp[e1])]
  simp[e1]
end Go.Proofs.YtbaamopmfmpfaaaGreatDoor
