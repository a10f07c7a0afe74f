/- PROVED: a part of the proof. Conditions: none. -/
import Derived.Test.YtbaamopmfmpfaaaGreatDoorPkD16
import Derived.Test.YtbaamopmfmpfaaaGreatDoorPkD8
noncomputable section
namespace Go.Proofs.YtbaamopmfmpfaaaGreatDoor
open Go
set_option linter.unusedVariables false
set_option linter.unusedSimpArgs false
def Xr(s:Option aa)(x:aa):aa:=match s with
 |none=>x
 |some q=>⟨15,[],0,[q,x]⟩
def TE:List aa->Option aa->aa
 |[],s=>s.getD n7
 |x::l,s=>if CS x=true then TE l s else if x=AF then AF else TE l (some (Xr s x))
abbrev T8:Type:=Int×ag×Int×List aa×Int×ag×Int×List aa
def t8(a b:aa):T8:=(a.Op,a.Name,a.N,a.Kids,b.Op,b.Name,b.N,b.Kids)
def Sx:T8⊕T8->aa
 |.inl o=>⟨o.1,o.2.1,o.2.2.1,o.2.2.2.1⟩
 |.inr o=>⟨o.2.2.2.2.1,o.2.2.2.2.2.1,o.2.2.2.2.2.2.1,o.2.2.2.2.2.2.2⟩
def Ve(x:aa)(s:Option aa):Option aa⊕(T8⊕T8):=
 if CS x=true then .inl s else if x=AF then .inr (.inl (t8 AF (s.getD n7)))else .inl (some (Xr s x))
theorem JC:∀(l:List aa) (i:Nat) (s:Option aa),Sx (pr (fun _ x s=>Ve x s) (fun s=>.inr (t8 ic (s.getD n7))) l i s)=TE l s
 |[],i,s=>by simp[pr,TE,Sx,t8,wH]
 | x :: l,i,s => by
  unfold pr TE Ve
  by_cases h1:CS x=true
  ·simp only[h1,if_true]
   exact JC l (i+1) s
  ·by_cases h2:x=AF
   ·simp only[h1,h2,if_true]
    rfl
   ·simp only[h1,h2,if_false]
    exact JC l (i+1) _
theorem Vf(l:List aa)(hl:∀x∈l,nP x<=bk)(hn:l.length<9223372036854775808):E1 l=some (TE l none):=by
 unfold E1 AX
 have h:=oT l hn (fun i (s:Option aa)=>(s.isSome,i,(0:Int),([]:ag),(0:Int),([]:List aa),(s.getD n7).Op,(s.getD n7).Name,(s.getD n7).N,(s.getD n7).Kids))
  (fun zz=>gf l (l.length:Int) zz.1 zz.2.1 zz.2.2.1 zz.2.2.2.1 zz.2.2.2.2.1 zz.2.2.2.2.2.1 zz.2.2.2.2.2.2.1 zz.2.2.2.2.2.2.2.1 zz.2.2.2.2.2.2.2.2.1 zz.2.2.2.2.2.2.2.2.2) (fun _ _=>True) (fun _ x s=>Ve x s) (fun s=>.inr (t8 ic (s.getD n7)))
  (fun i hi s _=>⟨?_,fun _ _=>trivial⟩) (fun s _=>?_) 0 none (vaP _) trivial
 ·have hr:=JC l 0 none
  rw[va6]at h
  have hc:gg true=some n7:=rfl
  rw[hc]
  simp only[vaa]
  have h':loop (fun(zz:Bool×Int×Int×ag×Int×(List aa)×Int×ag×Int×(List aa))=>gf l (l.length:Int) zz.1 zz.2.1 zz.2.2.1 zz.2.2.2.1 zz.2.2.2.2.1 zz.2.2.2.2.2.1 zz.2.2.2.2.2.2.1 zz.2.2.2.2.2.2.2.1 zz.2.2.2.2.2.2.2.2.1 zz.2.2.2.2.2.2.2.2.2) (false,0,0,([]:ag),0,([]:List aa),n7.Op,n7.Name,n7.N,n7.Kids)=_:=h
  rw[h']
  simp only[vaa]
  rw[<-hr]
  cases pr (fun _ x s=>Ve x s) (fun s=>Sum.inr (t8 ic (s.getD n7))) l 0 none<;>rfl
 ·show gf l (l.length:Int) s.isSome (i:Int) 0 [] 0 [] _ _ _ _=_
  unfold gf Ve
  have hx:=hl _ (vat hi)
  rw[vaj (by simp;omega),bj l i hi]
  simp only[vaa]
  generalize l[i]=x at hx
  rw[O6 x hx]
  simp only[vaa]
  by_cases h1:CS x=true
  ·simp only[h1,if_true]
  ·have hc:gg false=some AF:=rfl
   simp only[h1,if_false,hc,vaa,Fe x AF hx]
   by_cases h2:x=AF
   ·simp only[h2,decide_true,if_true]
    rfl
   ·simp only[h2,decide_false,if_false,va3,BC x hx,vaa]
    cases s with
    |none=>simp[Xr]
    |some q=>
     simp[Xr,wH]
     exact⟨rfl,rfl,rfl,rfl⟩
 ·show gf l (l.length:Int) s.isSome (l.length:Int) 0 [] 0 [] _ _ _ _=_
  unfold gf
  rw[van (by simp)]
  rfl
theorem VM{l:List ag}{v:ag}:(match l.findIdx? (fun x=>x==v)with|some j=>(j:Int)|none=>-1)>=0↔v∈l:=by
 cases h:l.findIdx? (fun x=>x==v)with
 | none =>
  rw[vcc]at h
  simp only
  constructor
  ·intro h';omega
  ·intro hm;have:=h v hm;simp at this
 | some j =>
  obtain⟨hj,h1,_⟩:=List.findIdx?_eq_some_iff_getElem.1 h
  simp only
  constructor
  ·intro _
   have:l[j]=v:=by simpa using h1
   exact this▸vat hj
  ·intro _;omega
theorem PV(l:List ag)(v:ag)(hl:l.length<9223372036854775808):ph l v=some (match l.findIdx? (fun x=>x==v)with|some j=>(j:Int)|none=>-1):=by
 unfold ph rO
 have h:=MQ l hl (fun zz=>ez l v (l.length:Int) zz) (fun x=>x==v) (fun j=>Sum.inl (j:Int)) (.inr ()) (fun i hi=>?_) ?_
 ·rw[h]
  simp only[vaa]
  cases l.findIdx? (fun x=>x==v)<;>rfl
 ·show ez l v (l.length:Int) (i:Int)=_
  unfold ez
  rw[vaj (by simp;omega),bj l i hi]
  simp only[vaa]
  by_cases he:v=l[i]
  ·subst he;simp
  ·have he':¬l[i]=v:=fun h=>he h.symm
   simp[he,he']
 ·show ez l v (l.length:Int) (l.length:Int)=_
  unfold ez
  rw[van (by simp)]
theorem uW(l:List ag)(v:ag)(hl:l.length<9223372036854775808):eJ l v=some (decide (v∈l)):=by
 unfold eJ
 rw[PV l v hl]
 simp only[vaa]
 congr 1
 exact decide_eq_decide.2 VM
def eK{α:Type}(o:Option α)(Q:α->Prop):Prop:=∃a,o=some a/\Q a
section
variable{α β σ τ X Y:Type}
theorem aj{a:α}{Q:α->Prop}(h:Q a):eK (some a) Q:=⟨a,rfl,h⟩
theorem O3{o:Option α}{a:α}{Q:α->Prop}(e:o=some a)(h:Q a):eK o Q:=⟨a,e,h⟩
theorem au{o:Option α}{f:α->Option β}{R:α->Prop}{Q:β->Prop}(h:eK o R)(h':∀a,R a->eK (f a) Q):eK (o.bind f) Q:=by
 obtain⟨a,rfl,h⟩:=h
 exact h' a h
theorem cp{o:Option α}{a:α}{f:α->Option β}{Q:β->Prop}(e:o=some a)(h:eK (f a) Q):eK (o.bind f) Q:=by
 rw[e];exact h
theorem eK.mono{o:Option α}{Q R:α->Prop}(h:eK o Q)(h':∀a,Q a->R a):eK o R:=by
 obtain⟨a,e,h⟩:=h
 exact⟨a,e,h' a h⟩
theorem aG{c:Prop}[Decidable c]{a b:Option α}{Q:α->Prop}(h1:c->eK a Q)(h2:¬c->eK b Q):eK (if c then a else b) Q:=by
 by_cases h:c
 ·rw[vaj h];exact h1 h
 ·rw[van h];exact h2 h
theorem lq{F:(X->Option Y)->X->Option Y}(μ:X->Nat)(P:X->Prop)(Q:X->Y->Prop)(h:∀(R:X->Option Y) x,P x->(∀y,μ y<μ x->P y->eK (R y) (Q y))->eK (F R x) (Q x))(x:X)(hx:P x)(hm:μ x<Xx):eK (oP F x) (Q x):=by
 have key:∀n x,μ x<n->P x->eK (qbi F n x) (Q x):=by
  intro n
  induction n with
  |zero=>intro x hx;omega
  |succ n ih=>intro x hx hq;exact h _ x hq fun y hy hqy=>ih y (by omega) hqy
 exact key _ x hm hx
theorem xa(l:List α)(hl:l.length<9223372036854775808)(mk:Int->σ->τ){body:τ->Option (τ⊕X)}(I:Nat->σ->Prop){Q:X->Prop}
  (hin:∀(i:Nat) (h:i<l.length) s,I i s->eK (body (mk i s)) (fun r=>match r with|.inl t=>∃s',t=mk (aO ((i:Int)+1)) s'/\I (i+1) s'|.inr y=>Q y))
  (hend:∀s,I l.length s->eK (body (mk l.length s)) (fun r=>match r with|.inl _=>False|.inr y=>Q y)):∀s,I 0 s->eK (loop body (mk 0 s)) Q:=by
 have key:∀k i s,k+i=l.length->I i s->eK (loop body (mk (i:Int) s)) Q:=by
  intro k
  induction k with
  |zero=>
   intro i s hi hI
   have:i=l.length:=by omega
   subst this
   obtain⟨r,e,hr⟩:=hend s hI
   rw[oS,e]
   cases r with
   |inl _=>exact hr.elim
   |inr y=>exact⟨y,rfl,hr⟩
  | succ k ih =>
   intro i s hi hI
   obtain⟨r,e,hr⟩:=hin i (by omega) s hI
   rw[oS,e]
   cases r with
   |inl t=>
    obtain⟨s',rfl,hI'⟩:=hr
    simp only
    rw[dA (by omega) (by omega),show((i:Int)+1)=((i+1:Nat):Int) by omega]
    exact ih (i+1) s' (by omega) hI'
   |inr y=>exact⟨y,rfl,hr⟩
 exact fun s hs=>key l.length 0 s (by omega) hs
end
section
variable{α β σ τ X Y:Type}
theorem sW(l:List α)(hl:l.length<=1073741824)(mk:Int->List β->τ)(body:τ->Option (τ⊕X))(h:α->Option β)(g:α->β)(e:List β->X)
  (hb:∀(i:Int) (s:List β),body (mk i s)=if decide (i<(l.length:Int))=true then(cH l i).bind (fun x=>(h x).bind fun r=>(app s ([r]:List β)).bind fun q=>some (.inl (mk (aO (i+1)) q)))else some (.inr (e s)))
  (hg:∀x∈l,h x=some (g x)):loop body (mk 0 [])=some (e (l.map g)):=by
 refine P8 l (by omega) mk body g e (fun i hi s hs=>?_) (fun s=>?_)
 ·rw[hb,vaj (by simp;omega),bj l i hi]
  simp only[vaa]
  rw[hg _ (vat hi)]
  simp only[vaa]
  rw[dG (by simp;omega)]
  rfl
 ·rw[hb,van (by simp)]
theorem kX(l:List α)(hl:l.length<9223372036854775808)(mk:Int->σ->τ)(body:τ->Option (τ⊕X))(k:Int->σ->α->Option (τ⊕X))(I:Nat->σ->Prop)(g:α->σ->σ)(e:σ->X)(s0:σ)(h0:I 0 s0)
  (hb:∀(i:Int) (s:σ),body (mk i s)=if decide (i<(l.length:Int))=true then(cH l i).bind (k i s)else some (.inr (e s)))
  (hin:∀(i:Nat) (h:i<l.length) s,I i s->k i s l[i]=some (.inl (mk (aO ((i:Int)+1)) (g l[i] s)))/\I (i+1) (g l[i] s)):loop body (mk 0 s0)=some (e (l.foldl (fun s x=>g x s) s0)):=by
 have:=oT l hl mk body I (fun _ x s=>.inl (g x s)) e (fun i h s hs=>⟨?_,fun s' hs'=>by cases hs';exact(hin i h s hs).2⟩) (fun s hs=>by rw[hb,van (by simp)]) 0 s0 (vaP _) h0
 ·rw[va6,show((0:Nat):Int)=0 from rfl]at this
  rw[this]
  have key:∀(l:List α) (i:Nat) (s:σ),pr (fun _ x (s:σ)=>(Sum.inl (g x s):σ⊕X)) e l i s=e (l.foldl (fun s x=>g x s) s):=by
   intro l
   induction l with
   |nil=>intro i s;rfl
   |cons x l ih=>intro i s;unfold pr;simp only;rw[ih];rfl
  rw[key]
 ·rw[hb,vaj (by simp;omega),bj l i h]
  simp only[vaa]
  exact(hin i h s hs).1
theorem Nj(l:List α)(hl:l.length<9223372036854775808)(mk:Int->σ->τ){body:τ->Option (τ⊕X)}(k:Int->σ->α->Option (τ⊕X))(e:σ->X)(I:Nat->σ->Prop){Q:X->Prop}
  (hb:∀(i:Int) (s:σ),body (mk i s)=if decide (i<(l.length:Int))=true then(cH l i).bind (k i s)else some (.inr (e s)))
  (hin:∀(i:Nat) (h:i<l.length) s,I i s->eK (k i s l[i]) (fun r=>match r with|.inl t=>∃s',t=mk (aO ((i:Int)+1)) s'/\I (i+1) s'|.inr y=>Q y))
  (hend:∀s,I l.length s->Q (e s)):∀s,I 0 s->eK (loop body (mk 0 s)) Q:=
 xa l hl mk I (fun i h s hs=>by
  rw[hb,vaj (by simp;omega),bj l i h]
  exact hin i h s hs) (fun s hs=>by
  rw[hb,van (by simp)]
  exact⟨_,rfl,hend s hs⟩)
theorem UV(l:List α)(hl:l.length<9223372036854775808){body:Int->Option (Int⊕X)}(k:Int->α->Option (Int⊕X))(e:X)(I:Nat->Prop){Q:X->Prop}
  (hb:∀(i:Int),body i=if decide (i<(l.length:Int))=true then(cH l i).bind (k i)else some (.inr e))
  (hin:∀(i:Nat) (h:i<l.length),I i->eK (k i l[i]) (fun r=>match r with|.inl t=>t=aO ((i:Int)+1)/\I (i+1)|.inr y=>Q y))
  (hend:I l.length->Q e) (h0:I 0):eK (loop body 0) Q:=
 Nj l hl (fun i (_:Unit)=>i) (fun i _=>k i) (fun _=>e) (fun i _=>I i) (fun i _=>hb i) (fun i h s hs=>(hin i h hs).mono fun r hr=>by
  cases r with
  |inl t=>exact⟨(),hr.1,hr.2⟩
  |inr y=>exact hr) (fun _ h=>hend h) () h0
end
def Am{α:Type}(p:α->α->Bool):List α->List α->Bool
 |[],[]=>true
 |x::a,y::b=>p x y&&Am p a b
 |_,_=>false
theorem Pw{α:Type}{p:α->α->Bool}:∀{a b:List α},Am p a b=true->a.length=b.length
 |[],[],_=>rfl
 |x::a,y::b,h=>by
  rw[Am,vag]at h
  simp[Pw h.2]
 |[],y::b,h=>by simp[Am]at h
 |x::a,[],h=>by simp[Am]at h
theorem Xo{α:Type}{p:α->α->Bool}:∀{a b:List α},a.length≠b.length->Am p a b=false:=fun{a b} h=>by
 rw[vcj]
 exact fun he=>h (Pw he)
theorem Px{α:Type}{p:α->α->Bool}:∀{a b:List α},a.length=b.length->(a.zip b).any (fun x=>!p x.1 x.2)= !Am p a b
 |[],[],_=>rfl
 |x::a,y::b,h=>by
  rw[List.zip_cons_cons,List.any_cons,Px (by simpa using h),Am]
  cases p x y<;>rfl
theorem Uh{α X:Type}{a b:List α}(hl:a.length=b.length)(ha:a.length<9223372036854775808)(body:Int->Option (Int⊕X))(k:Int->α->α->Option (Int⊕X))(p:α->α->Bool)(y e:X)
  (hb:∀(i:Int),body i=if decide (i<(a.length:Int))=true then(cH a i).bind (fun x=>(cH b i).bind (k i x))else some (.inr e))
  (hk:∀x∈a,∀z∈b,∀i,k i x z=some (if p x z=true then .inl (aO (i+1))else .inr y)):loop body 0=some (if Am p a b=true then e else y):=by
 have hz:(a.zip b).length=a.length:=by simp[hl]
 have:=Kr (a.zip b) (by omega) body (fun x=>!p x.1 x.2) y e (fun i h=>?_) (by rw[hb,van (by simp[hz])]) 0 (vaP _)
 ·rw[va6,Px hl]at this
  rw[show((0:Nat):Int)=0 from rfl]at this
  rw[this]
  by_cases h:Am p a b=true<;>simp[h]
 ·have h1:i<a.length:=by omega
  have h2:i<b.length:=by omega
  rw[hb,vaj (by simp;omega),bj a i h1]
  simp only[vaa]
  rw[bj b i h2]
  simp only[vaa]
  rw[hk _ (vat h1) _ (vat h2)]
  have hzi:(a.zip b)[i]=(a[i],b[i]):=by simp
  rw[hzi]
  by_cases h:p a[i] b[i]=true<;>simp[h]
theorem nQ{α:Type}(l:List α)(h:l.length<=1073741824):kK l=some l:=vaj h
mutual
def dP:aa->Nat
 |⟨_,_,_,ks⟩=>dL ks+1
def dL:List aa->Nat
 |[]=>0
 |p::ps=>max (dP p) (dL ps)
end
theorem qbf(p:aa):dP p=dL p.Kids+1:=by obtain⟨o,n,k,ks⟩:=p;rw[dP];rfl
mutual
theorem YK:∀(p:aa),dP p<=nP p
 |⟨o,n,k,ks⟩=>by have:=YJ ks;rw[dP,nP];omega
theorem YJ:∀(l:List aa),dL l<=nL l
 |[]=>by simp[dL]
 |p::l=>by have:=YK p;have:=YJ l;rw[dL,nL];omega
end
theorem SP:∀(l:List aa) (a:Nat),l.foldl (fun(s:Int) x=>if(dP x:Int)>s then(dP x:Int)else s) (a:Int)=((max a (dL l):Nat):Int)
 |[],a=>by simp[dL]
 |x::l,a=>by
  rw[List.foldl_cons,show(if(dP x:Int)>(a:Int)then(dP x:Int)else(a:Int))=((max a (dP x):Nat):Int) by split<;>omega,SP l,dL,Nat.max_assoc]
theorem VH(p:aa)(hp:nP p<=bk):Fx p=some (dP p:Int):=by
 refine jl (F:=zx) nP (fun x=>nP x<=bk) (fun x=>(dP x:Int)) (fun R x hx ih=>?_) p hp (fq hp)
 show uD (fun p=>R p) x=_
 unfold uD xn
 have hlen:=tT x
 have hd:=YK x
 have he:=qbf x
 have hz:(0:Int)=((0:Nat):Int):=rfl
 rw[kX x.Kids (by unfold bk at hx;omega) (fun i s=>(s,i)) _ (fun i s x=>(R x).bind fun r=>some (.inl ((if r>s then r else s),aO (i+1)))) (fun _ _=>True) (fun x s=>if(dP x:Int)>s then(dP x:Int)else s) id 0 trivial (fun i s=>rfl) (fun i hi s _=>⟨?_,trivial⟩)]
 ·rw[hz,SP]
  simp only[id,vaa]
  unfold bk at hx
  rw[dA (by omega) (by omega)]
  congr 1;omega
 ·have hm:=vat hi
  have hk:=oR hm
  rw[ih _ hk (by omega)]
  rfl
def tU(ns:List ag)(bs:List aa)(n:ag):Option aa:=(ns.findIdx? (fun x=>x==n)).bind fun j=>bs[j]?
mutual
def Hk(f:ag->Option aa):aa->aa
 |⟨o,n,k,ks⟩=>(if o=3 then f n else none).getD ⟨o,n,k,Tl f ks⟩
def Tl(f:ag->Option aa):List aa->List aa
 |[]=>[]
 |p::ps=>Hk f p::Tl f ps
end
theorem OY(f:ag->Option aa):∀(l:List aa),Tl f l=l.map (Hk f)
 |[]=>by rw[Tl];rfl
 |p::l=>by rw[Tl,OY f l];rfl
theorem ZV(f:ag->Option aa)(p:aa):Hk f p=(if p.Op=3 then f p.Name else none).getD ⟨p.Op,p.Name,p.N,p.Kids.map (Hk f)⟩:=by
 obtain⟨o,n,k,ks⟩:=p
 rw[Hk,OY];rfl
mutual
theorem YX(f:ag->Option aa)(M:Nat)(hM:1<=M)(hf:∀n q,f n=some q->nP q<=M):∀(p:aa),nP (Hk f p)<=nP p * M
 | ⟨o,n,k,ks⟩ => by
  have:=YW f M hM hf ks
  rw[Hk]
  cases h:(if o=3 then f n else none)with
  |none=>
   simp only[Option.getD_none]
   rw[nP,nP,va7];omega
  | some q =>
   simp only[Option.getD_some]
   have:f n=some q:=by
    split at h
    ·exact h
    ·cases h
   have:=hf n q this
   rw[nP,va7]
   have:0<=nL ks * M:=vaP _
   omega
theorem YW(f:ag->Option aa)(M:Nat)(hM:1<=M)(hf:∀n q,f n=some q->nP q<=M):∀(l:List aa),nL (Tl f l)<=nL l * M
 |[]=>by simp[Tl,nL]
 |p::l=>by
  have:=YX f M hM hf p
  have:=YW f M hM hf l
  rw[Tl,nL,nL,va7];omega
end
theorem Wa{ns:List ag}{bs:List aa}{n:ag}{q:aa}(h:tU ns bs n=some q):q∈bs:=by
 unfold tU at h
 cases hf:ns.findIdx? (fun x=>x==n)with
 |none=>rw[hf]at h;cases h
 |some j=>
  rw[hf]at h
  exact vaz h
theorem X5(ns:List ag)(bs:List aa)(p:aa)(hn:ns.length<9223372036854775808)(hb:∀q∈bs,nP q<=bk):lJ ns bs p=some ((if p.Op=3 then tU ns bs p.Name else none).elim (.inr ()) (fun q=>.inl (q.Op,q.Name,q.N,q.Kids))):=by
 unfold lJ pX tU Dx
 by_cases h1:p.Op=3
 ·rw[vaj (by simpa using h1),PV ns p.Name hn,vaj h1]
  simp only[vaa]
  cases hf:ns.findIdx? (fun x=>x==p.Name)with
  |none=>rfl
  | some j =>
   simp only[vaa]
   rw[vaj (vbr (show(j:Int)>=0 by omega))]
   simp only[vaa]
   by_cases h2:j<bs.length
   ·rw[vaj (vbr (by omega)),bj bs j h2,vab h2]
    simp only[vaa]
    rw[BC _ (hb _ (vat h2))]
    rfl
   ·rw[van (by simp;omega),vau (by omega)]
    rfl
 ·rw[van (by simpa using h1),van h1]
  rfl
theorem IK(p:aa)(ns:List ag)(bs:List aa)(hp:nP p<=bk)(hn:ns.length<9223372036854775808)(hb:∀q∈bs,nP q<=bk):io p ns bs=some (Hk (tU ns bs) p):=by
 refine jl (F:=rH) (fun x=>nP x.1) (fun x=>nP x.1<=bk/\x.2=(ns,bs)) (fun x=>Hk (tU x.2.1 x.2.2) x.1) (fun R x hx ih=>?_) (p,ns,bs) ⟨hp,rfl⟩ (fq hp)
 obtain⟨p,ns',bs'⟩:=x
 obtain⟨hx,he⟩:=hx
 cases he
 have hx:nP p<=bk:=hx
 show nk (fun p names a=>R (p,names,a)) p ns bs=some (Hk (tU ns bs) p)
 unfold nk
 rw[X5 ns bs p hn hb,ZV]
 cases h:(if p.Op=3 then tU ns bs p.Name else none)with
 |some q=>
  simp only[Option.elim,vaa,wH,Option.getD_some]
 |none=>
  simp only[Option.elim,vaa,Option.getD_none]
  unfold pY
  have hlen:=tT p
  rw[sW p.Kids (by unfold bk at hx;omega) (fun i s=>(i,s)) _ (fun y=>R (y,ns,bs)) (Hk (tU ns bs)) id (fun i s=>rfl) (fun y hy=>ih (y,ns,bs) (oR hy) ⟨by have:=oR hy;show nP y<=bk;omega,rfl⟩)]
  rfl
def KP(v:ag)(q:aa)(n:ag):Option aa:=if n=v then some q else none
theorem Wb(v:ag)(q:aa):tU [v] [q]=KP v q:=by
 funext n
 unfold tU KP
 rw[vcL]
 by_cases h:n=v
 ·subst h;simp
 ·have h':(v==n)=false:=by simpa using fun e=>h e.symm
  simp[h',h]
theorem M5(p:aa)(v:ag)(q:aa)(hp:nP p<=bk)(hq:nP q<=bk):ub p v q=some (Hk (KP v q) p):=by
 unfold ub
 rw[IK p [v] [q] hp (by simp) (by simpa using hq),Wb]
 rfl
mutual
def cq:ae->Nat
 |⟨_,_,xs,ns,_,ps⟩=>cG xs+ns.length+ps.length+1
def cG:List ae->Nat
 |[]=>0
 |a::xs=>cq a+cG xs
end
theorem qw(t:ae):cq t=cG t.Args+t.Names.length+t.Preds.length+1:=by obtain⟨o,n,xs,ns,p,ps⟩:=t;rw[cq];rfl
theorem mP(t:ae):1<=cq t:=by rw[qw];omega
theorem Gh:∀{l:List ae} {x:ae},x∈l->cq x<=cG l
 | y :: l,x,h => by
  rw[cG]
  rcases vaA.1 h with rfl|h
  ·omega
  ·have:=Gh h;omega
theorem BG:∀(l:List ae),l.length<=cG l
 |[]=>by simp[cG]
 |p::l=>by rw[cG];have:=BG l;have:=mP p;simp only[vaO];omega
theorem ig{t a:ae}(h:a∈t.Args):cq a<cq t:=by rw[qw t];have:=Gh h;omega
theorem gX(t:ae):t.Args.length<cq t:=by rw[qw];have:=BG t.Args;omega
theorem nU(t:ae):t.Names.length<cq t:=by rw[qw];omega
theorem GB(t:ae):t.Preds.length<cq t:=by rw[qw];omega
mutual
def F6(Q:aa->Prop):ae->Prop
 |⟨_,_,xs,_,p,ps⟩=>Q p/\(∀q∈ps,Q q)/\Ap Q xs
def Ap(Q:aa->Prop):List ae->Prop
 |[]=>True
 |a::xs=>F6 Q a/\Ap Q xs
end
theorem Vc(Q:aa->Prop)(t:ae):F6 Q t↔Q t.Pred/\(∀q∈t.Preds,Q q)/\Ap Q t.Args:=by obtain⟨o,n,xs,ns,p,ps⟩:=t;rw[F6];rfl
theorem Mo(Q:aa->Prop):∀(l:List ae),Ap Q l↔∀t∈l,F6 Q t
 |[]=>by simp[Ap]
 |a::l=>by rw[Ap,Mo Q l];simp
mutual
theorem Mp{Q R:aa->Prop}(h:∀p,Q p->R p):∀(t:ae),F6 Q t->F6 R t
 |⟨_,_,xs,_,p,ps⟩,ht=>by
  rw[F6]at ht ⊢
  exact⟨h _ ht.1,fun q hq=>h _ (ht.2.1 q hq),JB h xs ht.2.2⟩
theorem JB{Q R:aa->Prop}(h:∀p,Q p->R p):∀(l:List ae),Ap Q l->Ap R l
 |[],_=>trivial
 |a::xs,hl=>by
  rw[Ap]at hl ⊢
  exact⟨Mp h a hl.1,JB h xs hl.2⟩
end
theorem YT(l:List aa):l.length<=bK (l.map ac):=by
 have:=pQ l
 have:=S1 l
 omega
theorem V4(l:List ag):l.length<=bK (l.map cS):=by
 have h:=Qp (l.map cS) (fun x hx=>by
  obtain⟨s,_,rfl⟩:=vap.1 hx
  simp only[cS,fU,pm];omega)
 rwa[vaL]at h
theorem wR(t:ae):fU (af t)=1+(pm (.str t.Name)+(pm (sl af t.Args)+(pm (sl cS t.Names)+(1+(pm (.str t.Pred.Name)+(1+(pm (sl ac t.Pred.Kids)+(pm (sl ac t.Preds)+0)))))))):=by
 rw[bz];rfl
mutual
theorem SY:∀(t:ae),cq t<=fU (af t)
 |⟨o,n,xs,ns,p,ps⟩=>by
  have h1:=P0 xs
  have h2:=YT ps
  have h3:=V4 ns
  rw[cq,wR]
  show _<=1+(pm (.str n)+(pm (sl af xs)+(pm (sl cS ns)+(1+(pm (.str p.Name)+(1+(pm (sl ac p.Kids)+(pm (sl ac ps)+0))))))))
  simp only[pm,sl]
  omega
theorem P0:∀(l:List ae),cG l<=bK (l.map af)
 |[]=>by simp[cG]
 |a::l=>by
  have:=SY a
  have:=P0 l
  rw[cG]
  simp only[vax,bK]
  omega
end
theorem X1(t:ae):nP t.Pred<=fU (af t):=by
 have h:=S1 t.Pred.Kids
 rw[Ku,wR]
 simp only[pm,sl]
 omega
mutual
theorem Sw(B:Nat):∀(t:ae),fU (af t)<=B->F6 (fun p=>nP p<=B) t
 |⟨o,n,xs,ns,p,ps⟩,h=>by
  have h0:=X1 ⟨o,n,xs,ns,p,ps⟩
  rw[wR]at h h0
  have h:1+(pm (.str n)+(pm (sl af xs)+(pm (sl cS ns)+(1+(pm (.str p.Name)+(1+(pm (sl ac p.Kids)+(pm (sl ac ps)+0))))))))<=B:=h
  have h0:nP p<=1+(pm (.str n)+(pm (sl af xs)+(pm (sl cS ns)+(1+(pm (.str p.Name)+(1+(pm (sl ac p.Kids)+(pm (sl ac ps)+0)))))))):=h0
  simp only[pm,sl]at h h0
  rw[F6]
  refine⟨by omega,fun q hq=>?_,PA B xs (by omega)⟩
  have h1:=YU q
  have h2:=ua (vap.2 ⟨q,hq,rfl⟩:ac q∈ps.map ac)
  omega
theorem PA(B:Nat):∀(l:List ae),bK (l.map af)<=B->Ap (fun p=>nP p<=B) l
 |[],_=>trivial
 |a::xs,h=>by
  simp only[vax,bK]at h
  rw[Ap]
  exact⟨Sw B a (by omega),PA B xs (by omega)⟩
end
section
variable{α β σ τ X Y:Type}
theorem RU(l:List α)(hl:l.length<9223372036854775808)(mk:Int->τ)(body:τ->Option (τ⊕X))(f:α->Option X)(e:X)
  (hin:∀(i:Nat) (h:i<l.length),body (mk (i:Int))=some ((f l[i]).elim (.inl (mk (aO ((i:Int)+1)))) .inr)) (hend:body (mk l.length)=some (.inr e)):loop body (mk 0)=some ((l.findSome? f).elim e id):=by
 have key:∀k i,k+i=l.length->loop body (mk (i:Int))=some (((l.drop i).findSome? f).elim e id):=by
  intro k
  induction k with
  |zero=>
   intro i hi
   have:i=l.length:=by omega
   subst this
   rw[oS,hend,vbY]
   rfl
  | succ k ih =>
   intro i hi
   rw[oS,hin i (by omega),va5 (by omega),List.findSome?_cons]
   cases h:f l[i]with
   |none=>
    simp only[Option.elim]
    rw[dA (by omega) (by omega),show((i:Int)+1)=((i+1:Nat):Int) by omega]
    exact ih (i+1) (by omega)
   |some y=>rfl
 have:=key l.length 0 (by omega)
 rw[va6]at this
 exact this
theorem nZ{A:Type}(l:List α)(hl:l.length<9223372036854775808){body:Int->Option (Int⊕(A⊕Unit))}(k:Int->α->Option (Int⊕(A⊕Unit)))(P:α->Prop)(B:A->Prop)
  (hb:∀(i:Int),body i=if decide (i<(l.length:Int))=true then(cH l i).bind (k i)else some (.inr (.inr ())))
  (hk:∀x∈l,∀i,eK (k i x) (fun r=>r.elim (fun t=>t=aO (i+1)/\P x) (fun y=>y.elim B (fun _=>False)))):eK (loop body 0) (fun r=>r.elim B (fun _=>∀x∈l,P x)):=by
 refine UV l hl k (.inr ()) (fun i=>∀j (h:j<l.length),j<i->P l[j]) hb (fun i hi hI=>(hk _ (vat hi) i).mono fun r hr=>?_) (fun hI x hx=>?_) (fun j _ h=>absurd h (vaR _))
 ·cases r with
  | inl t =>
   refine⟨hr.1,fun j hj h=>?_⟩
   by_cases he:j=i
   ·subst he;exact hr.2
   ·exact hI j hj (by omega)
  |inr y=>cases y with
   |inl a=>exact hr
   |inr u=>exact hr.elim
 ·obtain⟨j,hj,rfl⟩:=vcE hx
  exact hI j hj hj
end
theorem Fg{a b:List ag}{x:ag}:x∈Iv a b↔x∈a\/x∈b:=(KX a b).2 x
theorem QM(a b:List ag):Yx (Iv a b):=(KX a b).1
theorem WW{a b c d:List ag}(h:∀x,(x∈a\/x∈b)↔(x∈c\/x∈d)):Iv a b=Iv c d:=
 Kd (QM a b) (QM c d) fun x=>by rw[Fg,Fg];exact h x
theorem QN(a b:List ag):(Iv a b).length<=a.length+b.length:=by
 have h1:=G4 (lk (a++b))
 have h2:=pj (a++b)
 rw[vae]at h2
 unfold Iv
 omega
def px{α σ:Type}(g:Nat->α->σ->σ):List α->Nat->σ->σ
 |[],_,s=>s
 |x::l,i,s=>px g l (i+1) (g i x s)
theorem RV{α σ τ X:Type}(l:List α)(hl:l.length<9223372036854775808)(mk:Int->σ->τ)(body:τ->Option (τ⊕X))(k:Int->σ->α->Option (τ⊕X))(I:Nat->σ->Prop)(g:Nat->α->σ->σ)(e:σ->X)(s0:σ)(h0:I 0 s0)
  (hb:∀(i:Int) (s:σ),body (mk i s)=if decide (i<(l.length:Int))=true then(cH l i).bind (k i s)else some (.inr (e s)))
  (hin:∀(i:Nat) (h:i<l.length) s,I i s->k i s l[i]=some (.inl (mk (aO ((i:Int)+1)) (g i l[i] s)))/\I (i+1) (g i l[i] s)):loop body (mk 0 s0)=some (e (px g l 0 s0)):=by
 have:=oT l hl mk body I (fun i x s=>.inl (g i x s)) e (fun i h s hs=>⟨?_,fun s' hs'=>by cases hs';exact(hin i h s hs).2⟩) (fun s hs=>by rw[hb,van (by simp)]) 0 s0 (vaP _) h0
 ·rw[va6,show((0:Nat):Int)=0 from rfl]at this
  rw[this]
  have key:∀(l:List α) (i:Nat) (s:σ),pr (fun i x (s:σ)=>(Sum.inl (g i x s):σ⊕X)) e l i s=e (px g l i s):=by
   intro l
   induction l with
   |nil=>intro i s;rfl
   |cons x l ih=>intro i s;unfold pr;simp only;rw[ih];rfl
  rw[key]
 ·rw[hb,vaj (by simp;omega),bj l i h]
  simp only[vaa]
  exact(hin i h s hs).1
mutual
def Pe:aa->List ag
 |⟨o,n,k,ks⟩=>(if o=3 then[n]else[])++Pd ks
def Pd:List aa->List ag
 |[]=>[]
 |p::ps=>Pe p++Pd ps
end
theorem Tr{x:ag}:∀{l:List aa},x∈Pd l↔∃p∈l,x∈Pe p
 |[]=>by simp[Pd]
 |p::l=>by rw[Pd,vaD,Tr];simp
mutual
theorem IM:∀(p:aa),(Pe p).length<=nP p
 |⟨o,n,k,ks⟩=>by
  have:=O7 ks
  rw[Pe,nP,vae]
  split<;>simp<;>omega
theorem O7:∀(l:List aa),(Pd l).length<=nL l
 |[]=>by simp[Pd]
 |p::l=>by
  have:=IM p
  have:=O7 l
  rw[Pd,nL,vae];omega
end
mutual
theorem QV:∀(p:aa) (s:List ag),nP p<=bk->s.length+(Pe p).length<=1073741824->O5 qU p s=some (true,s++Pe p)
 | ⟨o,n,k,ks⟩,s,hp,hs => by
  rw[nP]at hp
  rw[Pe,vae]at hs
  have hk:=pQ ks
  have h1:qU s ⟨o,n,k,ks⟩=some (true,s++(if o=3 then[n]else[])):=by
   unfold qU
   show(if(o==3)=true then(app s [n]).bind fun l=>some (true,l)else some (true,s))=_
   by_cases h:o=3
   ·rw[vaj (by simpa using h),vaj h,dG (by rw[vaj h]at hs;simp at hs ⊢;omega)]
    rfl
   ·rw[van (by simpa using h),van h,va4]
  have h2:=Nl ks (s++(if o=3 then[n]else[])) (by omega) (by rw[vae];omega)
  rw[O5,h1]
  simp only[vaa]
  rw[vaj (by unfold bk at hp;omega),h2,Pe,va8]
theorem Nl:∀(l:List aa) (s:List ag),nL l<=bk->s.length+(Pd l).length<=1073741824->O4 qU l s=some (true,s++Pd l)
 |[],s,_,_=>by rw[O4,Pd,va4]
 |p::l,s,hp,hs=>by
  rw[nL]at hp
  rw[Pd,vae]at hs
  rw[O4,QV p s (by omega) (by omega)]
  simp only[vaa]
  rw[Nl l _ (by omega) (by rw[vae];omega),Pd,va8]
end
def kU(p:aa):List ag:=Iv (Pe p) []
theorem MI{p:aa}{x:ag}:x∈kU p↔x∈Pe p:=by unfold kU;rw[Fg];simp
theorem BF(p:aa):(kU p).length<=nP p:=by
 have h1:=QN (Pe p) []
 have h2:=IM p
 unfold kU
 simp at h1
 omega
theorem Ql(p:aa)(hp:nP p<=400000000):pW p=some (kU p):=by
 have h:=IM p
 unfold pW
 rw[QV p [] (by unfold bk;omega) (by simp;omega)]
 simp only[vaa,vaE]
 rw[AN _ _ (by simp;omega)]
 rfl
def Em(o:Int)(ns:List ag)(i:Nat):List ag:=if o=6 then ns.take i else[]
mutual
def vT:ae->List ag
 |⟨o,n,xs,ns,p,ps⟩=>(Pe p++Pd ps).filter (fun s=>!(s==[118]))++Yt o ns 0 xs
def Yt(o:Int)(ns:List ag):Nat->List ae->List ag
 |_,[]=>[]
 |i,a::xs=>(vT a).filter (fun s=>!decide (s∈Em o ns i))++Yt o ns (i+1) xs
end
theorem qbD(t:ae):vT t=(Pe t.Pred++Pd t.Preds).filter (fun s=>!(s==[118]))++Yt t.Op t.Names 0 t.Args:=by obtain⟨o,n,xs,ns,p,ps⟩:=t;rw[vT];rfl
mutual
def wT:ae->Nat
 |⟨_,_,xs,_,p,ps⟩=>nP p+nL ps+sY xs
def sY:List ae->Nat
 |[]=>0
 |a::xs=>wT a+sY xs
end
theorem uo(t:ae):wT t=nP t.Pred+nL t.Preds+sY t.Args:=by obtain⟨o,n,xs,ns,p,ps⟩:=t;rw[wT];rfl
theorem O8:∀{l:List ae} {x:ae},x∈l->wT x<=sY l
 | y :: l,x,h => by
  rw[sY]
  rcases vaA.1 h with rfl|h
  ·omega
  ·have:=O8 h;omega
theorem Yy{t a:ae}(h:a∈t.Args):wT a<=wT t:=by rw[uo t];have:=O8 h;omega
theorem K2(l:List ae)(i:Nat)(h:i<l.length):sY (l.take (i+1))=sY (l.take i)+wT l[i]:=by
 have key:∀(a b:List ae),sY (a++b)=sY a+sY b:=by
  intro a b
  induction a with
  |nil=>simp[sY]
  |cons x a ih=>rw[vaG,sY,sY,ih];omega
 rw[vaM h,key]
 simp[sY]
theorem Hl:∀(l:List ae) (i:Nat),sY (l.take i)<=sY l
 |[],i=>by simp
 |x::l,0=>by simp[sY]
 |x::l,i+1=>by rw[List.take_succ_cons,sY,sY];have:=Hl l i;omega
mutual
theorem W3:∀(t:ae),(vT t).length<=wT t
 |⟨o,n,xs,ns,p,ps⟩=>by
  have h1:=Tp o ns 0 xs
  have h2:=IM p
  have h3:=O7 ps
  have h4:=vbb (fun s=>!(s==[118])) (Pe p++Pd ps)
  rw[vT,wT,vae]
  rw[vae]at h4
  omega
theorem Tp(o:Int)(ns:List ag):∀(i:Nat) (l:List ae),(Yt o ns i l).length<=sY l
 |i,[]=>by simp[Yt]
 |i,a::xs=>by
  have h1:=W3 a
  have h2:=Tp o ns (i+1) xs
  have h3:=vbb (fun s=>!decide (s∈Em o ns i)) (vT a)
  rw[Yt,sY,vae]
  omega
end
def freeT(t:ae):List ag:=Iv (vT t) []
theorem TZ{t:ae}{x:ag}:x∈freeT t↔x∈vT t:=by unfold freeT;rw[Fg];simp
theorem wK(t:ae):(freeT t).length<=wT t:=by
 have h1:=QN (vT t) []
 have h2:=W3 t
 unfold freeT
 simp at h1
 omega
theorem Tq{o:Int}{ns:List ag}{x:ag}:∀{l:List ae} {i:Nat},x∈Yt o ns i l↔∃(j:Nat) (h:j<l.length),x∈vT l[j]/\x∉Em o ns (i+j)
 |[],i=>by simp[Yt]
 | a :: l,i => by
  rw[Yt,vaD,Tq]
  simp only[vaS,va1,vbm]
  constructor
  ·rintro(h|⟨j,hj,h1,h2⟩)
   ·exact⟨0,by simp,by simpa using h⟩
   ·exact⟨j+1,by simp;omega,by simpa using h1,by rw[show i+(j+1)=i+1+j by omega];exact h2⟩
  ·rintro⟨j,hj,h1,h2⟩
   cases j with
   |zero=>exact .inl ⟨by simpa using h1,by simpa using h2⟩
   |succ j=>exact .inr ⟨j,by simp at hj;omega,by simpa using h1,by rw[show i+1+j=i+(j+1) by omega];exact h2⟩
theorem Yh{α:Type}(l:List α)(i:Nat)(hl:l.length<9223372036854775808):K3 l none (some (if(l.length:Int)<(i:Int)then(l.length:Int)else(i:Int)))=some (l.take i):=by
 by_cases h:l.length<i
 ·rw[vaj (by omega),Sm l l.length (vah _),vbw (vah _),vbw (by omega)]
 ·rw[van (by omega),Sm l i (by omega)]
theorem TF(t:ae)(i:Nat)(h:t.Names.length<9223372036854775808):lh t i=some (Em t.Op t.Names i):=by
 unfold lh Em
 by_cases ho:t.Op=6
 ·rw[van (by simpa using ho),Yh _ i h,vaj ho]
  rfl
 ·rw[vaj (by simpa using ho),van ho]
theorem Gg(f:ag->Bool):∀(l a:List ag),l.foldl (fun s x=>if f x=true then s++[x]else s) a=a++l.filter f
 |[],a=>by simp
 |x::l,a=>by
  rw[List.foldl_cons,Gg f l]
  by_cases h:f x=true<;>simp[h]
theorem J5{α:Type}(f:α->List ag):∀(l:List α) (a:List ag),l.foldl (fun s x=>s++f x) a=a++l.flatMap f
 |[],a=>by simp
 |x::l,a=>by rw[List.foldl_cons,J5 f l,vck,va8]
theorem MH{α:Type}(f:Nat->α->List ag):∀(l:List α) (i:Nat) (a:List ag) (x:ag),x∈px (fun i y s=>s++f i y) l i a↔x∈a\/∃(j:Nat) (h:j<l.length),x∈f (i+j) l[j]
 |[],i,a,x=>by simp[px]
 | y :: l,i,a,x => by
  rw[px,MH f l (i+1),vaD,or_assoc]
  refine or_congr_right ⟨?_,?_⟩
  ·rintro(h|⟨j,hj,h⟩)
   ·exact⟨0,by simp,by simpa using h⟩
   ·exact⟨j+1,by simp;omega,by rw[show i+(j+1)=i+1+j by omega];simpa using h⟩
  ·rintro⟨j,hj,h⟩
   cases j with
   |zero=>exact .inl (by simpa using h)
   |succ j=>exact .inr ⟨j,by simp at hj;omega,by rw[show i+1+j=i+(j+1) by omega];simpa using h⟩
theorem UC(l out:List ag)(h:out.length+l.length<=1073741824):jJ l (l.length:Int) out 0=some (out++l.filter (fun s=>!(s==[118]))):=by
 unfold jJ
 rw[kX l (by omega) (fun i s=>(s,i)) _ (fun i s x=>if(!(x==([118]:ag)))=true then(app s ([x]:List ag)).bind fun l8=>some (.inl (l8,aO (i+1)))else some (.inl (s,aO (i+1)))) (fun i s=>s.length<=out.length+i) (fun x s=>if(!(x==[118]))=true then s++[x]else s) id out (by simp) (fun i s=>rfl) (fun i hi s hs=>?_),Gg]
 ·rfl
 ·refine⟨?_,by split<;>(try rw[vae,List.length_singleton])<;>omega⟩
  by_cases hx:(!(l[i]==([118]:ag)))=true
  ·rw[vaj hx,vaj hx,dG (by simp;omega)]
   rfl
  ·rw[van hx,van hx]
theorem UD(b l out:List ag)(hb:b.length<9223372036854775808)(h:out.length+l.length<=1073741824):jK b l (l.length:Int) out 0=some (out++l.filter (fun s=>!decide (s∈b))):=by
 unfold jK
 rw[kX l (by omega) (fun i s=>(s,i)) _ (fun i s x=>(eJ b x).bind fun r17=>if(!r17)=true then(app s ([x]:List ag)).bind fun l8=>some (.inl (l8,aO (i+1)))else some (.inl (s,aO (i+1)))) (fun i s=>s.length<=out.length+i) (fun x s=>if(!decide (x∈b))=true then s++[x]else s) id out (by simp) (fun i s=>rfl) (fun i hi s hs=>?_),Gg]
 ·rfl
 ·refine⟨?_,by split<;>(try rw[vae,List.length_singleton])<;>omega⟩
  rw[uW b _ hb]
  simp only[vaa]
  by_cases hx:(!decide (l[i]∈b))=true
  ·rw[vaj hx,vaj hx,dG (by simp;omega)]
   rfl
  ·rw[van hx,van hx]
theorem UI{p:aa}{ps:List aa}{x:ag}:(∃q∈[p]++ps,x∈Pe q)↔x∈Pe p++Pd ps:=by
 rw[vaD,Tr]
 simp
theorem ZM(p:aa)(ps:List aa):nL ([p]++ps)=nP p+nL ps:=by
 rw[pP];simp[nL]
theorem UE(t:ae)(hw:wT t<=200000000)(hl:cq t<=200000000):yq t=some (freeT t):=by
 refine jl (F:=ue) cq (fun x=>wT x<=200000000/\cq x<=200000000) freeT (fun R x hx ih=>?_) t ⟨hw,hl⟩ (fq (by unfold bk;omega))
 obtain⟨hw,hl⟩:=hx
 show oX (fun t=>R t) x=_
 have h1:=gX x
 have h2:=nU x
 have h3:=GB x
 have hwe:=uo x
 have hn1:=ZM x.Pred x.Preds
 unfold oX
 rw[dG (by simp;omega)]
 simp only[vaa]
 unfold rJ
 rw[kX ([x.Pred]++x.Preds) (by simp;omega) (fun i s=>(s,i)) _ (fun i s y=>(pW y).bind fun r4=>(jJ r4 (r4.length:Int) s 0).bind fun o9=>some (.inl (o9,aO (i+1)))) (fun i s=>s.length<=nL (([x.Pred]++x.Preds).take i)) (fun y s=>s++(kU y).filter (fun s=>!(s==[118]))) id [] (by simp[nL]) (fun i s=>rfl) (fun i hi s hs=>?_),J5]
 ·simp only[id,vaa,vaE]
  have hlen0:∀(l:List aa),(l.flatMap fun y=>(kU y).filter (fun s=>!(s==[118]))).length<=nL l:=by
   intro l
   induction l with
   |nil=>simp[nL]
   |cons y l ih=>
    have g1:=vbb (fun s=>!(s==[118])) (kU y)
    have g2:=BF y
    rw[vck,vae,nL]
    omega
  have hlen:=hlen0 ([x.Pred]++x.Preds)
  have hmem:∀z,z∈(([x.Pred]++x.Preds).flatMap fun y=>(kU y).filter (fun s=>!(s==[118])))↔z∈(Pe x.Pred++Pd x.Preds).filter (fun s=>!(s==[118])):=by
   intro z
   rw[vcQ,vaS,<-UI]
   simp only[vaS,MI]
   constructor
   ·rintro⟨y,hy,h,h'⟩;exact⟨⟨y,hy,h⟩,h'⟩
   ·rintro⟨⟨y,hy,h⟩,h'⟩;exact⟨y,hy,h,h'⟩
  generalize (([x.Pred]++x.Preds).flatMap fun y=>(kU y).filter (fun s=>!(s==[118])))=o10 at hlen hmem
  unfold rK
  have hI:∀(i:Nat) (h:i<x.Args.length) (s:List ag),s.length<=o10.length+sY (x.Args.take i)->(s++(freeT x.Args[i]).filter (fun z=>!decide (z∈Em x.Op x.Names i))).length<=o10.length+sY (x.Args.take (i+1)):=fun i h s hs=>by
   have g1:=vbb (fun z=>!decide (z∈Em x.Op x.Names i)) (freeT x.Args[i])
   have g2:=wK x.Args[i]
   have g3:=K2 x.Args i h
   rw[vae];omega
  rw[RV x.Args (by omega) (fun i s=>(s,i)) _ (fun i s y=>(lh x i).bind fun r13=>(R y).bind fun r14=>(jK r13 r14 (r14.length:Int) s 0).bind fun o20=>some (.inl (o20,aO (i+1)))) (fun i s=>s.length<=o10.length+sY (x.Args.take i)) (fun i y s=>s++(freeT y).filter (fun z=>!decide (z∈Em x.Op x.Names i))) id o10 (by simp[sY]) (fun i s=>rfl) (fun i hi s hs=>⟨?_,hI i hi s hs⟩)]
  ·simp only[id,vaa]
   have hlast:(px (fun i y s=>s++(freeT y).filter (fun z=>!decide (z∈Em x.Op x.Names i))) x.Args 0 o10).length<=o10.length+sY x.Args:=by
    have key:∀(l:List ae) (i:Nat) (a:List ag),(px (fun i y s=>s++(freeT y).filter (fun z=>!decide (z∈Em x.Op x.Names i))) l i a).length<=a.length+sY l:=by
     intro l
     induction l with
     |nil=>intro i a;simp[px]
     |cons y l ih=>
      intro i a
      have g1:=vbb (fun z=>!decide (z∈Em x.Op x.Names i)) (freeT y)
      have g2:=wK y
      have g3:=ih (i+1) (a++(freeT y).filter (fun z=>!decide (z∈Em x.Op x.Names i)))
      rw[px,sY]
      rw[vae]at g3
      omega
    exact key x.Args 0 o10
   rw[AN _ _ (by simp;exact vaH hlast (by omega))]
   simp only[vaa]
   congr 1
   refine WW fun z=>?_
   rw[MH,qbD,vaD,hmem,Tq]
   simp only[vaS,TZ,va1,vbm,vaJ,or_false]
  ·have hm:=vat hi
   have g2:=wK x.Args[i]
   have g3:=K2 x.Args i hi
   have g4:=Hl x.Args (i+1)
   have g5:=ig hm
   have g6:=Yy hm
   rw[TF x i (by omega)]
   simp only[vaa]
   rw[ih _ g5 ⟨by omega,by omega⟩]
   simp only[vaa]
   have hbl:(Em x.Op x.Names i).length<9223372036854775808:=by
    unfold Em
    split
    ·rw[vaN];omega
    ·simp
   rw[UD _ _ _ hbl (by omega)]
   rfl
 ·have hm:=vat hi
  have g1:=EO ([x.Pred]++x.Preds) i hi
  have g2:=yh ([x.Pred]++x.Preds) (i+1)
  have g3:=BF ([x.Pred]++x.Preds)[i]
  have g4:=vbb (fun s=>!(s==[118])) (kU ([x.Pred]++x.Preds)[i])
  refine⟨?_,by rw[vae];omega⟩
  rw[Ql _ (by omega)]
  simp only[vaa]
  rw[UC _ _ (by omega)]
  rfl
theorem P9{σ τ X:Type}(n:Nat)(hn:n<9223372036854775808)(mk:Int->σ->τ)(body:τ->Option (τ⊕X))(F:Nat->σ)(y:X)
  (hin:∀i,i<n->body (mk (i:Int) (F i))=some (.inl (mk (aO ((i:Int)+1)) (F (i+1))))) (hend:body (mk (n:Int) (F n))=some (.inr y)):loop body (mk 0 (F 0))=some y:=by
 have key:∀k i,k+i=n->loop body (mk (i:Int) (F i))=some y:=by
  intro k
  induction k with
  |zero=>
   intro i hi
   have:i=n:=by omega
   subst this
   exact j5 hend
  |succ k ih=>
   intro i hi
   rw[pO (hin i (by omega)),dA (by omega) (by omega),show((i:Int)+1)=((i+1:Nat):Int) by omega]
   exact ih (i+1) (by omega)
 exact key n 0 (by omega)
abbrev Sb:Type:=List (ag×aa)
abbrev kN(c:Sb):List ag:=c.map (·.1)
abbrev kB(c:Sb):List aa:=c.map (·.2)
def nK(x:ag):aa:=⟨3,x,0,[]⟩
def fm(x:ag)(c:Sb):Sb:=c.filter (fun e=>!(e.1==x))
def N6(x:ag)(c:Sb):Bool:=c.any (fun e=>decide (x∈Pe e.2))
abbrev S3:Type:=List ag×Sb×List ag
def Cw(o:Int)(ns:List ag)(i:Nat)(s:S3):S3:=
 if o=6/\i<ns.length then
  if N6 (ns.getD i []) (fm (ns.getD i []) s.2.1)=true then
   (s.1++[fp s.1 (ns.getD i [])],fm (ns.getD i []) s.2.1++[(ns.getD i [],nK (fp s.1 (ns.getD i [])))],s.2.2.set i (fp s.1 (ns.getD i [])))
  else(s.1,fm (ns.getD i []) s.2.1,s.2.2)
 else s
mutual
def B8:ae->Sb->ae
 |⟨o,n,xs,ns,p,ps⟩,c=>
  ⟨o,n,(Ib o ns 0 xs (((kB c).flatMap kU++freeT ⟨o,n,xs,ns,p,ps⟩)++ns,c,ns)).1,(Ib o ns 0 xs (((kB c).flatMap kU++freeT ⟨o,n,xs,ns,p,ps⟩)++ns,c,ns)).2,Hk (tU (kN c) (kB c)) p,ps.map (Hk (tU (kN c) (kB c)))⟩
def Ib(o:Int)(ns:List ag):Nat->List ae->S3->List ae×List ag
 |_,[],s=>([],s.2.2)
 |i,a::xs,s=>(B8 a s.2.1::(Ib o ns (i+1) xs (Cw o ns i s)).1,(Ib o ns (i+1) xs (Cw o ns i s)).2)
end
def pp(o:Int)(ns:List ag)(s:S3):Nat->S3
 |0=>s
 |i+1=>Cw o ns i (pp o ns s i)
def dq(t:ae)(c:Sb):S3:=(((kB c).flatMap kU++freeT t)++t.Names,c,t.Names)
theorem Vr(o:Int)(ns:List ag)(s:S3):∀(xs:List ae) (i:Nat),Ib o ns i xs (pp o ns s i)=((xs.zipIdx i).map (fun y=>B8 y.1 (pp o ns s y.2).2.1),(pp o ns s (i+xs.length)).2.2)
 |[],i=>by rw[Ib];rfl
 |a::xs,i=>by
  have ih:=Vr o ns s xs (i+1)
  rw[Ib,show Cw o ns i (pp o ns s i)=pp o ns s (i+1)from rfl,ih,List.zipIdx_cons,vax,vaO,show i+1+xs.length=i+(xs.length+1) by omega]
theorem Ro(t:ae)(c:Sb):B8 t c=⟨t.Op,t.Name,(t.Args.zipIdx).map (fun y=>B8 y.1 (pp t.Op t.Names (dq t c) y.2).2.1),(pp t.Op t.Names (dq t c) t.Args.length).2.2,Hk (tU (kN c) (kB c)) t.Pred,t.Preds.map (Hk (tU (kN c) (kB c)))⟩:=by
 obtain⟨o,n,xs,ns,p,ps⟩:=t
 have h:=Vr o ns (dq ⟨o,n,xs,ns,p,ps⟩ c) xs 0
 rw[show pp o ns (dq ⟨o,n,xs,ns,p,ps⟩ c) 0=(((kB c).flatMap kU++freeT ⟨o,n,xs,ns,p,ps⟩)++ns,c,ns)from rfl,vaK]at h
 rw[B8,h]
 rfl
def Vp(t:ae)(c:Sb)(i:Nat):List ae:=((t.Args.take i).zipIdx).map (fun y=>B8 y.1 (pp t.Op t.Names (dq t c) y.2).2.1)
theorem Vq(t:ae)(c:Sb)(i:Nat)(h:i<t.Args.length):Vp t c (i+1)=Vp t c i++[B8 t.Args[i] (pp t.Op t.Names (dq t c) i).2.1]:=by
 unfold Vp
 rw[vaM h,List.zipIdx_append,vbG,vaN]
 rw[show min i t.Args.length=i by omega]
 simp[List.zipIdx_cons]
theorem Xz(t:ae)(c:Sb)(i:Nat)(h:i<=t.Args.length):(Vp t c i).length=i:=by
 unfold Vp
 rw[vaL,List.length_zipIdx,vaN]
 omega
theorem Xy(t:ae)(c:Sb):Vp t c t.Args.length=(t.Args.zipIdx).map (fun y=>B8 y.1 (pp t.Op t.Names (dq t c) y.2).2.1):=by
 unfold Vp
 rw[vbw (vah _)]
theorem Ox(x:ag):∀(c:Sb),kN (fm x c)=(kN c).filter (fun n=>!(n==x))
 |[]=>rfl
 | e :: c => by
  have ih:=Ox x c
  unfold fm kN at ih ⊢
  rw[vbi,vax,vbi]
  split
  ·rw[vax,ih]
  ·exact ih
theorem VJ(x:ag)(c:Sb):x∉kN (fm x c):=by rw[Ox];simp
theorem Dk{x:ag}{c:Sb}(h:(kN c).Nodup):(kN (fm x c)).Nodup:=by rw[Ox];exact h.filter _
theorem RA(x:ag)(c:Sb):fm x (fm x c)=fm x c:=by
 unfold fm
 rw[vb7]
 congr 1
 funext e
 cases(e.1==x)<;>rfl
theorem OI(x:ag):∀(c:Sb),nL (kB (fm x c))<=nL (kB c)
 |[]=>by simp[fm,kB]
 | e :: c => by
  have ih:=OI x c
  unfold fm kB at ih ⊢
  rw[vbi]
  split
  ·rw[vax,vax,nL,nL];omega
  ·rw[vax,nL];omega
theorem RO(c:Sb):c.length<=nL (kB c):=by
 have:=pQ (kB c)
 rwa[vaL]at this
theorem AM(x:ag):nP (nK x)=1:=by simp[nK,nP,nL]
theorem XP(c:Sb)(e:ag×aa):nL (kB (c++[e]))=nL (kB c)+nP e.2:=by
 unfold kB
 rw[vbG,pP];simp[nL]
theorem F9(o:Int)(ns:List ag)(s:S3)(h:(kN s.2.1).Nodup):∀i,(kN (pp o ns s i).2.1).Nodup
 |0=>h
 | i + 1 => by
  have ih:=F9 o ns s h i
  show(kN (Cw o ns i (pp o ns s i)).2.1).Nodup
  unfold Cw
  split
  ·split
   ·unfold kN
    rw[vbG]
    simp only[vax,vbU]
    rw[List.nodup_append]
    refine⟨Dk ih,by simp,fun a ha b hb=>?_⟩
    rw[va2]at hb
    subst hb
    exact fun e=>VJ _ _ (e▸ha)
   ·exact Dk ih
  ·exact ih
theorem Vt(o:Int)(ns:List ag)(s:S3):∀i,nL (kB (pp o ns s i).2.1)<=nL (kB s.2.1)+min i ns.length
 |0=>by simp[pp]
 | i + 1 => by
  have ih:=Vt o ns s i
  show nL (kB (Cw o ns i (pp o ns s i)).2.1)<=_
  have hd:=OI (ns.getD i []) (pp o ns s i).2.1
  unfold Cw
  split
  ·rename_i hc
   split
   ·show nL (kB (fm (ns.getD i []) (pp o ns s i).2.1++[(ns.getD i [],nK (fp (pp o ns s i).1 (ns.getD i [])))]))<=_
    rw[XP,AM]
    omega
   ·show nL (kB (fm (ns.getD i []) (pp o ns s i).2.1))<=_
    omega
  ·omega
theorem Vv(o:Int)(ns:List ag)(s:S3):∀i,(pp o ns s i).1.length<=s.1.length+i
 |0=>by simp[pp]
 | i + 1 => by
  have ih:=Vv o ns s i
  show(Cw o ns i (pp o ns s i)).1.length<=_
  unfold Cw
  split
  ·split
   ·simp only[vae,List.length_singleton];omega
   ·simp only;omega
  ·omega
theorem Vw(o:Int)(ns:List ag)(s:S3):∀i,(pp o ns s i).2.2.length=s.2.2.length
 |0=>rfl
 | i + 1 => by
  have ih:=Vw o ns s i
  show(Cw o ns i (pp o ns s i)).2.2.length=_
  unfold Cw
  split
  ·split
   ·simp only[vbv];exact ih
   ·exact ih
  ·exact ih
theorem BE:∀(l:List aa),(l.flatMap kU).length<=nL l
 |[]=>by simp[nL]
 |p::l=>by
  have:=BE l
  have:=BF p
  rw[vck,vae,nL];omega
theorem Tn(t:ae)(c:Sb):(dq t c).1.length<=nL (kB c)+wT t+cq t:=by
 have h1:=BE (kB c)
 have h2:=wK t
 have h3:=nU t
 unfold dq
 simp only[vae]
 omega
theorem Ru(x:ag)(c:Sb):decide (x∈(kB c).flatMap kU)=N6 x c:=by
 unfold N6
 rw[vb2,vam,vbx,vcQ]
 simp only[MI,vam,kB,vap]
 constructor
 ·rintro⟨p,⟨e,he,rfl⟩,h⟩;exact⟨e,he,h⟩
 ·rintro⟨e,he,h⟩;exact⟨e.2,⟨e,he,rfl⟩,h⟩
theorem RJ{α:Type}(n:Nat)(l:List α)(i:Nat)(h:i<n)(h2:i<l.length):U1 n l (i:Int)=some l[i]:=by
 unfold U1
 rw[vaj ⟨by omega,by omega⟩]
 simp[h2]
theorem W1{α:Type}(l:List α)(i:Nat)(x:α)(h:i<l.length):Z3 l (i:Int) x=some (l.set i x):=by
 unfold Z3
 rw[vaj ⟨by omega,by omega⟩]
 rfl
theorem RG{α:Type}(n:Nat)(l:List α)(h:n=l.length):YQ n l=some l:=vaj h
theorem IH(ns:List ag)(i:Nat)(h:i<ns.length):ns.getD i []=ns[i]:=by simp[h]
theorem MC:∀(k u:Nat),u<10 ^ (k+1)->(Lib.decDigits u).length<=k+1
 |0,u,h=>by
  rw[Lib.decDigits,dif_pos (by omega)];simp
 | k + 1,u,h => by
  rw[Lib.decDigits]
  by_cases h10:u<10
  ·rw[dif_pos h10];simp
  ·rw[dif_neg h10]
   have:=MC k (u / 10) (by
    have:10 ^ (k+1+1)=10 ^ (k+1) * 10:=Nat.pow_succ ..
    omega)
   simp only[vae,List.length_singleton]
   omega
theorem J0(used:List ag)(base:ag):∀(k n:Nat),n+k<=100000002->(kT used base k n).length<=base.length+10
 |0,n,_=>by rw[kT];simp
 | k + 1,n,h => by
  rw[kT]
  split
  ·exact J0 used base k (n+1) (by omega)
  ·rw[vae]
   have:=MC 8 n (by omega)
   omega
theorem RF(used:List ag)(base:ag):(fp used base).length<=base.length+10:=by
 unfold fp
 split
 ·exact J0 used base 100000001 1 (by omega)
 ·omega
mutual
def uv(L:Nat):ae->Prop
 |⟨_,_,xs,ns,_,_⟩=>(∀s∈ns,s.length<=L)/\rU L xs
def rU(L:Nat):List ae->Prop
 |[]=>True
 |a::xs=>uv L a/\rU L xs
end
theorem Ao(L:Nat)(t:ae):uv L t↔(∀s∈t.Names,s.length<=L)/\rU L t.Args:=by obtain⟨o,n,xs,ns,p,ps⟩:=t;rw[uv];rfl
theorem Bv(L:Nat):∀(l:List ae),rU L l↔∀t∈l,uv L t
 |[]=>by simp[rU]
 |a::l=>by rw[rU,Bv L l];simp
theorem Vb{L:Nat}{t a:ae}(h:uv L t)(ha:a∈t.Args):uv L a:=(Bv L _).1 ((Ao L t).1 h).2 a ha
mutual
theorem Bw{L M:Nat}(h:L<=M):∀(t:ae),uv L t->uv M t
 |⟨_,_,xs,ns,_,_⟩,ht=>by
  rw[uv]at ht ⊢
  exact⟨fun s hs=>vaH (ht.1 s hs) h,JA h xs ht.2⟩
theorem JA{L M:Nat}(h:L<=M):∀(l:List ae),rU L l->rU M l
 |[],_=>trivial
 |a::xs,hl=>by
  rw[rU]at hl ⊢
  exact⟨Bw h a hl.1,JA h xs hl.2⟩
end
theorem Yl{ns:List ag}{s:ag}(h:s∈ns):s.length<=bK (ns.map cS):=by
 have h2:=ua (vap.2 ⟨s,h,rfl⟩:cS s∈ns.map cS)
 simp only[cS,fU,pm]at h2
 omega
mutual
theorem NR(B:Nat):∀(t:ae),fU (af t)<=B->uv B t
 |⟨o,n,xs,ns,p,ps⟩,h=>by
  rw[wR]at h
  have h:1+(pm (.str n)+(pm (sl af xs)+(pm (sl cS ns)+(1+(pm (.str p.Name)+(1+(pm (sl ac p.Kids)+(pm (sl ac ps)+0))))))))<=B:=h
  simp only[pm,sl]at h
  rw[uv]
  exact⟨fun s hs=>by have:=Yl hs;omega,Pz B xs (by omega)⟩
theorem Pz(B:Nat):∀(l:List ae),bK (l.map af)<=B->rU B l
 |[],_=>trivial
 |a::xs,h=>by
  simp only[vax,bK]at h
  rw[rU]
  exact⟨NR B a (by omega),Pz B xs (by omega)⟩
end
theorem Fp:∀(c:Sb),(kN c).zip (kB c)=c
 |[]=>rfl
 |e::c=>by
  have ih:=Fp c
  unfold kN kB at ih ⊢
  rw[vax,vax,List.zip_cons_cons,ih]
def Fs(hid:List ag)(c:Sb):Sb:=c.foldl (fun o e=>if e.1∈hid\/e.1∈kN o then o else o++[e]) []
theorem W6(hid:List ag)(c:Sb)(i:Nat)(h:i<c.length):Fs hid (c.take (i+1))=if c[i].1∈hid\/c[i].1∈kN (Fs hid (c.take i))then Fs hid (c.take i)else Fs hid (c.take i)++[c[i]]:=by
 unfold Fs
 rw[vaM h,vch]
 rfl
theorem Yv(hid:List ag):∀(c:Sb),(Fs hid c).length<=c.length:=by
 have key:∀(c o:Sb),(c.foldl (fun o e=>if e.1∈hid\/e.1∈kN o then o else o++[e]) o).length<=o.length+c.length:=by
  intro c
  induction c with
  |nil=>intro o;simp
  | cons e c ih =>
   intro o
   rw[List.foldl_cons,vaO]
   refine vaH (ih _) ?_
   split
   ·omega
   ·rw[vae,List.length_singleton];omega
 intro c
 have:=key c []
 simpa[Fs]using this
theorem Yw{x:ag}{c:Sb}(h:(kN c).Nodup):Fs [x] c=fm x c:=by
 have key:∀(c o:Sb),(kN c).Nodup->(∀e∈c,e.1∉kN o)->c.foldl (fun o e=>if e.1∈[x]\/e.1∈kN o then o else o++[e]) o=o++fm x c:=by
  intro c
  induction c with
  |nil=>intro o _ _;simp[fm]
  | cons e c ih =>
   intro o hn ho
   unfold kN at hn
   rw[vax,vbM]at hn
   have h1:=ho e (by simp)
   rw[List.foldl_cons]
   by_cases hx:e.1=x
   ·rw[vaj (.inl (by simp[hx])),ih o hn.2 (fun e' he'=>ho e' (by simp[he']))]
    unfold fm
    rw[vbi,van (by simp[hx])]
   ·rw[van (by simp only[va2];rintro(h|h);exact hx h;exact h1 h)]
    rw[ih (o++[e]) hn.2 (fun e' he' hm=>by
     unfold kN at hm
     rw[vbG,vaD]at hm
     rcases hm with hm|hm
     ·exact ho e' (by simp[he']) hm
     ·simp only[vax,vbU,va2]at hm
      exact hn.1 (vap.2 ⟨e',he',hm⟩))]
    unfold fm
    rw[vbi,vaj (by simpa using hx),va8]
    rfl
 have:=key c [] h (fun e _=>by simp)
 simpa[Fs]using this
theorem Hj(hid:List ag)(c:Sb)(hh:hid.length<9223372036854775808)(hc:c.length<=1000000000):bM ⟨kN c,kB c⟩ hid=some ⟨kN (Fs hid c),kB (Fs hid c)⟩:=by
 unfold bM eN
 have hl:(kN c).length=c.length:=vaL ..
 have:=P9 c.length (by omega) (fun i (s:List ag×List aa)=>(i,s.1,s.2)) (fun(zz:Int×(List ag)×(List aa))=>bE hid ⟨kN c,kB c⟩ (kN c) ((kN c).length:Int) zz.1 zz.2.1 zz.2.2)
  (fun i=>(kN (Fs hid (c.take i)),kB (Fs hid (c.take i)))) (kN (Fs hid c),kB (Fs hid c)) (fun i hi=>?_) ?_
 ·rw[show(Fs hid (c.take 0))=[]from rfl]at this
  rw[show(((0:Int),([]:List ag),([]:List aa)):Int×(List ag)×(List aa))=(0,kN [],kB [])from rfl,this]
  rfl
 ·show bE hid ⟨kN c,kB c⟩ (kN c) ((kN c).length:Int) (i:Int) (kN (Fs hid (c.take i))) (kB (Fs hid (c.take i)))=_
  unfold bE eM
  have hw:=Yv hid (c.take i)
  rw[vaN]at hw
  have hkl:(kN (Fs hid (c.take i))).length=(Fs hid (c.take i)).length:=vaL ..
  have hkb:(kB (Fs hid (c.take i))).length=(Fs hid (c.take i)).length:=vaL ..
  rw[vaj (by simp;omega),bj (kN c) i (by omega)]
  simp only[vaa]
  rw[uW hid _ hh,uW (kN (Fs hid (c.take i))) _ (by omega)]
  simp only[vaa]
  have hg:(kN c)[i]'(by omega)=c[i].1:=by simp[kN]
  have hb:(kB c)[i]'(by simp[kB];omega)=c[i].2:=by simp[kB]
  rw[hg,W6 hid c i hi]
  by_cases h1:c[i].1∈hid
  ·simp only[h1,decide_true,vcM,va3,if_false,vaa,true_or,if_true]
  ·by_cases h2:c[i].1∈kN (Fs hid (c.take i))
   ·simp only[h1,h2,decide_false,decide_true,vcA,vcM,va3,if_false,vaa,or_true,if_true]
   ·simp only[h1,h2,decide_false,vcA,if_true,vaa,or_self,if_false]
    rw[dG (by simp;omega)]
    simp only[vaa]
    rw[bj (kB c) i (by simp[kB];omega)]
    simp only[vaa,hb]
    rw[dG (by simp;omega)]
    simp[kN,kB]
 ·show bE hid ⟨kN c,kB c⟩ (kN c) ((kN c).length:Int) (c.length:Int) (kN (Fs hid (c.take c.length))) (kB (Fs hid (c.take c.length)))=_
  unfold bE
  rw[van (by simp),vbw (vah _)]
theorem WO(x:ag)(c:Sb)(hn:(kN c).Nodup)(hc:c.length<=1000000000):bM ⟨kN c,kB c⟩ [x]=some ⟨kN (fm x c),kB (fm x c)⟩:=by
 rw[Hj [x] c (by simp) hc,Yw hn]
theorem WN(x:ag)(q:aa)(c:Sb)(hn:(kN c).Nodup)(hc:c.length<=1000000000):eR ⟨kN (fm x c),kB (fm x c)⟩ x q=some ⟨kN (fm x c++[(x,q)]),kB (fm x c++[(x,q)])⟩:=by
 unfold eR
 have hd:(fm x c).length<=c.length:=vbb ..
 rw[WO x _ (Dk hn) (by omega),RA]
 simp only[vaa]
 have h1:(kN (fm x c)).length=(fm x c).length:=vaL ..
 have h2:(kB (fm x c)).length=(fm x c).length:=vaL ..
 rw[dG (by simp;omega)]
 simp only[vaa]
 rw[dG (by simp;omega)]
 simp[kN,kB]
theorem M4(ns:List ag)(bs:List aa)(h:nL bs<=400000000):dF ⟨ns,bs⟩=some (bs.flatMap kU):=by
 unfold dF fK
 have hl:=pQ bs
 show(loop (fun(zz:(List ag)×Int)=>e5 bs (bs.length:Int) zz.1 zz.2) ([],0)).bind _=_
 rw[kX bs (by omega) (fun i s=>(s,i)) _ (fun i s x=>(pW x).bind fun r3=>(app s r3).bind fun l4=>some (.inl (l4,aO (i+1)))) (fun i s=>s.length<=nL (bs.take i)) (fun x s=>s++kU x) id [] (by simp[nL]) (fun i s=>rfl) (fun i hi s hs=>?_),J5]
 ·rfl
 ·have h1:=EO bs i hi
  have h2:=yh bs (i+1)
  have h3:=BF bs[i]
  refine⟨?_,by rw[vae];omega⟩
  rw[Ql _ (by omega)]
  simp only[vaa]
  rw[dG (by omega)]
  rfl
structure XS(t:ae)(c:Sb):Prop where
 nd:(kN c).Nodup
 sz:nL (kB c)+cq t<=20000000
 w:wT t<=20000000
 n:uv 1000000000000000 t
theorem ZI{c:Sb}{q:aa}(h:q∈kB c):nP q<=nL (kB c):=AL h
theorem qbk{t:ae}:nP t.Pred<=wT t:=by rw[uo];omega
theorem Qx{t:ae}{q:aa}(h:q∈t.Preds):nP q<=wT t:=by rw[uo];have:=AL h;omega
theorem S4{t:ae}{c:Sb}(h:XS t c)(i:Nat)(hi:i<t.Args.length):XS t.Args[i] (pp t.Op t.Names (dq t c) i).2.1 where
 nd:=F9 _ _ _ h.nd i
 sz:=by
  have h1:=Vt t.Op t.Names (dq t c) i
  have h2:=qw t
  have h3:=Gh (vat hi)
  have h4:=h.sz
  show nL (kB (pp t.Op t.Names (dq t c) i).2.1)+cq t.Args[i]<=20000000
  have h5:nL (kB (dq t c).2.1)=nL (kB c):=rfl
  omega
 w:=vaH (Yy (vat hi)) h.w
 n:=Vb h.n (vat hi)
theorem GD(c:Sb)(p:aa)(hp:nP p<=bk)(hc:nL (kB c)<=bk):cD ⟨kN c,kB c⟩ p=some (Hk (tU (kN c) (kB c)) p):=by
 unfold cD
 have:=RO c
 have h1:(kN c).length=c.length:=vaL ..
 rw[IK p (kN c) (kB c) hp (by unfold bk at hc;omega) (fun q hq=>vaH (ZI hq) hc)]
 rfl
theorem KJ(c:Sb)(l:List aa)(hl:l.length<=1073741824)(hp:∀p∈l,nP p<=bk)(hc:nL (kB c)<=bk):li l ⟨kN c,kB c⟩=some (l.map (Hk (tU (kN c) (kB c)))):=by
 unfold li pb
 rw[sW l hl (fun i s=>(s,i)) _ (fun y=>cD ⟨kN c,kB c⟩ y) (Hk (tU (kN c) (kB c))) id (fun i s=>rfl) (fun y hy=>GD c y (hp y hy) hc)]
 rfl
theorem Vs{o:Int}(ho:o≠6)(ns:List ag)(s:S3):∀i,pp o ns s i=s
 |0=>rfl
 |i+1=>by
  show Cw o ns i (pp o ns s i)=s
  rw[Vs ho ns s i]
  unfold Cw
  rw[van (fun h=>ho h.1)]
theorem CT{α β:Type}(f:α->β):∀(l:List α) (i:Nat),(l.zipIdx i).map (fun y=>f y.1)=l.map f
 |[],i=>rfl
 |x::l,i=>by rw[List.zipIdx_cons,vax,vax,CT f l (i+1)]
theorem X6(t:ae)(c:Sb)(h:XS t c):ip ⟨kN c,kB c⟩ t=some (B8 t c):=by
 have hbig:cq t<Xx:=fq (by have:=h.sz;unfold bk;omega)
 refine(jl (F:=gy) (fun x=>cq x.2) (fun x=>∃c,x.1=⟨kN c,kB c⟩/\XS x.2 c) (fun x=>B8 x.2 (x.1.names.zip x.1.by_)) (fun R x hx ih=>?_) (⟨kN c,kB c⟩,t) ⟨c,rfl,h⟩ hbig).trans (by
  show some (B8 t ((kN c).zip (kB c)))=_
  rw[Fp])
 obtain⟨s,t⟩:=x
 obtain⟨c,hs,h⟩:=hx
 have hs:s=⟨kN c,kB c⟩:=hs
 have h:XS t c:=h
 subst hs
 show ey (fun s t=>R (s,t)) ⟨kN c,kB c⟩ t=some (B8 t ((kN c).zip (kB c)))
 rw[Fp]
 have hR:∀(i:Nat) (hi:i<t.Args.length),R (⟨kN (pp t.Op t.Names (dq t c) i).2.1,kB (pp t.Op t.Names (dq t c) i).2.1⟩,t.Args[i])=some (B8 t.Args[i] (pp t.Op t.Names (dq t c) i).2.1):=fun i hi=>by
  have:=ih (⟨kN (pp t.Op t.Names (dq t c) i).2.1,kB (pp t.Op t.Names (dq t c) i).2.1⟩,t.Args[i]) (ig (vat hi)) ⟨_,rfl,S4 h i hi⟩
  rw[this]
  show some (B8 t.Args[i] ((kN (pp t.Op t.Names (dq t c) i).2.1).zip (kB (pp t.Op t.Names (dq t c) i).2.1)))=_
  rw[Fp]
 have l1:=gX t
 have l2:=nU t
 have l3:=GB t
 have hsz:nL (kB c)+cq t<=20000000:=h.sz
 have hw:wT t<=20000000:=h.w
 have hnd:=h.nd
 have hp:=qbk (t:=t)
 have hcl:=RO c
 unfold ey
 by_cases ho:t.Op=6
 ·rw [vaj (by simpa using ho)]
  unfold fu
  rw[nQ _ (by omega),GD c _ (by unfold bk;omega) (by unfold bk;omega),KJ c _ (by omega) (fun q hq=>by have:=Qx hq;unfold bk;omega) (by unfold bk;omega),M4 _ _ (by omega),UE t (by omega) (by omega)]
  simp only[vaa]
  have f1:=BE (kB c)
  have f2:=wK t
  rw[dG (by omega)]
  simp only[vaa]
  rw[dG (by rw[vae];omega)]
  simp only[vaa]
  unfold ew
  have hloop:=P9 t.Args.length (by omega) (fun i (s:List ag×List ag×List ae×List ag×List aa)=>(s.1,i,s.2.1,s.2.2.1,s.2.2.2.1,s.2.2.2.2)) (fun(zz:(List ag)×Int×List ag×(List ae)×(List ag)×(List aa))=>bo (fun s t=>R (s,t)) t t.Args (t.Args.length:Int) t.Names.length zz.1 zz.2.1 zz.2.2.1 zz.2.2.2.1 zz.2.2.2.2.1 zz.2.2.2.2.2)
   (fun i=>((pp t.Op t.Names (dq t c) i).1,(pp t.Op t.Names (dq t c) i).2.2,Vp t c i,kN (pp t.Op t.Names (dq t c) i).2.1,kB (pp t.Op t.Names (dq t c) i).2.1))
   ((pp t.Op t.Names (dq t c) t.Args.length).2.2,Vp t c t.Args.length,kN (pp t.Op t.Names (dq t c) t.Args.length).2.1,kB (pp t.Op t.Names (dq t c) t.Args.length).2.1) (fun i hi=>?_) ?_
  ·have hloop':loop (fun(zz:(List ag)×Int×List ag×(List ae)×(List ag)×(List aa))=>bo (fun s t=>R (s,t)) t t.Args (t.Args.length:Int) t.Names.length zz.1 zz.2.1 zz.2.2.1 zz.2.2.2.1 zz.2.2.2.2.1 zz.2.2.2.2.2) (((kB c).flatMap kU++freeT t)++t.Names,0,t.Names,[],kN c,kB c)=_:=hloop
   rw[hloop']
   simp only[vaa]
   rw[RG _ _ (by rw[Vw];rfl)]
   simp only[vaa]
   rw[Ro,Xy]
  ·show bo (fun s t=>R (s,t)) t t.Args (t.Args.length:Int) t.Names.length (pp t.Op t.Names (dq t c) i).1 (i:Int) (pp t.Op t.Names (dq t c) i).2.2 (Vp t c i) (kN (pp t.Op t.Names (dq t c) i).2.1) (kB (pp t.Op t.Names (dq t c) i).2.1)=_
   unfold bo
   rw[vaj (by simp;omega),bj _ i hi]
   simp only[vaa]
   rw[hR i hi]
   simp only[vaa]
   have hal:=Xz t c i (by omega)
   rw[dG (by simp;omega)]
   simp only[vaa]
   rw[Vq t c i hi]
   have hq:pp t.Op t.Names (dq t c) (i+1)=Cw t.Op t.Names i (pp t.Op t.Names (dq t c) i):=rfl
   have hQn:=Vt t.Op t.Names (dq t c) i
   have hQu:=Vv t.Op t.Names (dq t c) i
   have hQw:=Vw t.Op t.Names (dq t c) i
   have hQd:=F9 t.Op t.Names (dq t c) hnd i
   have hu0:=Tn t c
   have hn0:nL (kB (dq t c).2.1)=nL (kB c):=rfl
   have hw0:(dq t c).2.2=t.Names:=rfl
   rw[hw0]at hQw
   generalize pp t.Op t.Names (dq t c) i=S at hq hQn hQu hQw hQd ⊢
   obtain⟨u,cc,w⟩:=S
   simp only at hQn hQu hQw hQd ⊢
   have hccl:=RO cc
   by_cases hi2:i<t.Names.length
   ·rw[van (by simp;omega),bj _ i hi2]
    simp only[vaa]
    rw[WO _ cc hQd (by omega)]
    simp only[vaa]
    have hd:=OI t.Names[i] cc
    rw[M4 _ _ (by omega)]
    simp only[vaa]
    have f3:=BE (kB (fm t.Names[i] cc))
    rw[uW _ _ (by omega),Ru]
    simp only[vaa]
    have hnl:t.Names[i].length<=1000000000000000:=((Ao _ t).1 h.n).1 _ (vat hi2)
    unfold Cw at hq
    rw[vaj ⟨ho,hi2⟩,IH _ i hi2]at hq
    by_cases hcm:N6 t.Names[i] (fm t.Names[i] cc)=true
    ·rw[vaj hcm]at hq ⊢
     rw[(DX u t.Names[i] (by omega) (by omega)).1]
     simp only[vaa]
     rw[RJ _ w i (by omega) (by omega)]
     simp only[vaa]
     rw[W1 w i _ (by omega)]
     simp only[vaa]
     rw[RJ _ (w.set i (fp u t.Names[i])) i (by omega) (by rw[vbv];omega),List.getElem_set_self]
     simp only[vaa]
     rw[dG (by simp;omega)]
     simp only[vaa]
     have hpw:=WN t.Names[i] (⟨3,fp u t.Names[i],0,[]⟩:aa) cc hQd (by omega)
     rw[hpw]
     simp only[vaa]
     rw[hq]
     rfl
    ·rw[van hcm]at hq ⊢
     rw[hq]
   ·rw[vaj (by simp;omega),hq]
    unfold Cw
    rw[van (fun h=>hi2 h.2)]
  ·show bo (fun s t=>R (s,t)) t t.Args (t.Args.length:Int) t.Names.length (pp t.Op t.Names (dq t c) t.Args.length).1 (t.Args.length:Int) (pp t.Op t.Names (dq t c) t.Args.length).2.2 (Vp t c t.Args.length) (kN (pp t.Op t.Names (dq t c) t.Args.length).2.1) (kB (pp t.Op t.Names (dq t c) t.Args.length).2.1)=_
   unfold bo
   rw[van (by simp)]
 ·rw[van (by simpa using ho),nQ _ (by omega),GD c _ (by unfold bk;omega) (by unfold bk;omega),KJ c _ (by omega) (fun q hq=>by have:=Qx hq;unfold bk;omega) (by unfold bk;omega)]
  simp only[vaa]
  have hQ:=Vs ho t.Names (dq t c)
  unfold qc mf
  rw[sW t.Args (by omega) (fun i s=>(s,i)) _ (fun y=>R (⟨kN c,kB c⟩,y)) (fun y=>B8 y c) id (fun i s=>rfl) (fun y hy=>by
   obtain⟨i,hi,rfl⟩:=vcE hy
   have:=hR i hi
   rw[hQ i]at this
   exact this)]
  simp only[vaa,id]
  rw[Ro]
  simp only[hQ]
  congr 2
  exact(CT (fun y=>B8 y c) t.Args 0).symm
def Bf(x:ag)(q:aa):Sb:=if x=[118]then[]else[(x,q)]
theorem Sn(x:ag)(q:aa):(kN (Bf x q)).Nodup:=by unfold Bf;split<;>simp[kN]
theorem ZX(x:ag)(q:aa):nL (kB (Bf x q))<=nP q:=by
 unfold Bf
 split
 ·simp[kB,nL]
 ·simp[kB,nL]
theorem Uu(t:ae)(x:ag)(q:aa)(h:XS t (Bf x q)):qB t x q=some (B8 t (Bf x q)):=by
 unfold qB qb
 rw[show K3 ([x]:List ag) none (some (if(([q]:List aa).length:Int)<(([x]:List ag).length:Int)then(([q]:List aa).length:Int)else(([x]:List ag).length:Int)))=some [x]from rfl,show K3 ([q]:List aa) none (some (if(([q]:List aa).length:Int)<(([x]:List ag).length:Int)then(([q]:List aa).length:Int)else(([x]:List ag).length:Int)))=some [q]from rfl]
 simp only[vaa]
 have hw:=Hj [([118]:ag)] [(x,q)] (by simp) (by simp)
 have he:Fs [([118]:ag)] [(x,q)]=Bf x q:=by
  unfold Fs Bf
  simp only[List.foldl_cons,List.foldl_nil,va2,kN,vbU,vaJ,or_false,vaE]
 rw[he]at hw
 have hw':bM ⟨[x],[q]⟩ [([118]:ag)]=some ⟨kN (Bf x q),kB (Bf x q)⟩:=hw
 rw[hw']
 simp only[vaa]
 rw[X6 t _ h]
 rfl
mutual
def nC:ak->Nat
 |⟨_,_,_,p,_,ks⟩=>nP p+rE ks+1
def rE:List ak->Nat
 |[]=>0
 |c::cs=>nC c+rE cs
end
theorem MS(c:ak):nC c=nP c.Pred+rE c.Kids+1:=by obtain⟨o,n,s,p,t,ks⟩:=c;rw[nC];rfl
theorem ZL(c:ak):1<=nC c:=by rw[MS];omega
theorem II:∀{l:List ak} {x:ak},x∈l->nC x<=rE l
 | y :: l,x,h => by
  rw[rE]
  rcases vaA.1 h with rfl|h
  ·omega
  ·have:=II h;omega
theorem EN:∀(l:List ak),l.length<=rE l
 |[]=>by simp[rE]
 |p::l=>by rw[rE];have:=EN l;have:=ZL p;simp only[vaO];omega
theorem Dw:∀(a b:List ak),rE (a++b)=rE a+rE b
 |[],b=>by simp[rE]
 |p::a,b=>by rw[vaG,rE,Dw a b,rE];omega
theorem AK:∀(l:List ak) (i:Nat),rE (l.take i)<=rE l
 |[],i=>by simp
 |x::l,0=>by simp[rE]
 |x::l,i+1=>by rw[List.take_succ_cons,rE,rE];have:=AK l i;omega
theorem SB{c x:ak}(h:x∈c.Kids):nC x<nC c:=by rw[MS c];have:=II h;omega
theorem TL(c:ak):c.Kids.length<nC c:=by rw[MS];have:=EN c.Kids;omega
theorem TW(c:ak):(⟨c.Op,c.Name,c.Sort_,c.Pred,c.Tag,c.Kids⟩:ak)=c:=by obtain⟨o,n,s,p,t,ks⟩:=c;rfl
theorem JT(c:ak):(⟨c.Op,c.Name,c.Sort_,⟨c.Pred.Op,c.Pred.Name,c.Pred.N,c.Pred.Kids⟩,c.Tag,c.Kids⟩:ak)=c:=by obtain⟨o,n,s,p,t,ks⟩:=c;rw[wH];rfl
mutual
theorem OZ:∀(p:aa),Hk (tU [] []) p=p
 |⟨o,n,k,ks⟩=>by
  rw[Hk,QK ks]
  split<;>rfl
theorem QK:∀(l:List aa),Tl (tU [] []) l=l
 |[]=>by rw[Tl]
 |p::l=>by rw[Tl,OZ p,QK l]
end
theorem JK(c:ak)(h:nC c<=bk):kh c=some c:=by
 refine jl (F:=mb) nC (fun c=>nC c<=bk) id (fun R c hc ih=>?_) c h (fq h)
 show iz (fun c=>R c) c=some c
 unfold iz kM
 have h1:=MS c
 have h2:=TL c
 unfold bk at hc
 rw[IK c.Pred [] [] (by unfold bk;omega) (by simp) (by simp),OZ]
 simp only[vaa]
 rw[sW c.Kids (by omega) (fun i s=>(i,s)) _ R id id (fun i s=>rfl) (fun x hx=>ih x (SB hx) (by have:=SB hx;unfold bk;omega)),List.map_id]
 simp only[vaa,id]
 rw[TW]
abbrev Y3:ak:=⟨0,[],[],ic,0,[]⟩
abbrev F5(ks:List ak):ak:=⟨1,[],[],ic,0,ks⟩
abbrev EC(p:aa)(tag:Int):ak:=⟨3,[],[],p,tag,[]⟩
abbrev LV(x s:ag)(p:aa)(c:ak):ak:=⟨2,x,s,p,0,[c]⟩
mutual
def Cu:ak->List ak
 |⟨o,n,s,p,t,ks⟩=>if o=2\/o=3 then[⟨o,n,s,p,t,ks⟩]else fS ks
def fS:List ak->List ak
 |[]=>[]
 |c::cs=>Cu c++fS cs
end
theorem Vd(c:ak):Cu c=if c.Op=2\/c.Op=3 then[c]else fS c.Kids:=by obtain⟨o,n,s,p,t,ks⟩:=c;rw[Cu];rfl
mutual
theorem Xq:∀(c:ak),rE (Cu c)<=nC c
 | ⟨o,n,s,p,t,ks⟩ => by
  have:=Eg ks
  rw[Cu]
  split
  ·simp[rE]
  ·rw[nC];omega
theorem Eg:∀(l:List ak),rE (fS l)<=rE l
 |[]=>by simp[fS]
 |c::l=>by
  have:=Xq c
  have:=Eg l
  rw[fS,Dw,rE];omega
end
theorem Ef:∀(a b:List ak),fS (a++b)=fS a++fS b
 |[],b=>by simp[fS]
 |c::a,b=>by rw[vaG,fS,Ef a b,fS,va8]
theorem Q5(l:List ak)(i:Nat)(h:i<l.length):fS (l.take (i+1))=fS (l.take i)++Cu l[i]:=by
 rw[vaM h,Ef]
 simp[fS]
theorem PN:∀(l s:List ak),l.foldl (fun s x=>s++Cu x) s=s++fS l
 |[],s=>by simp[fS]
 |c::l,s=>by rw[List.foldl_cons,PN l,fS,va8]
theorem TD(l:List ak):(fS l).length<=rE l:=vaH (EN _) (Eg l)
theorem SA(l:List ak)(h:rE l<=bk):oJ l=some (F5 (fS l)):=by
 refine jl (F:=pK) rE (fun l=>rE l<=bk) (fun l=>F5 (fS l)) (fun R l hl ih=>?_) l h (fq h)
 show lH (fun a=>R a) l=some (F5 (fS l))
 unfold lH oK
 have h2:=EN l
 unfold bk at hl
 rw[kX l (by omega) (fun i s=>(i,s)) _ (fun i s x=>(kg x.Op).bind fun o4=>if o4=true then(kh x).bind fun r7=>(app s ([r7]:List ak)).bind fun l8=>some (.inl (aO (i+1),l8))else(R x.Kids).bind fun r9=>(app s r9.Kids).bind fun l10=>some (.inl (aO (i+1),l10))) (fun i s=>s=fS (l.take i)) (fun x s=>s++Cu x) id [] (by simp[fS]) (fun i s=>rfl) (fun i hi s hs=>?_),PN]
 ·rfl
 ·have h3:=II (vat hi)
  have h4:=MS l[i]
  have h5:=Q5 l i hi
  have h6:=TD (l.take (i+1))
  have h7:=AK l (i+1)
  rw[h5,vae,<-hs]at h6
  refine⟨?_,by rw[hs,h5]⟩
  have e:=Vd l[i]
  unfold kg
  by_cases c2:l[i].Op=2
  ·rw[vaj (by simpa using c2)]
   rw[vaj (.inl c2)]at e
   simp only[vaa,if_true]
   rw[JK _ (by unfold bk;omega)]
   simp only[vaa]
   rw[e]at h6 ⊢
   rw[dG (by omega)]
   rfl
  ·rw[van (by simpa using c2)]
   simp only[vaa]
   by_cases c3:l[i].Op=3
   ·rw[vaj (by simpa using c3),JK _ (by unfold bk;omega)]
    rw[vaj (.inr c3)]at e
    simp only[vaa]
    rw[e]at h6 ⊢
    rw[dG (by omega)]
    rfl
   ·rw[van (by simpa using c3),ih l[i].Kids (by omega) (by unfold bk;omega)]
    rw[van (by simp[c2,c3])]at e
    simp only[vaa]
    rw[e]at h6 ⊢
    show(app s (fS l[i].Kids)).bind _=_
    rw[dG (by omega)]
    rfl
theorem QT{X:Type}(n:Nat)(hn:n<9223372036854775808){body:Int->Option (Int⊕X)}(k:Int->Option (Int⊕X))(e:X)(hb:∀i:Int,body i=if decide (i<(n:Int))=true then k i else some (.inr e))
  (hk:∀i:Nat,i<n->eK (k (i:Int)) (fun r=>match r with|.inl t=>t=aO ((i:Int)+1)|.inr _=>True)):eK (loop body 0) (fun _=>True):=by
 have e1:(List.replicate n ()).length=n:=List.length_replicate
 refine xa (List.replicate n ()) (by omega) (fun i (_:Unit)=>i) (fun _ _=>True) (fun i hi s _=>?_) (fun s _=>?_) () trivial
 ·rw[e1]at hi
  rw[hb,vaj (vbr (by omega))]
  exact(hk i hi).mono fun r hr=>by
   cases r with
   |inl t=>exact⟨(),hr,trivial⟩
   |inr _=>trivial
 ·rw[hb,van (by rw[e1];simp)]
  exact aj trivial
theorem sX(c:Int):eK (ls c) (fun _=>True):=by unfold ls;exact aG (fun _=>aj trivial) (fun _=>aj trivial)
theorem BD(c:Int):eK (pE c) (fun _=>True):=by unfold pE;exact aG (fun _=>aj trivial) (fun _=>aj trivial)
theorem Aw(c:Int):eK (nN c) (fun _=>True):=by unfold nN;exact aG (fun _=>aj trivial) (fun _=>aj trivial)
theorem g8{s:ag}{i:Nat}(h:i<s.length):eK (sK s (i:Int)) (fun _=>True):=O3 (VT s i h) trivial
theorem wL{s:ag}(h:0<s.length):eK (sK s 0) (fun _=>True):=g8 (i:=0) h
theorem PY(s:ag):eK (uB s) (fun _=>True):=by
 unfold uB
 exact au (R:=fun l=>l.length<9223372036854775808) ⟨_,rfl,by decide⟩ (fun l hl=>cp (nM l s hl) (aj trivial))
theorem Rp{s:ag}{i:Nat}(h:i<s.length):eK (oh s i) (fun _=>True):=by
 unfold oh
 exact au (g8 h) fun _ _=>au (sX _) fun _ _=>aG (fun _=>au (g8 h) fun _ _=>au (BD _) fun _ _=>aG (fun _=>au (g8 h) fun _ _=>aj trivial) fun _=>aj trivial) fun _=>aj trivial
theorem Mk(s:ag):eK (pD s) (fun _=>True):=by
 unfold pD
 refine au (R:=fun o=>o=true\/s.length<=24) ?_ fun o ho=>aG (fun _=>aj trivial) fun hn=>?_
 ·unfold xi
  refine aG (fun _=>aj (.inl rfl)) fun h1=>aG (fun _=>aj (.inl rfl)) fun h2=>?_
  rw[vam]at h1 h2
  exact au (wL (by omega)) fun _ _=>au (sX _) fun _ _=>aG (fun _=>aj (.inl rfl)) fun _=>au (PY s) fun _ _=>aj (.inr (by omega))
 ·have hs:s.length<=24:=ho.resolve_left hn
  unfold xj
  refine au (QT s.length (by omega) (fun i=>(oh s i).bind fun o=>if o=true then some (.inr (.inl ()))else some (.inl (aO (i+1)))) (.inr ()) (fun i=>rfl) fun i hi=>au (Rp hi) fun _ _=>aG (fun _=>aj trivial) fun _=>aj rfl) fun o _=>?_
  cases o<;>exact aj trivial
theorem So{s:ag}{i:Nat}(h:i<s.length):eK (om s i) (fun _=>True):=by
 unfold om
 exact au (g8 h) fun _ _=>au (sX _) fun _ _=>aG (fun _=>au (g8 h) fun _ _=>au (Aw _) fun _ _=>aG (fun _=>au (g8 h) fun _ _=>au (BD _) fun _ _=>aj trivial) fun _=>aj trivial) fun _=>aj trivial
theorem TC(s:ag):eK (Bi s) (fun _=>True):=by
 unfold Bi
 refine au (R:=fun o=>o=true\/s.length<=24) ?_ fun o ho=>aG (fun _=>aj trivial) fun hn=>?_
 ·unfold xk
  refine aG (fun _=>aj (.inl rfl)) fun h1=>aG (fun _=>aj (.inl rfl)) fun h2=>?_
  rw[vam]at h1 h2
  have h3:s.length<=24:=by omega
  exact au (wL (by omega)) fun _ _=>au (Aw _) fun _ _=>aG (fun _=>aj (.inl rfl)) fun _=>aG (fun _=>aj (.inl rfl)) fun _=>aG (fun _=>aj (.inl rfl)) fun _=>aG (fun _=>aj (.inl rfl)) fun _=>aj (.inr h3)
 ·have hs:s.length<=24:=ho.resolve_left hn
  unfold xl
  refine au (QT s.length (by omega) (fun i=>(om s i).bind fun o=>if o=true then some (.inr (.inl ()))else some (.inl (aO (i+1)))) (.inr ()) (fun i=>rfl) fun i hi=>au (So hi) fun _ _=>aG (fun _=>aj trivial) fun _=>aj rfl) fun o _=>?_
  cases o<;>exact aj trivial
theorem Uv{s:ag}(b:Bool){i:Nat}(h:i<s.length):eK (uC s b i) (fun _=>True):=by
 unfold uC
 exact aG (fun _=>au (g8 h) fun _ _=>au (sX _) fun _ _=>aG (fun _=>aj trivial) fun _=>au (g8 h) fun _ _=>au (Aw _) fun _ _=>aG (fun _=>aj trivial) fun _=>au (g8 h) fun _ _=>au (BD _) fun _ _=>aj trivial) fun _=>aj trivial
theorem Wp(s:ag):eK (D0 s) (fun _=>True):=by
 unfold D0
 refine au (R:=fun o=>o=true\/(0<s.length/\s.length<=24)) ?_ fun o ho=>aG (fun _=>aj trivial) fun hn=>?_
 ·unfold zv
  refine aG (fun _=>aj (.inl rfl)) fun h1=>aj ?_
  rw[vam]at h1
  by_cases h2:(s.length:Int)>24
  ·exact .inl (vbr h2)
  ·exact .inr ⟨by omega,by omega⟩
 ·obtain⟨h0,hs⟩:=ho.resolve_left hn
  refine au (wL h0) fun _ _=>au (sX _) fun r6 _=>?_
  unfold zw
  refine au (R:=fun _=>True) (xa s (by omega) (fun i (z:Bool×Bool)=>(z.1,z.2,i)) (fun _ _=>True) (fun i hi z _=>?_) (fun z _=>?_) (true,r6) trivial) fun o _=>aG (fun _=>aj trivial) fun _=>aj trivial
  ·show eK (jR s s.length z.1 z.2 i) _
   unfold jR
   rw[vaj (vbr (by omega))]
   exact au (Uv _ hi) fun o _=>aG (fun _=>au (g8 hi) fun _ _=>au (sX _) fun _ _=>aG (fun _=>aj ⟨(o,true),rfl,trivial⟩) fun _=>au (g8 hi) fun _ _=>au (BD _) fun _ _=>aG (fun _=>aj ⟨(o,true),rfl,trivial⟩) fun _=>au (g8 hi) fun c _=>aj ⟨(o,c==95),rfl,trivial⟩) fun _=>aj ⟨(o,false),rfl,trivial⟩
  ·show eK (jR s s.length z.1 z.2 s.length) _
   unfold jR
   rw[van (by simp)]
   exact aj trivial
theorem QO{α:Type}(l:List α)(a b:Nat)(h:a<=b)(h2:b<=l.length):K3 l (some (a:Int)) (some (b:Int))=some ((l.take b).drop a):=by
 simp[K3,bd,h,h2]
theorem Uw(s:ag)(hs:s.length<=120):eK (Bj s) (fun l=>l≠[]/\l.length<=121):=by
 unfold Bj xm
 refine au (R:=fun o=>o.1.length<=s.length/\∃b:Nat,o.2=(b:Int)/\b<=s.length) (xa s (by omega) (fun i (z:List ag×Int)=>(z.1,z.2,i)) (fun i z=>z.1.length<=i/\∃b:Nat,z.2=(b:Int)/\b<=i) (fun i hi z hz=>?_) (fun z hz=>?_) ([],0) ⟨vah _,0,rfl,vah _⟩) fun o ho=>?_
 ·obtain⟨out,bg⟩:=z
  obtain⟨h1,b,hb,hbi⟩:=hz
  simp only at h1 hb
  subst hb
  show eK (iF s s.length out b i) _
  unfold iF
  rw[vaj (vbr (by omega))]
  refine au (g8 hi) fun c _=>aG (fun _=>?_) fun _=>aj ⟨(out,b),rfl,by simp only;omega,b,rfl,by omega⟩
  refine cp (QO s b i hbi (by omega)) (cp (dG (by simp;omega)) (aj ⟨(_,aO ((i:Int)+1)),rfl,by simp;omega,i+1,?_,vah _⟩))
  simp only
  rw[dA (by omega) (by omega)]
  omega
 ·obtain⟨out,bg⟩:=z
  show eK (iF s s.length out bg s.length) _
  unfold iF
  rw[van (by simp)]
  exact aj hz
 ·obtain⟨h1,b,hb,hbi⟩:=ho
  rw[hb]
  exact cp (Fi s b hbi) (cp (dG (by simp;omega)) (aj ⟨by simp,by simp;omega⟩))
theorem TR{v:List ag}(h:v≠[]):eK (uz v) (fun _=>True):=by
 obtain⟨x,r,rfl⟩:=List.exists_cons_of_ne_nil h
 unfold uz
 exact cp (ED x r) (au (Mk x) fun _ _=>aG (fun _=>cp (ED x r) (au (TC x) fun _ _=>aG (fun _=>cp (ED x r) (aG (fun _=>aj trivial) fun _=>aj trivial)) fun _=>aj trivial)) fun _=>aj trivial)
theorem VB:qH []=some 3:=by kernel_rfl
theorem Pk(s:ag):eK (qH s) (fun r=>(r==0)=true->0<s.length):=by
 by_cases hs:s=[]
 ·subst hs
  exact O3 VB fun h=>by simp at h
 have hp:0<s.length:=vcF.2 hs
 unfold qH
 refine aG (fun _=>aj fun _=>hp) fun h1=>?_
 rw[vam]at h1
 refine au (Uw s (by omega)) fun l hl=>au (TR hl.1) fun _ _=>aG (fun _=>aj fun _=>hp) fun _=>?_
 have h2:1<=l.length:=vcF.2 hl.1
 refine cp (Fi l 1 h2) ?_
 unfold zo
 refine au (nZ (l.drop 1) (by simp;omega) _ (fun _=>True) (fun _=>True) (fun i=>rfl) (fun x hx i=>au (Wp x) fun _ _=>aG (fun _=>aj trivial) fun _=>aj ⟨rfl,trivial⟩)) fun o _=>?_
 cases o<;>exact aj fun _=>hp
theorem Nq(l:List ag)(hl:l.length<9223372036854775808):eK (sd l) (fun _=>True):=by
 unfold sd rq
 refine au (nZ l hl _ (fun _=>True) (fun _=>True) (fun i=>rfl) (fun x hx i=>cp (nM l x hl) (aG (fun _=>aj trivial) fun _=>aj ⟨rfl,trivial⟩))) fun o _=>?_
 cases o<;>exact aj trivial
theorem VA(s:ag)(b:Bool):eK (wy s b) (fun _=>True):=by
 unfold wy
 exact au (Pk s) fun r hr=>aG (fun h=>au (wL (hr h)) fun _ _=>aG (fun _=>au (wL (hr h)) fun _ _=>aj trivial) fun _=>aj trivial) fun _=>aj trivial
theorem Rw(t:ae)(ht:cq t<=bk):eK (FC t) (fun _=>True):=by
 refine lq (F:=zK) cq (fun x=>cq x<=bk) (fun _ _=>True) (fun R x hx ih=>?_) t ht (fq ht)
 show eK (uK (fun t=>R t) x) _
 unfold uK xt
 have h1:=gX x
 refine au (R:=fun _=>True) (Nj x.Args (by unfold bk at hx;omega) (fun i s=>(s,i)) (fun i s y=>(R y).bind fun r=>some (.inl ((if r>s then r else s),aO (i+1)))) id (fun _ _=>True) (fun i s=>rfl) (fun i hi s _=>?_) (fun _ _=>trivial) 0 trivial) (fun a _=>aj trivial)
 exact au (ih _ (ig (vat hi)) (by have:=ig (vat hi);omega)) (fun a _=>aj ⟨_,rfl,trivial⟩)
theorem RY(t:ae):eK (D2 t) (fun _=>True):=by
 unfold D2
 refine au (R:=fun _=>True) ?_ fun _ _=>aG (fun _=>aj trivial) fun _=>au (R:=fun _=>True) ?_ fun _ _=>aG (fun _=>aj trivial) fun _=>au (R:=fun _=>True) ?_ fun _ _=>aG (fun _=>aj trivial) fun _=>au (R:=fun _=>True) ?_ fun _ _=>aG (fun _=>aj trivial) fun _=>aj trivial
 ·unfold zP
  repeat' first|exact aj trivial|refine aG (fun _=>?_) (fun _=>?_)
 ·unfold zQ
  repeat' first|exact aj trivial|refine aG (fun _=>?_) (fun _=>?_)
 ·unfold zR
  repeat' first|exact aj trivial|refine aG (fun _=>?_) (fun _=>?_)
 ·unfold zS
  repeat' first|exact aj trivial|refine aG (fun _=>?_) (fun _=>?_)|refine au (VA _ _) fun _ _=>?_
theorem RE(t:ae)(ht:cq t<=bk):eK (I9 t) (fun _=>True):=by
 refine lq (F:=C0) cq (fun x=>cq x<=bk) (fun _ _=>True) (fun R x hx ih=>?_) t ht (fq ht)
 show eK (xu (fun t=>R t) x) _
 unfold xu zN
 have h1:=gX x
 refine au (RY x) fun _ _=>aG (fun _=>aj trivial) fun _=>au (nZ x.Args (by unfold bk at hx;omega) _ (fun _=>True) (fun _=>True) (fun i=>rfl) (fun y hy i=>au (ih _ (ig hy) (by have:=ig hy;omega)) fun _ _=>aG (fun _=>aj trivial) fun _=>aj ⟨rfl,trivial⟩)) fun o _=>?_
 cases o<;>exact aj trivial
theorem Pj(t:ae)(ht:cq t<=bk):eK (Bm t) (fun _=>True):=by
 unfold Bm
 exact au (Rw t ht) fun _ _=>aG (fun _=>aj trivial) fun _=>au (RE t ht) fun _ _=>aj trivial
theorem V2(op n:Int):eK (ou op n) (fun r=>r=true->op=8->n=2):=by
 by_cases h:op=8
 ·subst h
  refine O3 (a:=n==2) ?_ fun h _=>by simpa using h
  simp[ou,uG,uH,uI]
 ·unfold ou
  refine au (R:=fun _=>True) ?_ fun _ _=>aG (fun _=>aj fun _ e=>absurd e h) fun _=>au (R:=fun _=>True) ?_ fun _ _=>aG (fun _=>aG (fun _=>aj fun _ e=>absurd e h) fun _=>aj fun _ e=>absurd e h) fun _=>au (R:=fun _=>True) ?_ fun _ _=>aG (fun _=>aj fun _ e=>absurd e h) fun _=>aj fun _ e=>absurd e h
  ·unfold uG
   repeat' first|exact aj trivial|refine aG (fun _=>?_) (fun _=>?_)
  ·unfold uH
   repeat' first|exact aj trivial|refine aG (fun _=>?_) (fun _=>?_)
  ·unfold uI
   repeat' first|exact aj trivial|refine aG (fun _=>?_) (fun _=>?_)
theorem Rn(p:aa):eK (xq p) (fun _=>True):=by
 unfold xq
 have hc:=fun s=>(Pk s).mono (R:=fun _=>True) fun _ _=>trivial
 repeat' first|exact aj trivial|refine aG (fun _=>?_) (fun _=>?_)|refine au (hc _) fun _ _=>?_
theorem RX(p:aa):eK (D1 p) (fun _=>True):=by
 unfold D1
 have hk:eK (ou p.Op (p.Kids.length:Int)) (fun r=>r=true->p.Op=8->0<p.Kids.length):=(V2 _ _).mono fun r hr h1 h2=>by have:=hr h1 h2;omega
 have hn:∀r:Bool,(r=true->p.Op=8->0<p.Kids.length)->eK (some (!r)) (fun o=>o=true\/(p.Op=8->0<p.Kids.length)):=fun r hr=>by
  cases r with
  |false=>exact aj (.inl rfl)
  |true=>exact aj (.inr (hr rfl))
 refine au (R:=fun _=>True) ?_ fun o3 _=>au (R:=fun o=>o=true\/(p.Op=8->0<p.Kids.length)) ?_ fun o ho=>aG (fun _=>aj trivial) fun hno=>au (R:=fun _=>True) ?_ fun _ _=>aG (fun _=>aj trivial) fun _=>au (Rn p) fun _ _=>aG (fun _=>aj trivial) fun _=>au (R:=fun _=>True) ?_ fun _ _=>aG (fun _=>aj trivial) fun _=>aj trivial
 ·unfold zG
  repeat' first|exact aj trivial|refine aG (fun _=>?_) (fun _=>?_)
 ·unfold zH
  have hm:eK (Bl p.Op) (fun _=>True):=by
   unfold Bl
   repeat' first|exact aj trivial|refine aG (fun _=>?_) (fun _=>?_)
  repeat' first|exact aj (.inl rfl)|refine aG (fun _=>?_) (fun _=>?_)|refine au hm fun _ _=>?_|exact au hk hn
 ·have hi:eK (Nt p.N) (fun _=>True):=by
   unfold Nt
   repeat' first|exact aj trivial|refine aG (fun _=>?_) (fun _=>?_)
  unfold zI
  repeat' first|exact aj trivial|refine aG (fun _=>?_) (fun _=>?_)|refine au hi fun _ _=>?_
 ·unfold zJ
  refine aG (fun h=>?_) fun _=>aj trivial
  exact cp (bj p.Kids 0 (ho.resolve_left hno (by simpa using h))) (aj trivial)
theorem RD(p:aa)(hp:nP p<=bk):eK (I1 p) (fun _=>True):=by
 refine lq (F:=CZ) nP (fun x=>nP x<=bk) (fun _ _=>True) (fun R x hx ih=>?_) p hp (fq hp)
 show eK (xr (fun t=>R t) x) _
 unfold xr zE
 have h1:=tT x
 refine au (RX x) fun _ _=>aG (fun _=>aj trivial) fun _=>au (nZ x.Kids (by unfold bk at hx;omega) _ (fun _=>True) (fun _=>True) (fun i=>rfl) (fun y hy i=>au (ih _ (oR hy) (by have:=oR hy;omega)) fun _ _=>aG (fun _=>aj trivial) fun _=>aj ⟨rfl,trivial⟩)) fun o _=>?_
 cases o<;>exact aj trivial
theorem Ph(p:aa)(hp:nP p<=bk):eK (Bk p) (fun _=>True):=by
 unfold Bk
 exact cp (Wj p hp) (aG (fun _=>aj trivial) fun _=>cp (VH p hp) (aG (fun _=>aj trivial) fun _=>au (RD p hp) fun _ _=>aj trivial))
theorem Nn(p:aa):Aj p=some (decide (p=ic)):=by
 unfold Aj
 have h1:tf p (⟨0,([]:ag),0,([]:List aa)⟩:aa)=some (decide (p=ic)):=QF p ic XQ
 rw[h1];rfl
mutual
def zc:ae->ae->Bool
 |⟨o,n,xs,ns,p,ps⟩,⟨o',n',xs',ns',p',ps'⟩=>decide (o=o')&&(decide (n=n')&&yO xs xs')
def yO:List ae->List ae->Bool
 |[],[]=>true
 |a::xs,b::bs=>zc a b&&yO xs bs
 |_,_=>false
end
theorem Nc:∀(a b:List ae),yO a b=Am zc a b
 |[],[]=>by rw[yO,Am]
 |a::xs,b::bs=>by rw[yO,Am,Nc xs bs]
 |[],b::bs=>by simp[yO,Am]
 |a::xs,[]=>by simp[yO,Am]
theorem Yg(a b:ae):zc a b=(decide (a.Op=b.Op)&&(decide (a.Name=b.Name)&&Am zc a.Args b.Args)):=by
 obtain⟨o,n,xs,ns,p,ps⟩:=a
 obtain⟨o',n',xs',ns',p',ps'⟩:=b
 rw[zc,Nc];rfl
end Go.Proofs.YtbaamopmfmpfaaaGreatDoor
