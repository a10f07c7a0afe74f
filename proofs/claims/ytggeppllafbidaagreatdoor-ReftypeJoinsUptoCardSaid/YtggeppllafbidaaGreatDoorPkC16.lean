/- PROVED: a part of the proof. Conditions: none. -/
import Derived.Test.YtggeppllafbidaaGreatDoorPkC15
import Derived.Test.YtggeppllafbidaaGreatDoorPkC8
noncomputable section
namespace Go.Proofs.YtggeppllafbidaaGreatDoor
open Go
set_option linter.unusedVariables false
section
variable{α β σ τ X Y:Type}
theorem lb(l:List α)(hl:l.length<=1073741824)(mk:Int->List β->τ)(body:τ->Option (τ⊕X))(h:α->Option β)(g:α->β)(e:List β->X)
  (hb:∀(i:Int) (s:List β),body (mk i s)=if decide (i<(l.length:Int))=true then(dz l i).bind (fun x=>(h x).bind fun r=>(app s ([r]:List β)).bind fun q=>some (.inl (mk (bC (i+1)) q)))else some (.inr (e s)))
  (hg:∀x∈l,h x=some (g x)):loop body (mk 0 [])=some (e (l.map g)):=by
 refine KW l (by omega) mk body g e (fun i hi s hs=>?_) (fun s=>?_)
 ·rw[hb,vad (by simp;omega),bD l i hi]
  simp only[vaa]
  rw[hg _ (vau hi)]
  simp only[vaa]
  rw[cX (by simp;omega)]
  rfl
 ·rw[hb,vag (by simp)]
theorem NP(l:List α)(hl:l.length<9223372036854775808)(body:Int->Option (Int⊕X))(k:Int->α->Option (Int⊕X))(p:α->Bool)(y e:X)
  (hb:∀(i:Int),body i=if decide (i<(l.length:Int))=true then(dz l i).bind (k i)else some (.inr e))
  (hk:∀x∈l,∀i,k i x=some (if p x=true then .inr y else .inl (bC (i+1)))):loop body 0=some (if l.any p=true then y else e):=by
 have:=F9 l hl body p y e (fun i hi=>?_) (by rw[hb,vag (by simp)]) 0 (vaJ _)
 ·rw[vba]at this
  exact this
 ·rw[hb,vad (by simp;omega),bD l i hi]
  simp only[vaa]
  exact hk _ (vau hi) i
theorem jl(l:List α)(hl:l.length<9223372036854775808)(mk:Int->σ->τ)(body:τ->Option (τ⊕X))(k:Int->σ->α->Option (τ⊕X))(I:Nat->σ->Prop)(g:α->σ->σ)(e:σ->X)(s0:σ)(h0:I 0 s0)
  (hb:∀(i:Int) (s:σ),body (mk i s)=if decide (i<(l.length:Int))=true then(dz l i).bind (k i s)else some (.inr (e s)))
  (hin:∀(i:Nat) (h:i<l.length) s,I i s->k i s l[i]=some (.inl (mk (bC ((i:Int)+1)) (g l[i] s)))/\I (i+1) (g l[i] s)):loop body (mk 0 s0)=some (e (l.foldl (fun s x=>g x s) s0)):=by
 have:=hO l hl mk body I (fun _ x s=>.inl (g x s)) e (fun i h s hs=>⟨?_,fun s' hs'=>by cases hs';exact(hin i h s hs).2⟩) (fun s hs=>by rw[hb,vag (by simp)]) 0 s0 (vaJ _) h0
 ·rw[vba,show((0:Nat):Int)=0 from rfl]at this
  rw[this]
  have key:∀(l:List α) (i:Nat) (s:σ),jM (fun _ x (s:σ)=>(Sum.inl (g x s):σ⊕X)) e l i s=e (l.foldl (fun s x=>g x s) s):=by
   intro l
   induction l with
   |nil=>intro i s;rfl
   |cons x l ih=>intro i s;unfold jM;simp only;rw[ih];rfl
  rw[key]
 ·rw[hb,vad (by simp;omega),bD l i h]
  simp only[vaa]
  exact(hin i h s hs).1
theorem IJ(l:List α)(hl:l.length<9223372036854775808)(mk:Int->σ->τ){body:τ->Option (τ⊕X)}(k:Int->σ->α->Option (τ⊕X))(e:σ->X)(I:Nat->σ->Prop){Q:X->Prop}
  (hb:∀(i:Int) (s:σ),body (mk i s)=if decide (i<(l.length:Int))=true then(dz l i).bind (k i s)else some (.inr (e s)))
  (hin:∀(i:Nat) (h:i<l.length) s,I i s->vK (k i s l[i]) (fun r=>match r with|.inl t=>∃s',t=mk (bC ((i:Int)+1)) s'/\I (i+1) s'|.inr y=>Q y))
  (hend:∀s,I l.length s->Q (e s)):∀s,I 0 s->vK (loop body (mk 0 s)) Q:=
 On l hl mk I (fun i h s hs=>by
  rw[hb,vad (by simp;omega),bD l i h]
  exact hin i h s hs) (fun s hs=>by
  rw[hb,vag (by simp)]
  exact⟨_,rfl,hend s hs⟩)
theorem Om(l:List α)(hl:l.length<9223372036854775808){body:Int->Option (Int⊕X)}(k:Int->α->Option (Int⊕X))(e:X)(I:Nat->Prop){Q:X->Prop}
  (hb:∀(i:Int),body i=if decide (i<(l.length:Int))=true then(dz l i).bind (k i)else some (.inr e))
  (hin:∀(i:Nat) (h:i<l.length),I i->vK (k i l[i]) (fun r=>match r with|.inl t=>t=bC ((i:Int)+1)/\I (i+1)|.inr y=>Q y))
  (hend:I l.length->Q e) (h0:I 0):vK (loop body 0) Q:=
 IJ l hl (fun i (_:Unit)=>i) (fun i _=>k i) (fun _=>e) (fun i _=>I i) (fun i _=>hb i) (fun i h s hs=>(hin i h hs).mono fun r hr=>by
  cases r with
  |inl t=>exact⟨(),hr.1,hr.2⟩
  |inr y=>exact hr) (fun _ h=>hend h) () h0
end
def mQ{α:Type}(p:α->α->Bool):List α->List α->Bool
 |[],[]=>true
 |x::a,y::b=>p x y&&mQ p a b
 |_,_=>false
theorem Ko{α:Type}{p:α->α->Bool}:∀{a b:List α},mQ p a b=true->a.length=b.length
 |[],[],_=>rfl
 |x::a,y::b,h=>by
  rw[mQ,vaf]at h
  simp[Ko h.2]
 |[],y::b,h=>by simp[mQ]at h
 |x::a,[],h=>by simp[mQ]at h
theorem Ms{α:Type}{p:α->α->Bool}:∀{a b:List α},a.length≠b.length->mQ p a b=false:=fun{a b} h=>by
 rw[vcu]
 exact fun he=>h (Ko he)
theorem HX{α:Type}{p:α->α->Bool}:∀{a:List α},(∀x∈a,p x x=true)->mQ p a a=true
 |[],_=>rfl
 |x::a,h=>by
  rw[mQ,h x (by simp),vb8]
  exact HX fun y hy=>h y (vaU _ hy)
theorem Mr{α:Type}[DecidableEq α]:∀{a b:List α},mQ (fun x y=>decide (x=y)) a b=decide (a=b)
 |[],[]=>by simp[mQ]
 |x::a,y::b=>by
  rw[mQ,Mr]
  by_cases h1:x=y<;>by_cases h2:a=b<;>simp[h1,h2]
 |[],y::b=>by simp[mQ]
 |x::a,[]=>by simp[mQ]
theorem Kp{α:Type}{p:α->α->Bool}:∀{a b:List α},a.length=b.length->(a.zip b).any (fun x=>!p x.1 x.2)= !mQ p a b
 |[],[],_=>rfl
 |x::a,y::b,h=>by
  rw[List.zip_cons_cons,List.any_cons,Kp (by simpa using h),mQ]
  cases p x y<;>rfl
theorem CH{α X:Type}{a b:List α}(hl:a.length=b.length)(ha:a.length<9223372036854775808)(body:Int->Option (Int⊕X))(k:Int->α->α->Option (Int⊕X))(p:α->α->Bool)(y e:X)
  (hb:∀(i:Int),body i=if decide (i<(a.length:Int))=true then(dz a i).bind (fun x=>(dz b i).bind (k i x))else some (.inr e))
  (hk:∀x∈a,∀z∈b,∀i,k i x z=some (if p x z=true then .inl (bC (i+1))else .inr y)):loop body 0=some (if mQ p a b=true then e else y):=by
 have hz:(a.zip b).length=a.length:=by simp[hl]
 have:=F9 (a.zip b) (by omega) body (fun x=>!p x.1 x.2) y e (fun i h=>?_) (by rw[hb,vag (by simp[hz])]) 0 (vaJ _)
 ·rw[vba,Kp hl]at this
  rw[show((0:Nat):Int)=0 from rfl]at this
  rw[this]
  by_cases h:mQ p a b=true<;>simp[h]
 ·have h1:i<a.length:=by omega
  have h2:i<b.length:=by omega
  rw[hb,vad (by simp;omega),bD a i h1]
  simp only[vaa]
  rw[bD b i h2]
  simp only[vaa]
  rw[hk _ (vau h1) _ (vau h2)]
  have hzi:(a.zip b)[i]=(a[i],b[i]):=by simp
  rw[hzi]
  by_cases h:p a[i] b[i]=true<;>simp[h]
theorem Id{α:Type}(l:List α)(h:l.length<=1073741824):wx l=some l:=vad h
set_option linter.unusedSimpArgs false
def g9(ns:List ag)(bs:List aa)(n:ag):Option aa:=(ns.findIdx? (fun x=>x==n)).bind fun j=>bs[j]?
mutual
def Cg(f:ag->Option aa):aa->aa
 |⟨o,n,k,ks⟩=>(if o=3 then f n else none).getD ⟨o,n,k,RK f ks⟩
def RK(f:ag->Option aa):List aa->List aa
 |[]=>[]
 |p::ps=>Cg f p::RK f ps
end
theorem Na(f:ag->Option aa):∀(l:List aa),RK f l=l.map (Cg f)
 |[]=>by rw[RK];rfl
 |p::l=>by rw[RK,Na f l];rfl
theorem P1(f:ag->Option aa)(p:aa):Cg f p=(if p.Op=3 then f p.Name else none).getD ⟨p.Op,p.Name,p.N,p.Kids.map (Cg f)⟩:=by
 obtain⟨o,n,k,ks⟩:=p
 rw[Cg,Na];rfl
mutual
theorem P2(f:ag->Option aa)(M:Nat)(hM:1<=M)(hf:∀n q,f n=some q->nP q<=M):∀(p:aa),nP (Cg f p)<=nP p * M
 | ⟨o,n,k,ks⟩ => by
  have:=RL f M hM hf ks
  rw[Cg]
  cases h:(if o=3 then f n else none)with
  |none=>
   simp only[Option.getD_none]
   rw[nP,nP,va0];omega
  | some q =>
   simp only[Option.getD_some]
   have:f n=some q:=by
    split at h
    ·exact h
    ·cases h
   have:=hf n q this
   rw[nP,va0]
   have:0<=nL ks * M:=vaJ _
   omega
theorem RL(f:ag->Option aa)(M:Nat)(hM:1<=M)(hf:∀n q,f n=some q->nP q<=M):∀(l:List aa),nL (RK f l)<=nL l * M
 |[]=>by simp[RK,nL]
 |p::l=>by
  have:=P2 f M hM hf p
  have:=RL f M hM hf l
  rw[RK,nL,nL,va0];omega
end
theorem Pq{ns:List ag}{bs:List aa}{n:ag}{q:aa}(h:g9 ns bs n=some q):q∈bs:=by
 unfold g9 at h
 cases hf:ns.findIdx? (fun x=>x==n)with
 |none=>rw[hf]at h;cases h
 |some j=>
  rw[hf]at h
  exact vaz h
theorem SE(ns:List ag)(bs:List aa)(p:aa)(hn:ns.length<9223372036854775808):kr ns bs p=some ((if p.Op=3 then g9 ns bs p.Name else none).elim (.inr ()) (fun q=>.inl (q.Op,q.Name,q.N,q.Kids))):=by
 unfold kr ol g9
 by_cases h1:p.Op=3
 ·rw[vad (by simpa using h1),Lj ns p.Name hn,vad h1]
  simp only[vaa]
  cases hf:ns.findIdx? (fun x=>x==p.Name)with
  |none=>rfl
  | some j =>
   simp only[vaa]
   rw[vad (vaX (show(j:Int)>=0 by omega))]
   simp only[vaa]
   by_cases h2:j<bs.length
   ·rw[vad (vaX (by omega)),bD bs j h2,vab h2]
    rfl
   ·rw[vag (by simp;omega),vaC (by omega)]
    rfl
 ·rw[vag (by simpa using h1),vag h1]
  rfl
theorem JU(p:aa)(ns:List ag)(bs:List aa)(hp:nP p<=bj)(hn:ns.length<9223372036854775808):jB p ns bs=some (Cg (g9 ns bs) p):=by
 refine iQ (F:=pQ) (fun x=>nP x.1) (fun x=>nP x.1<=bj/\x.2=(ns,bs)) (fun x=>Cg (g9 x.2.1 x.2.2) x.1) (fun R x hx ih=>?_) (p,ns,bs) ⟨hp,rfl⟩ (jm hp)
 obtain⟨p,ns',bs'⟩:=x
 obtain⟨hx,he⟩:=hx
 cases he
 have hx:nP p<=bj:=hx
 show lA (fun p names a=>R (p,names,a)) p ns bs=some (Cg (g9 ns bs) p)
 unfold lA
 rw[SE ns bs p hn,P1]
 cases h:(if p.Op=3 then g9 ns bs p.Name else none)with
 |some q=>
  simp only[Option.elim,vaa,jG,Option.getD_some]
 |none=>
  simp only[Option.elim,vaa,Option.getD_none]
  unfold om
  have hlen:=nV p
  rw[lb p.Kids (by unfold bj at hx;omega) (fun i s=>(s,i)) _ (fun y=>R (y,ns,bs)) (Cg (g9 ns bs)) id (fun i s=>rfl) (fun y hy=>ih (y,ns,bs) (lS hy) ⟨by have:=lS hy;show nP y<=bj;omega,rfl⟩)]
  rfl
theorem Rc(ns:List ag)(bs:List aa)(p:aa)(hn:ns.length<9223372036854775808)(hb:∀q∈bs,nP q<=bj):jJ ns bs p=some ((if p.Op=3 then g9 ns bs p.Name else none).elim (.inr ()) (fun q=>.inl (q.Op,q.Name,q.N,q.Kids))):=by
 unfold jJ mY g9 uE
 by_cases h1:p.Op=3
 ·rw[vad (by simpa using h1),KP ns p.Name hn,vad h1]
  simp only[vaa]
  cases hf:ns.findIdx? (fun x=>x==p.Name)with
  |none=>rfl
  | some j =>
   simp only[vaa]
   rw[vad (vaX (show(j:Int)>=0 by omega))]
   simp only[vaa]
   by_cases h2:j<bs.length
   ·rw[vad (vaX (by omega)),bD bs j h2,vab h2]
    simp only[vaa]
    rw[Ie _ (hb _ (vau h2))]
    rfl
   ·rw[vag (by simp;omega),vaC (by omega)]
    rfl
 ·rw[vag (by simpa using h1),vag h1]
  rfl
theorem M6(p:aa)(ns:List ag)(bs:List aa)(hp:nP p<=bj)(hn:ns.length<9223372036854775808)(hb:∀q∈bs,nP q<=bj):nz p ns bs=some (Cg (g9 ns bs) p):=by
 refine iQ (F:=oD) (fun x=>nP x.1) (fun x=>nP x.1<=bj/\x.2=(ns,bs)) (fun x=>Cg (g9 x.2.1 x.2.2) x.1) (fun R x hx ih=>?_) (p,ns,bs) ⟨hp,rfl⟩ (jm hp)
 obtain⟨p,ns',bs'⟩:=x
 obtain⟨hx,he⟩:=hx
 cases he
 have hx:nP p<=bj:=hx
 show kG (fun p names a=>R (p,names,a)) p ns bs=some (Cg (g9 ns bs) p)
 unfold kG
 rw[Rc ns bs p hn hb,P1]
 cases h:(if p.Op=3 then g9 ns bs p.Name else none)with
 |some q=>
  simp only[Option.elim,vaa,jG,Option.getD_some]
 |none=>
  simp only[Option.elim,vaa,Option.getD_none]
  unfold mZ
  have hlen:=nV p
  rw[lb p.Kids (by unfold bj at hx;omega) (fun i s=>(i,s)) _ (fun y=>R (y,ns,bs)) (Cg (g9 ns bs)) id (fun i s=>rfl) (fun y hy=>ih (y,ns,bs) (lS hy) ⟨by have:=lS hy;show nP y<=bj;omega,rfl⟩)]
  rfl
def DH(v:ag)(q:aa)(n:ag):Option aa:=if n=v then some q else none
theorem KV(v:ag)(q:aa):g9 [v] [q]=DH v q:=by
 funext n
 unfold g9 DH
 rw[vck]
 by_cases h:n=v
 ·subst h;simp
 ·have h':(v==n)=false:=by simpa using fun e=>h e.symm
  simp[h',h]
theorem N9(p:aa)(v:ag)(q:aa)(hp:nP p<=bj)(hq:nP q<=bj):uL p v q=some (Cg (DH v q) p):=by
 unfold uL
 rw[M6 p [v] [q] hp (by simp) (by simpa using hq),KV]
 rfl
theorem Oh(p:aa)(v:ag)(q:aa)(hp:nP p<=bj):xn p v q=some (Cg (DH v q) p):=by
 unfold xn
 rw[JU p [v] [q] hp (by simp),KV]
 rfl
theorem Rh{v n:ag}{q r:aa}(h:DH v q n=some r):nP r<=nP q:=by
 unfold DH at h
 split at h
 ·cases h;omega
 ·cases h
theorem Ig(t:ae):(⟨t.Op,t.Name,t.Args,t.Names,t.Pred,t.Preds⟩:ae)=t:=by cases t;rfl
theorem FI(t:ae):(⟨t.Op,t.Name,t.Args,t.Names,⟨t.Pred.Op,t.Pred.Name,t.Pred.N,t.Pred.Kids⟩,t.Preds⟩:ae)=t:=by rw[jG,Ig]
mutual
def eb:ae->Nat
 |⟨_,_,xs,ns,_,ps⟩=>ke xs+ns.length+ps.length+1
def ke:List ae->Nat
 |[]=>0
 |a::xs=>eb a+ke xs
end
theorem rt(t:ae):eb t=ke t.Args+t.Names.length+t.Preds.length+1:=by obtain⟨o,n,xs,ns,p,ps⟩:=t;rw[eb];rfl
theorem Pp(t:ae):1<=eb t:=by rw[rt];omega
theorem xB:∀{l:List ae} {x:ae},x∈l->eb x<=ke l
 | y :: l,x,h => by
  rw[ke]
  rcases vaE.1 h with rfl|h
  ·omega
  ·have:=xB h;omega
theorem CD:∀(l:List ae),l.length<=ke l
 |[]=>by simp[ke]
 |p::l=>by rw[ke];have:=CD l;have:=Pp p;simp only[vaT];omega
theorem lK{t a:ae}(h:a∈t.Args):eb a<eb t:=by rw[rt t];have:=xB h;omega
theorem nM(t:ae):t.Args.length<eb t:=by rw[rt];have:=CD t.Args;omega
theorem li(t:ae):t.Names.length<eb t:=by rw[rt];omega
theorem nc(t:ae):t.Preds.length<eb t:=by rw[rt];omega
mutual
def mR(Q:aa->Prop):ae->Prop
 |⟨_,_,xs,_,p,ps⟩=>Q p/\(∀q∈ps,Q q)/\jP Q xs
def jP(Q:aa->Prop):List ae->Prop
 |[]=>True
 |a::xs=>mR Q a/\jP Q xs
end
theorem nK(Q:aa->Prop)(t:ae):mR Q t↔Q t.Pred/\(∀q∈t.Preds,Q q)/\jP Q t.Args:=by obtain⟨o,n,xs,ns,p,ps⟩:=t;rw[mR];rfl
theorem te(Q:aa->Prop):∀(l:List ae),jP Q l↔∀t∈l,mR Q t
 |[]=>by simp[jP]
 |a::l=>by rw[jP,te Q l];simp
mutual
theorem Cv{Q R:aa->Prop}(h:∀p,Q p->R p):∀(t:ae),mR Q t->mR R t
 |⟨_,_,xs,_,p,ps⟩,ht=>by
  rw[mR]at ht ⊢
  exact⟨h _ ht.1,fun q hq=>h _ (ht.2.1 q hq),zr h xs ht.2.2⟩
theorem zr{Q R:aa->Prop}(h:∀p,Q p->R p):∀(l:List ae),jP Q l->jP R l
 |[],_=>trivial
 |a::xs,hl=>by
  rw[jP]at hl ⊢
  exact⟨Cv h a hl.1,zr h xs hl.2⟩
end
theorem RH(l:List aa):l.length<=mw (l.map ac):=by
 have:=wB l
 have:=Iq l
 omega
theorem TU(l:List ag):l.length<=mw (l.map cS):=by
 have h:=K6 (l.map cS) (fun x hx=>by
  obtain⟨s,_,rfl⟩:=vak.1 hx
  simp only[cS,wL,pm];omega)
 rwa[vaB]at h
theorem wM(t:ae):wL (af t)=1+(pm (.str t.Name)+(pm (sl af t.Args)+(pm (sl cS t.Names)+(1+(pm (.str t.Pred.Name)+(1+(pm (sl ac t.Pred.Kids)+(pm (sl ac t.Preds)+0)))))))):=by
 rw[aT];rfl
mutual
theorem ER:∀(t:ae),eb t<=wL (af t)
 |⟨o,n,xs,ns,p,ps⟩=>by
  have h1:=KT xs
  have h2:=RH ps
  have h3:=TU ns
  rw[eb,wM]
  show _<=1+(pm (.str n)+(pm (sl af xs)+(pm (sl cS ns)+(1+(pm (.str p.Name)+(1+(pm (sl ac p.Kids)+(pm (sl ac ps)+0))))))))
  simp only[pm,sl]
  omega
theorem KT:∀(l:List ae),ke l<=mw (l.map af)
 |[]=>by simp[ke]
 |a::l=>by
  have:=ER a
  have:=KT l
  rw[ke]
  simp only[vay,mw]
  omega
end
theorem Ra(t:ae):nP t.Pred<=wL (af t):=by
 have h:=Iq t.Pred.Kids
 rw[Gc,wM]
 simp only[pm,sl]
 omega
mutual
theorem Mw(B:Nat):∀(t:ae),wL (af t)<=B->mR (fun p=>nP p<=B) t
 |⟨o,n,xs,ns,p,ps⟩,h=>by
  have h0:=Ra ⟨o,n,xs,ns,p,ps⟩
  rw[wM]at h h0
  have h:1+(pm (.str n)+(pm (sl af xs)+(pm (sl cS ns)+(1+(pm (.str p.Name)+(1+(pm (sl ac p.Kids)+(pm (sl ac ps)+0))))))))<=B:=h
  have h0:nP p<=1+(pm (.str n)+(pm (sl af xs)+(pm (sl cS ns)+(1+(pm (.str p.Name)+(1+(pm (sl ac p.Kids)+(pm (sl ac ps)+0)))))))):=h0
  simp only[pm,sl]at h h0
  rw[mR]
  refine⟨by omega,fun q hq=>?_,Kt B xs (by omega)⟩
  have h1:=MV q
  have h2:=Bk (vak.2 ⟨q,hq,rfl⟩:ac q∈ps.map ac)
  omega
theorem Kt(B:Nat):∀(l:List ae),mw (l.map af)<=B->jP (fun p=>nP p<=B) l
 |[],_=>trivial
 |a::xs,h=>by
  simp only[vay,mw]at h
  rw[jP]
  exact⟨Mw B a (by omega),Kt B xs (by omega)⟩
end
def Oz(a b:aa):Bool:=(mD a&&mD b)||decide (a=b)
mutual
def tE:ae->ae->Bool
 |⟨o,n,xs,ns,p,ps⟩,⟨o',n',xs',ns',p',ps'⟩=>decide (o=o')&&(decide (n=n')&&(decide (ns=ns')&&(Oz p p'&&(mQ Oz ps ps'&&sQ xs xs'))))
def sQ:List ae->List ae->Bool
 |[],[]=>true
 |a::xs,b::bs=>tE a b&&sQ xs bs
 |_,_=>false
end
theorem GZ:∀(a b:List ae),sQ a b=mQ tE a b
 |[],[]=>by rw[sQ,mQ]
 |a::xs,b::bs=>by rw[sQ,mQ,GZ xs bs]
 |[],b::bs=>by simp[sQ,mQ]
 |a::xs,[]=>by simp[sQ,mQ]
theorem P0(a b:ae):tE a b=(decide (a.Op=b.Op)&&(decide (a.Name=b.Name)&&(decide (a.Names=b.Names)&&(Oz a.Pred b.Pred&&(mQ Oz a.Preds b.Preds&&mQ tE a.Args b.Args))))):=by
 obtain⟨o,n,xs,ns,p,ps⟩:=a
 obtain⟨o',n',xs',ns',p',ps'⟩:=b
 rw[tE,GZ];rfl
theorem KG(p:aa):Oz p p=true:=by simp[Oz]
mutual
theorem G0:∀(t:ae),tE t t=true
 |⟨o,n,xs,ns,p,ps⟩=>by
  rw[tE,DI xs,KG,HX (fun x _=>KG x)]
  simp
theorem DI:∀(l:List ae),sQ l l=true
 |[]=>by rw[sQ]
 |a::xs=>by rw[sQ,G0 a,DI xs];rfl
end
theorem IC(a b:aa)(hb:nP b<=bj):sY a b=some (Oz a b):=by
 unfold sY Oz
 rw[GX a]
 simp only[vaa]
 rw[GX b,tD a b hb]
 cases mD a<;>cases mD b<;>simp
theorem Og(a b:List ag)(ha:a.length<9223372036854775808):vS a b=some (decide (a=b)):=by
 unfold vS
 by_cases hl:a.length=b.length
 ·rw[vag (by simp[hl])]
  unfold vU
  rw[CH hl ha (fun zz=>rY a b (a.length:Int) zz) (fun i x z=>if(!(x==z))=true then some (.inr (.inl ()))else some (.inl (bC (i+1)))) (fun x y=>decide (x=y)) (.inl ()) (.inr ()) (fun i=>rfl) (fun x _ z _ i=>by by_cases h:x=z<;>simp[h]),Mr]
  by_cases h:a=b<;>simp[h]
 ·rw[vad (by simp;omega),decide_eq_false (fun he=>hl (by rw[he]))]
theorem Of(a b:ae)(ha:eb a<=bj)(hb:mR (fun p=>nP p<=bj) b):f7 a b=some (tE a b):=by
 refine iQ (F:=zh) (fun x=>eb x.1) (fun x=>eb x.1<=bj/\mR (fun p=>nP p<=bj) x.2) (fun x=>tE x.1 x.2) (fun R x hx ih=>?_) (a,b) ⟨ha,hb⟩ (jm ha)
 obtain⟨u,v⟩:=x
 obtain⟨hu,hv⟩:=hx
 have hu:eb u<=bj:=hu
 have hv:mR (fun p=>nP p<=bj) v:=hv
 show ue (fun a a2=>R (a,a2)) u v=some (tE u v)
 obtain⟨v1,v2,v3⟩:=(nK _ v).1 hv
 have l1:=nM u
 have l2:=li u
 have l3:=nc u
 unfold bj at hu
 unfold ue wd
 rw[P0]
 by_cases h1:u.Op=v.Op
 ·by_cases h2:u.Name=v.Name
  ·by_cases h3:u.Args.length=v.Args.length
   ·by_cases h4:u.Preds.length=v.Preds.length
    ·rw [vag (by simpa using h1),vag (by simpa using h2),vag (by simp [h3]),vag (by simp [h4]),Og _ _ (by omega),IC _ _ v1]
     simp only[vaa]
     by_cases h5:u.Names=v.Names
     ·by_cases h6:Oz u.Pred v.Pred=true
      ·simp only[h1,h2,h5,h6,decide_true,vbV,vaH,if_false,vaa,vb8]
       unfold wg
       rw[CH h4 (by omega) (fun zz=>sk u v (u.Preds.length:Int) zz) (fun i x z=>(sY x z).bind fun r=>if(!r)=true then some (.inr (.inl ()))else some (.inl (bC (i+1)))) Oz (.inl ()) (.inr ()) (fun i=>rfl) (fun x _ z hz i=>by
        rw[IC _ _ (v2 z hz)]
        cases h:Oz x z<;>simp)]
       by_cases h7:mQ Oz u.Preds v.Preds=true
       ·simp only[h7,if_true,vaa,vb8]
        unfold wh
        rw[CH h3 (by omega) (fun zz=>sm (fun a a2=>R (a,a2)) u v (u.Args.length:Int) zz) (fun i x z=>(R (x,z)).bind fun r=>if(!r)=true then some (.inr (.inl ()))else some (.inl (bC (i+1)))) tE (.inl ()) (.inr ()) (fun i=>rfl) (fun x hx z hz i=>by
         rw[ih (x,z) (lK hx) ⟨by have:=lK hx;show eb x<=bj;unfold bj;omega,(te _ _).1 v3 z hz⟩]
         cases h:tE x z<;>simp)]
        cases h:mQ tE u.Args v.Args<;>simp
       ·simp only[h7,if_false,vaa,vcM,vaH]
      ·simp only[h1,h2,h5,h6,decide_true,vbV,vaH,if_false,vaa,vbG,if_true,vcM,vb8]
     ·simp only[h1,h2,h5,decide_true,decide_false,vbG,if_true,vaa,vcM,vb8]
    ·rw[vag (by simpa using h1),vag (by simpa using h2),vag (by simp[h3]),vad (by simp;omega),Ms h4]
     simp
   ·rw[vag (by simpa using h1),vag (by simpa using h2),vad (by simp;omega),Ms h3]
    simp
  ·rw[vag (by simpa using h1),vad (by simpa using h2)]
   simp[h2]
 ·rw[vad (by simpa using h1)]
  simp[h1]
theorem oc(t:ae)(ht:eb t<=bj)(hb:mR (fun p=>nP p<=bj) t):f7 t t=some true:=by rw[Of t t ht hb,G0]
section
variable{α β σ τ X Y:Type}
theorem Da{A:Type}(l:List α)(hl:l.length<9223372036854775808){body:Int->Option (Int⊕(A⊕Unit))}(k:Int->α->Option (Int⊕(A⊕Unit)))(P:α->Prop)(B:A->Prop)
  (hb:∀(i:Int),body i=if decide (i<(l.length:Int))=true then(dz l i).bind (k i)else some (.inr (.inr ())))
  (hk:∀x∈l,∀i,vK (k i x) (fun r=>r.elim (fun t=>t=bC (i+1)/\P x) (fun y=>y.elim B (fun _=>False)))):vK (loop body 0) (fun r=>r.elim B (fun _=>∀x∈l,P x)):=by
 refine Om l hl k (.inr ()) (fun i=>∀j (h:j<l.length),j<i->P l[j]) hb (fun i hi hI=>(hk _ (vau hi) i).mono fun r hr=>?_) (fun hI x hx=>?_) (fun j _ h=>absurd h (vaN _))
 ·cases r with
  | inl t =>
   refine⟨hr.1,fun j hj h=>?_⟩
   by_cases he:j=i
   ·subst he;exact hr.2
   ·exact hI j hj (by omega)
  |inr y=>cases y with
   |inl a=>exact hr
   |inr u=>exact hr.elim
 ·obtain⟨j,hj,rfl⟩:=vcO hx
  exact hI j hj hj
end
theorem kp{a b:List ag}{x:ag}:x∈gM a b↔x∈a\/x∈b:=(Aa a b).2 x
theorem xa(a b:List ag):DO (gM a b):=(Aa a b).1
theorem P4{a b c d:List ag}(h:∀x,(x∈a\/x∈b)↔(x∈c\/x∈d)):gM a b=gM c d:=
 uA (xa a b) (xa c d) fun x=>by rw[kp,kp];exact h x
theorem Nc{l a b:List ag}(hl:DO l)(h:∀x,x∈l↔x∈a\/x∈b):l=gM a b:=uA hl (xa a b) fun x=>by rw[kp];exact h x
theorem jx(a b:List ag):(gM a b).length<=a.length+b.length:=by
 have h1:=Dq (jy (a++b))
 have h2:=mo (a++b)
 rw[vas]at h2
 unfold gM
 omega
theorem Q1(x:ag):DO [x]:=by simp[DO]
theorem Jz:DO ([]:List ag):=by simp[DO]
def nT{α σ:Type}(g:Nat->α->σ->σ):List α->Nat->σ->σ
 |[],_,s=>s
 |x::l,i,s=>nT g l (i+1) (g i x s)
theorem zF{α σ τ X:Type}(l:List α)(hl:l.length<9223372036854775808)(mk:Int->σ->τ)(body:τ->Option (τ⊕X))(k:Int->σ->α->Option (τ⊕X))(I:Nat->σ->Prop)(g:Nat->α->σ->σ)(e:σ->X)(s0:σ)(h0:I 0 s0)
  (hb:∀(i:Int) (s:σ),body (mk i s)=if decide (i<(l.length:Int))=true then(dz l i).bind (k i s)else some (.inr (e s)))
  (hin:∀(i:Nat) (h:i<l.length) s,I i s->k i s l[i]=some (.inl (mk (bC ((i:Int)+1)) (g i l[i] s)))/\I (i+1) (g i l[i] s)):loop body (mk 0 s0)=some (e (nT g l 0 s0)):=by
 have:=hO l hl mk body I (fun i x s=>.inl (g i x s)) e (fun i h s hs=>⟨?_,fun s' hs'=>by cases hs';exact(hin i h s hs).2⟩) (fun s hs=>by rw[hb,vag (by simp)]) 0 s0 (vaJ _) h0
 ·rw[vba,show((0:Nat):Int)=0 from rfl]at this
  rw[this]
  have key:∀(l:List α) (i:Nat) (s:σ),jM (fun i x (s:σ)=>(Sum.inl (g i x s):σ⊕X)) e l i s=e (nT g l i s):=by
   intro l
   induction l with
   |nil=>intro i s;rfl
   |cons x l ih=>intro i s;unfold jM;simp only;rw[ih];rfl
  rw[key]
 ·rw[hb,vad (by simp;omega),bD l i h]
  simp only[vaa]
  exact(hin i h s hs).1
mutual
def EW:aa->List ag
 |⟨o,n,k,ks⟩=>(if o=3 then[n]else[])++IM ks
def IM:List aa->List ag
 |[]=>[]
 |p::ps=>EW p++IM ps
end
theorem SM(p:aa):EW p=(if p.Op=3 then[p.Name]else[])++IM p.Kids:=by obtain⟨o,n,k,ks⟩:=p;rw[EW];rfl
theorem J3{x:ag}:∀{l:List aa},x∈IM l↔∃p∈l,x∈EW p
 |[]=>by simp[IM]
 |p::l=>by rw[IM,vaA,J3];simp
mutual
theorem EY:∀(p:aa),(EW p).length<=nP p
 |⟨o,n,k,ks⟩=>by
  have:=J2 ks
  rw[EW,nP,vas]
  split<;>simp<;>omega
theorem J2:∀(l:List aa),(IM l).length<=nL l
 |[]=>by simp[IM]
 |p::l=>by
  have:=EY p
  have:=J2 l
  rw[IM,nL,vas];omega
end
mutual
theorem Lt:∀(p:aa) (s:List ag),nP p<=bj->s.length+(EW p).length<=1073741824->HW nU p s=some (true,s++EW p)
 | ⟨o,n,k,ks⟩,s,hp,hs => by
  rw[nP]at hp
  rw[EW,vas]at hs
  have hk:=wB ks
  have h1:nU s ⟨o,n,k,ks⟩=some (true,s++(if o=3 then[n]else[])):=by
   unfold nU
   show(if(o==3)=true then(app s [n]).bind fun l=>some (true,l)else some (true,s))=_
   by_cases h:o=3
   ·rw[vad (by simpa using h),vad h,cX (by rw[vad h]at hs;simp at hs ⊢;omega)]
    rfl
   ·rw[vag (by simpa using h),vag h,vbw]
  have h2:=IK ks (s++(if o=3 then[n]else[])) (by omega) (by rw[vas];omega)
  rw[HW,h1]
  simp only[vaa]
  rw[vad (by unfold bj at hp;omega),h2,EW,vbf]
theorem IK:∀(l:List aa) (s:List ag),nL l<=bj->s.length+(IM l).length<=1073741824->J1 nU l s=some (true,s++IM l)
 |[],s,_,_=>by rw[J1,IM,vbw]
 |p::l,s,hp,hs=>by
  rw[nL]at hp
  rw[IM,vas]at hs
  rw[J1,Lt p s (by omega) (by omega)]
  simp only[vaa]
  rw[IK l _ (by omega) (by rw[vas];omega),IM,vbf]
end
def cH(p:aa):List ag:=gM (EW p) []
theorem th{p:aa}{x:ag}:x∈cH p↔x∈EW p:=by unfold cH;rw[kp];simp
theorem iI(p:aa):(cH p).length<=nP p:=by
 have h1:=jx (EW p) []
 have h2:=EY p
 unfold cH
 simp at h1
 omega
theorem K3(p:aa)(hp:nP p<=400000000):mX p=some (cH p):=by
 have h:=EY p
 unfold mX
 rw[Lt p [] (by unfold bj;omega) (by simp;omega)]
 simp only[vaa,va3]
 rw[wE _ _ (by simp;omega)]
 rfl
theorem rn{α:Type}(f:α->List ag):∀(l:List α) (s:List ag),DO s->DO (l.foldl (fun s x=>gM s (f x)) s)/\∀x,x∈l.foldl (fun s x=>gM s (f x)) s↔x∈s\/∃y∈l,x∈f y
 |[],s,h=>⟨h,by simp⟩
 |y::l,s,h=>by
  obtain⟨h1,h2⟩:=rn f l (gM s (f y)) (xa _ _)
  refine⟨h1,fun x=>?_⟩
  rw[List.foldl_cons,h2,kp]
  simp only[vaE,exists_eq_or_imp,or_assoc]
theorem GV(p:aa)(hp:nP p<=200000000):nH p=some (cH p):=by
 refine iQ (F:=zc) nP (fun x=>nP x<=200000000) cH (fun R x hx ih=>?_) p hp (jm (by unfold bj;omega))
 show tZ (fun p=>R p) x=_
 unfold tZ vW
 rw[show(if(x.Op==3)=true then some ([x.Name]:List ag)else some ([]:List ag))=some (if x.Op=3 then[x.Name]else[]) by by_cases h:x.Op=3<;>simp[h]]
 simp only[vaa]
 unfold vX
 have hlen:=nV x
 have hn:=Gc x
 have h0:(if x.Op=3 then[x.Name]else[]:List ag).length<=1:=by split<;>simp
 have hi0:DO (if x.Op=3 then[x.Name]else[]:List ag):=by split;exact Q1 _;exact Jz
 rw[jl x.Kids (by omega) (fun i s=>(s,i)) _ (fun i s y=>(R y).bind fun r=>(ec s r).bind fun r6=>some (.inl (r6,bC (i+1)))) (fun i s=>s.length<=1+nL (x.Kids.take i)) (fun y s=>gM s (cH y)) id (if x.Op=3 then[x.Name]else[]) (by simpa[nL]using h0) (fun i s=>rfl) (fun i hi s hs=>?_)]
 ·simp only[id,vaa]
  obtain⟨f1,f2⟩:=rn cH x.Kids (if x.Op=3 then[x.Name]else[]) hi0
  congr 1
  refine Nc f1 fun y=>?_
  rw[f2,SM,vaA,J3]
  simp only[th,vbz,or_false]
 ·have hm:=vau hi
  have hk:=lS hm
  have h1:=uD x.Kids i hi
  have h2:=kK x.Kids (i+1)
  have h3:=iI x.Kids[i]
  refine⟨?_,?_⟩
  ·rw[ih _ hk (by omega)]
   simp only[vaa]
   rw[gE _ _ (by omega) (by omega)]
   rfl
  ·have:=jx s (cH x.Kids[i])
   omega
def po(o:Int)(ns:List ag)(i:Nat):List ag:=if o=6 then ns.take i else[]
mutual
def vT:ae->List ag
 |⟨o,n,xs,ns,p,ps⟩=>(EW p++IM ps).filter (fun s=>!(s==[118]))++Rt o ns 0 xs
def Rt(o:Int)(ns:List ag):Nat->List ae->List ag
 |_,[]=>[]
 |i,a::xs=>(vT a).filter (fun s=>!decide (s∈po o ns i))++Rt o ns (i+1) xs
end
theorem RO(t:ae):vT t=(EW t.Pred++IM t.Preds).filter (fun s=>!(s==[118]))++Rt t.Op t.Names 0 t.Args:=by obtain⟨o,n,xs,ns,p,ps⟩:=t;rw[vT];rfl
mutual
def wT:ae->Nat
 |⟨_,_,xs,_,p,ps⟩=>nP p+nL ps+vM xs
def vM:List ae->Nat
 |[]=>0
 |a::xs=>wT a+vM xs
end
theorem Hd(t:ae):wT t=nP t.Pred+nL t.Preds+vM t.Args:=by obtain⟨o,n,xs,ns,p,ps⟩:=t;rw[wT];rfl
theorem J4:∀{l:List ae} {x:ae},x∈l->wT x<=vM l
 | y :: l,x,h => by
  rw[vM]
  rcases vaE.1 h with rfl|h
  ·omega
  ·have:=J4 h;omega
theorem OQ{t a:ae}(h:a∈t.Args):wT a<=wT t:=by rw[Hd t];have:=J4 h;omega
theorem Cf(l:List ae)(i:Nat)(h:i<l.length):vM (l.take (i+1))=vM (l.take i)+wT l[i]:=by
 have key:∀(a b:List ae),vM (a++b)=vM a+vM b:=by
  intro a b
  induction a with
  |nil=>simp[vM]
  |cons x a ih=>rw[vby,vM,vM,ih];omega
 rw[va5 h,key]
 simp[vM]
theorem xj:∀(l:List ae) (i:Nat),vM (l.take i)<=vM l
 |[],i=>by simp
 |x::l,0=>by simp[vM]
 |x::l,i+1=>by rw[List.take_succ_cons,vM,vM];have:=xj l i;omega
mutual
theorem Qd:∀(t:ae),(vT t).length<=wT t
 |⟨o,n,xs,ns,p,ps⟩=>by
  have h1:=Ng o ns 0 xs
  have h2:=EY p
  have h3:=J2 ps
  have h4:=vaW (fun s=>!(s==[118])) (EW p++IM ps)
  rw[vT,wT,vas]
  rw[vas]at h4
  omega
theorem Ng(o:Int)(ns:List ag):∀(i:Nat) (l:List ae),(Rt o ns i l).length<=vM l
 |i,[]=>by simp[Rt]
 |i,a::xs=>by
  have h1:=Qd a
  have h2:=Ng o ns (i+1) xs
  have h3:=vaW (fun s=>!decide (s∈po o ns i)) (vT a)
  rw[Rt,vM,vas]
  omega
end
def freeT(t:ae):List ag:=gM (vT t) []
theorem Ii{t:ae}{x:ag}:x∈freeT t↔x∈vT t:=by unfold freeT;rw[kp];simp
theorem la(t:ae):(freeT t).length<=wT t:=by
 have h1:=jx (vT t) []
 have h2:=Qd t
 unfold freeT
 simp at h1
 omega
theorem J0{o:Int}{ns:List ag}{x:ag}:∀{l:List ae} {i:Nat},x∈Rt o ns i l↔∃(j:Nat) (h:j<l.length),x∈vT l[j]/\x∉po o ns (i+j)
 |[],i=>by simp[Rt]
 | a :: l,i => by
  rw[Rt,vaA,J0]
  simp only[vaL,va2,vbl]
  constructor
  ·rintro(h|⟨j,hj,h1,h2⟩)
   ·exact⟨0,by simp,by simpa using h⟩
   ·exact⟨j+1,by simp;omega,by simpa using h1,by rw[show i+(j+1)=i+1+j by omega];exact h2⟩
  ·rintro⟨j,hj,h1,h2⟩
   cases j with
   |zero=>exact .inl ⟨by simpa using h1,by simpa using h2⟩
   |succ j=>exact .inr ⟨j,by simp at hj;omega,by simpa using h1,by rw[show i+1+j=i+(j+1) by omega];exact h2⟩
theorem Nd{α:Type}(l:List α)(i:Nat)(hl:l.length<9223372036854775808):Lo l none (some (if(l.length:Int)<(i:Int)then(l.length:Int)else(i:Int)))=some (l.take i):=by
 by_cases h:l.length<i
 ·rw[vad (by omega),JX l l.length (var _),vaQ (var _),vaQ (by omega)]
 ·rw[vag (by omega),JX l i (by omega)]
theorem Ns(t:ae)(i:Nat)(h:t.Names.length<9223372036854775808):jr t i=some (po t.Op t.Names i):=by
 unfold jr po
 by_cases ho:t.Op=6
 ·rw[vag (by simpa using ho),Nd _ i h,vad ho]
  rfl
 ·rw[vad (by simpa using ho),vag ho]
theorem xA(f:ag->Bool):∀(l a:List ag),l.foldl (fun s x=>if f x=true then s++[x]else s) a=a++l.filter f
 |[],a=>by simp
 |x::l,a=>by
  rw[List.foldl_cons,xA f l]
  by_cases h:f x=true<;>simp[h]
theorem FQ{α:Type}(f:α->List ag):∀(l:List α) (a:List ag),l.foldl (fun s x=>s++f x) a=a++l.flatMap f
 |[],a=>by simp
 |x::l,a=>by rw[List.foldl_cons,FQ f l,vcv,vbf]
theorem Ih{α:Type}(f:Nat->α->List ag):∀(l:List α) (i:Nat) (a:List ag) (x:ag),x∈nT (fun i y s=>s++f i y) l i a↔x∈a\/∃(j:Nat) (h:j<l.length),x∈f (i+j) l[j]
 |[],i,a,x=>by simp[nT]
 | y :: l,i,a,x => by
  rw[nT,Ih f l (i+1),vaA,or_assoc]
  refine or_congr_right ⟨?_,?_⟩
  ·rintro(h|⟨j,hj,h⟩)
   ·exact⟨0,by simp,by simpa using h⟩
   ·exact⟨j+1,by simp;omega,by rw[show i+(j+1)=i+1+j by omega];simpa using h⟩
  ·rintro⟨j,hj,h⟩
   cases j with
   |zero=>exact .inl (by simpa using h)
   |succ j=>exact .inr ⟨j,by simp at hj;omega,by rw[show i+1+j=i+(j+1) by omega];simpa using h⟩
theorem N2(l out:List ag)(h:out.length+l.length<=1073741824):ir l (l.length:Int) out 0=some (out++l.filter (fun s=>!(s==[118]))):=by
 unfold ir
 rw[jl l (by omega) (fun i s=>(s,i)) _ (fun i s x=>if(!(x==([118]:ag)))=true then(app s ([x]:List ag)).bind fun l8=>some (.inl (l8,bC (i+1)))else some (.inl (s,bC (i+1)))) (fun i s=>s.length<=out.length+i) (fun x s=>if(!(x==[118]))=true then s++[x]else s) id out (by simp) (fun i s=>rfl) (fun i hi s hs=>?_),xA]
 ·rfl
 ·refine⟨?_,by split<;>(try rw[vas,List.length_singleton])<;>omega⟩
  by_cases hx:(!(l[i]==([118]:ag)))=true
  ·rw[vad hx,vad hx,cX (by simp;omega)]
   rfl
  ·rw[vag hx,vag hx]
theorem N3(b l out:List ag)(hb:b.length<9223372036854775808)(h:out.length+l.length<=1073741824):it b l (l.length:Int) out 0=some (out++l.filter (fun s=>!decide (s∈b))):=by
 unfold it
 rw[jl l (by omega) (fun i s=>(s,i)) _ (fun i s x=>(dK b x).bind fun r17=>if(!r17)=true then(app s ([x]:List ag)).bind fun l8=>some (.inl (l8,bC (i+1)))else some (.inl (s,bC (i+1)))) (fun i s=>s.length<=out.length+i) (fun x s=>if(!decide (x∈b))=true then s++[x]else s) id out (by simp) (fun i s=>rfl) (fun i hi s hs=>?_),xA]
 ·rfl
 ·refine⟨?_,by split<;>(try rw[vas,List.length_singleton])<;>omega⟩
  rw[ri b _ hb]
  simp only[vaa]
  by_cases hx:(!decide (l[i]∈b))=true
  ·rw[vad hx,vad hx,cX (by simp;omega)]
   rfl
  ·rw[vag hx,vag hx]
theorem Iz{p:aa}{ps:List aa}{x:ag}:(∃q∈[p]++ps,x∈EW q)↔x∈EW p++IM ps:=by
 rw[vaA,J3]
 simp
theorem Pu(p:aa)(ps:List aa):nL ([p]++ps)=nP p+nL ps:=by
 rw[tk];simp[nL]
theorem N4(t:ae)(hw:wT t<=200000000)(hl:eb t<=200000000):pz t=some (freeT t):=by
 refine iQ (F:=qE) eb (fun x=>wT x<=200000000/\eb x<=200000000) freeT (fun R x hx ih=>?_) t ⟨hw,hl⟩ (jm (by unfold bj;omega))
 obtain⟨hw,hl⟩:=hx
 show lZ (fun t=>R t) x=_
 have h1:=nM x
 have h2:=li x
 have h3:=nc x
 have hwe:=Hd x
 have hn1:=Pu x.Pred x.Preds
 unfold lZ
 rw[cX (by simp;omega)]
 simp only[vaa]
 unfold oF
 rw[jl ([x.Pred]++x.Preds) (by simp;omega) (fun i s=>(s,i)) _ (fun i s y=>(mX y).bind fun r4=>(ir r4 (r4.length:Int) s 0).bind fun o9=>some (.inl (o9,bC (i+1)))) (fun i s=>s.length<=nL (([x.Pred]++x.Preds).take i)) (fun y s=>s++(cH y).filter (fun s=>!(s==[118]))) id [] (by simp[nL]) (fun i s=>rfl) (fun i hi s hs=>?_),FQ]
 ·simp only[id,vaa,va3]
  have hlen0:∀(l:List aa),(l.flatMap fun y=>(cH y).filter (fun s=>!(s==[118]))).length<=nL l:=by
   intro l
   induction l with
   |nil=>simp[nL]
   |cons y l ih=>
    have g1:=vaW (fun s=>!(s==[118])) (cH y)
    have g2:=iI y
    rw[vcv,vas,nL]
    omega
  have hlen:=hlen0 ([x.Pred]++x.Preds)
  have hmem:∀z,z∈(([x.Pred]++x.Preds).flatMap fun y=>(cH y).filter (fun s=>!(s==[118])))↔z∈(EW x.Pred++IM x.Preds).filter (fun s=>!(s==[118])):=by
   intro z
   rw[vbA,vaL,<-Iz]
   simp only[vaL,th]
   constructor
   ·rintro⟨y,hy,h,h'⟩;exact⟨⟨y,hy,h⟩,h'⟩
   ·rintro⟨⟨y,hy,h⟩,h'⟩;exact⟨y,hy,h,h'⟩
  generalize (([x.Pred]++x.Preds).flatMap fun y=>(cH y).filter (fun s=>!(s==[118])))=o10 at hlen hmem
  unfold oG
  have hI:∀(i:Nat) (h:i<x.Args.length) (s:List ag),s.length<=o10.length+vM (x.Args.take i)->(s++(freeT x.Args[i]).filter (fun z=>!decide (z∈po x.Op x.Names i))).length<=o10.length+vM (x.Args.take (i+1)):=fun i h s hs=>by
   have g1:=vaW (fun z=>!decide (z∈po x.Op x.Names i)) (freeT x.Args[i])
   have g2:=la x.Args[i]
   have g3:=Cf x.Args i h
   rw[vas];omega
  rw[zF x.Args (by omega) (fun i s=>(s,i)) _ (fun i s y=>(jr x i).bind fun r13=>(R y).bind fun r14=>(it r13 r14 (r14.length:Int) s 0).bind fun o20=>some (.inl (o20,bC (i+1)))) (fun i s=>s.length<=o10.length+vM (x.Args.take i)) (fun i y s=>s++(freeT y).filter (fun z=>!decide (z∈po x.Op x.Names i))) id o10 (by simp[vM]) (fun i s=>rfl) (fun i hi s hs=>⟨?_,hI i hi s hs⟩)]
  ·simp only[id,vaa]
   have hlast:(nT (fun i y s=>s++(freeT y).filter (fun z=>!decide (z∈po x.Op x.Names i))) x.Args 0 o10).length<=o10.length+vM x.Args:=by
    have key:∀(l:List ae) (i:Nat) (a:List ag),(nT (fun i y s=>s++(freeT y).filter (fun z=>!decide (z∈po x.Op x.Names i))) l i a).length<=a.length+vM l:=by
     intro l
     induction l with
     |nil=>intro i a;simp[nT]
     |cons y l ih=>
      intro i a
      have g1:=vaW (fun z=>!decide (z∈po x.Op x.Names i)) (freeT y)
      have g2:=la y
      have g3:=ih (i+1) (a++(freeT y).filter (fun z=>!decide (z∈po x.Op x.Names i)))
      rw[nT,vM]
      rw[vas]at g3
      omega
    exact key x.Args 0 o10
   rw[wE _ _ (by simp;exact vaR hlast (by omega))]
   simp only[vaa]
   congr 1
   refine P4 fun z=>?_
   rw[Ih,RO,vaA,hmem,J0]
   simp only[vaL,Ii,va2,vbl,vbz,or_false]
  ·have hm:=vau hi
   have g2:=la x.Args[i]
   have g3:=Cf x.Args i hi
   have g4:=xj x.Args (i+1)
   have g5:=lK hm
   have g6:=OQ hm
   rw[Ns x i (by omega)]
   simp only[vaa]
   rw[ih _ g5 ⟨by omega,by omega⟩]
   simp only[vaa]
   have hbl:(po x.Op x.Names i).length<9223372036854775808:=by
    unfold po
    split
    ·rw[vaP];omega
    ·simp
   rw[N3 _ _ _ hbl (by omega)]
   rfl
 ·have hm:=vau hi
  have g1:=uD ([x.Pred]++x.Preds) i hi
  have g2:=kK ([x.Pred]++x.Preds) (i+1)
  have g3:=iI ([x.Pred]++x.Preds)[i]
  have g4:=vaW (fun s=>!(s==[118])) (cH ([x.Pred]++x.Preds)[i])
  refine⟨?_,by rw[vas];omega⟩
  rw[K3 _ (by omega)]
  simp only[vaa]
  rw[N2 _ _ (by omega)]
  rfl
theorem Lk{l:List ag}{v:ag}(hl:l.length<9223372036854775808):∃r,fx l v=some r/\(decide (r<0)= !decide (v∈l))/\(decide (r>=0)=decide (v∈l)):=by
 obtain⟨r,hr,hm⟩:∃r,fx l v=some r/\(r>=0↔v∈l):=⟨_,Lj l v hl,KM⟩
 refine⟨r,hr,?_,decide_eq_decide.2 hm⟩
 by_cases h:v∈l
 ·have:=hm.2 h
  rw[decide_eq_false (by omega),vaX h];rfl
 ·have:¬(r>=0):=fun e=>h (hm.1 e)
  rw[vaX (by omega),decide_eq_false h];rfl
def oQ(ns l:List ag):List ag:=l.filter (fun s=>!decide (s∈ns))
theorem KS{ns l:List ag}{x:ag}:x∈oQ ns l↔x∈l/\x∉ns:=by
 unfold oQ
 rw[vaL]
 simp
theorem AX(ns l:List ag):(oQ ns l).length<=l.length:=vaW ..
theorem He(a ns:List ag)(ha:a.length<=1073741824)(hn:ns.length<9223372036854775808):je a ns=some (oQ ns a):=by
 unfold je qb
 rw[jl a (by omega) (fun i s=>(s,i)) _ (fun i s x=>(fx ns x).bind fun r3=>if(decide (r3<0))=true then(app s ([x]:List ag)).bind fun l5=>some (.inl (l5,bC (i+1)))else some (.inl (s,bC (i+1)))) (fun i s=>s.length<=i) (fun x s=>if(!decide (x∈ns))=true then s++[x]else s) id [] (by simp) (fun i s=>rfl) (fun i hi s hs=>?_),xA]
 ·rfl
 ·refine⟨?_,by split<;>(try rw[vas,List.length_singleton])<;>omega⟩
  obtain⟨r,e1,e2,_⟩:=Lk (l:=ns) (v:=a[i]) hn
  rw[e1]
  simp only[vaa,e2]
  by_cases hx:(!decide (a[i]∈ns))=true
  ·rw[vad hx,vad hx,cX (by simp;omega)]
   rfl
  ·rw[vag hx,vag hx]
theorem O8{α:Type}(f:Nat->α->List ag):∀(l:List α) (i:Nat) (a:List ag),DO a->DO (nT (fun i y s=>gM s (f i y)) l i a)/\∀x,x∈nT (fun i y s=>gM s (f i y)) l i a↔x∈a\/∃(j:Nat) (h:j<l.length),x∈f (i+j) l[j]
 |[],i,a,h=>⟨h,by simp[nT]⟩
 | y :: l,i,a,h => by
  obtain⟨h1,h2⟩:=O8 f l (i+1) (gM a (f i y)) (xa _ _)
  refine⟨h1,fun x=>?_⟩
  rw[nT,h2,kp,or_assoc]
  refine or_congr_right ⟨?_,?_⟩
  ·rintro(h|⟨j,hj,h⟩)
   ·exact⟨0,by simp,by simpa using h⟩
   ·exact⟨j+1,by simp;omega,by rw[show i+(j+1)=i+1+j by omega];simpa using h⟩
  ·rintro⟨j,hj,h⟩
   cases j with
   |zero=>exact .inl (by simpa using h)
   |succ j=>exact .inr ⟨j,by simp at hj;omega,by rw[show i+1+j=i+(j+1) by omega];simpa using h⟩
theorem Od(t:ae)(hw:wT t<=100000000)(hl:eb t<=100000000):Fc t=some (freeT t):=by
 refine iQ (F:=zg) eb (fun x=>wT x<=100000000/\eb x<=100000000) freeT (fun R x hx ih=>?_) t ⟨hw,hl⟩ (jm (by unfold bj;omega))
 obtain⟨hw,hl⟩:=hx
 show ud (fun t=>R t) x=_
 have h1:=nM x
 have h2:=li x
 have h3:=nc x
 have hwe:=Hd x
 have hn1:=Pu x.Pred x.Preds
 unfold ud
 rw[cX (by simp;omega)]
 simp only[vaa]
 unfold wb
 rw[jl ([x.Pred]++x.Preds) (by simp;omega) (fun i s=>(s,i)) _ (fun i s y=>(nH y).bind fun r4=>(je r4 ([([118]:ag)]:List ag)).bind fun r5=>(ec s r5).bind fun r6=>some (.inl (r6,bC (i+1)))) (fun i s=>s.length<=nL (([x.Pred]++x.Preds).take i)) (fun y s=>gM s (oQ [([118]:ag)] (cH y))) id [] (by simp[nL]) (fun i s=>rfl) (fun i hi s hs=>?_)]
 ·simp only[id,vaa]
  obtain⟨f1,f2⟩:=rn (fun y=>oQ [([118]:ag)] (cH y)) ([x.Pred]++x.Preds) [] Jz
  have hlen0:∀(l:List aa) (a:List ag),(l.foldl (fun s y=>gM s (oQ [([118]:ag)] (cH y))) a).length<=a.length+nL l:=by
   intro l
   induction l with
   |nil=>intro a;simp
   |cons y l ih=>
    intro a
    have g1:=AX [([118]:ag)] (cH y)
    have g2:=iI y
    have g3:=ih (gM a (oQ [([118]:ag)] (cH y)))
    have g4:=jx a (oQ [([118]:ag)] (cH y))
    rw[List.foldl_cons,nL]
    omega
  have hlen:=hlen0 ([x.Pred]++x.Preds) []
  simp only[List.length_nil,vaF]at hlen
  have hmem:∀z,z∈(([x.Pred]++x.Preds).foldl (fun s y=>gM s (oQ [([118]:ag)] (cH y))) [])↔z∈(EW x.Pred++IM x.Preds).filter (fun s=>!(s==[118])):=by
   intro z
   rw[f2,vaL,<-Iz]
   simp only[vbz,false_or,KS,th,va4]
   constructor
   ·rintro⟨y,hy,h,h'⟩;exact⟨⟨y,hy,h⟩,by simpa using h'⟩
   ·rintro⟨⟨y,hy,h⟩,h'⟩;exact⟨y,hy,h,by simpa using h'⟩
  generalize (([x.Pred]++x.Preds).foldl (fun s y=>gM s (oQ [([118]:ag)] (cH y))) [])=o10 at hlen hmem f1
  unfold wc
  have hI:∀(i:Nat) (h:i<x.Args.length) (s:List ag),s.length<=o10.length+vM (x.Args.take i)->(gM s (oQ (po x.Op x.Names i) (freeT x.Args[i]))).length<=o10.length+vM (x.Args.take (i+1)):=fun i h s hs=>by
   have g1:=AX (po x.Op x.Names i) (freeT x.Args[i])
   have g2:=la x.Args[i]
   have g3:=Cf x.Args i h
   have g4:=jx s (oQ (po x.Op x.Names i) (freeT x.Args[i]))
   omega
  rw[zF x.Args (by omega) (fun i s=>(s,i)) _ (fun i s y=>(Lo x.Names none (some (if(x.Names.length:Int)<i then(x.Names.length:Int)else i))).bind fun l10=>(nI x l10).bind fun o12=>(R y).bind fun r13=>(je r13 o12).bind fun r14=>(ec s r14).bind fun r15=>some (.inl (r15,bC (i+1)))) (fun i s=>s.length<=o10.length+vM (x.Args.take i)) (fun i y s=>gM s (oQ (po x.Op x.Names i) (freeT y))) id o10 (by simp[vM]) (fun i s=>rfl) (fun i hi s hs=>⟨?_,hI i hi s hs⟩)]
  ·simp only[id,vaa]
   obtain⟨g1,g2⟩:=O8 (fun i y=>oQ (po x.Op x.Names i) (freeT y)) x.Args 0 o10 f1
   congr 1
   refine Nc g1 fun z=>?_
   rw[g2,RO,vaA,hmem,J0]
   simp only[KS,Ii,vbz,or_false]
  ·have hm:=vau hi
   have g2:=la x.Args[i]
   have g3:=Cf x.Args i hi
   have g4:=xj x.Args (i+1)
   have g5:=lK hm
   have g6:=OQ hm
   have g7:=AX (po x.Op x.Names i) (freeT x.Args[i])
   rw[Nd _ i (by omega)]
   simp only[vaa]
   rw[show nI x (x.Names.take i)=some (po x.Op x.Names i) by
    unfold nI po
    by_cases ho:x.Op=6<;>simp[ho]]
   simp only[vaa]
   rw[ih _ g5 ⟨by omega,by omega⟩]
   simp only[vaa]
   have hbl:(po x.Op x.Names i).length<9223372036854775808:=by
    unfold po
    split
    ·rw[vaP];omega
    ·simp
   rw[He _ _ (by omega) hbl]
   simp only[vaa]
   rw[gE _ _ (by omega) (by omega)]
   rfl
 ·have hm:=vau hi
  have g1:=uD ([x.Pred]++x.Preds) i hi
  have g2:=kK ([x.Pred]++x.Preds) (i+1)
  have g3:=iI ([x.Pred]++x.Preds)[i]
  have g4:=AX [([118]:ag)] (cH ([x.Pred]++x.Preds)[i])
  have g5:=jx s (oQ [([118]:ag)] (cH ([x.Pred]++x.Preds)[i]))
  refine⟨?_,by omega⟩
  rw[GV _ (by omega)]
  simp only[vaa]
  rw[He _ _ (by omega) (by simp)]
  simp only[vaa]
  rw[gE _ _ (by omega) (by omega)]
  rfl
theorem AY{σ τ X:Type}(n:Nat)(hn:n<9223372036854775808)(mk:Int->σ->τ)(body:τ->Option (τ⊕X))(F:Nat->σ)(y:X)
  (hin:∀i,i<n->body (mk (i:Int) (F i))=some (.inl (mk (bC ((i:Int)+1)) (F (i+1))))) (hend:body (mk (n:Int) (F n))=some (.inr y)):loop body (mk 0 (F 0))=some y:=by
 have key:∀k i,k+i=n->loop body (mk (i:Int) (F i))=some y:=by
  intro k
  induction k with
  |zero=>
   intro i hi
   have:i=n:=by omega
   subst this
   exact mT hend
  |succ k ih=>
   intro i hi
   rw[pH (hin i (by omega)),gA (by omega) (by omega),show((i:Int)+1)=((i+1:Nat):Int) by omega]
   exact ih (i+1) (by omega)
 exact key n 0 (by omega)
abbrev Sb:Type:=List (ag×aa)
abbrev kN(c:Sb):List ag:=c.map (·.1)
abbrev kB(c:Sb):List aa:=c.map (·.2)
def Ou(x:ag):aa:=⟨3,x,0,[]⟩
def bY(x:ag)(c:Sb):Sb:=c.filter (fun e=>!(e.1==x))
def mS(x:ag)(c:Sb):Bool:=c.any (fun e=>decide (x∈EW e.2))
abbrev S3:Type:=List ag×Sb×List ag
def wv(o:Int)(ns:List ag)(i:Nat)(s:S3):S3:=
 if o=6/\i<ns.length then
  if mS (ns.getD i []) (bY (ns.getD i []) s.2.1)=true then
   (s.1++[gK s.1 (ns.getD i [])],bY (ns.getD i []) s.2.1++[(ns.getD i [],Ou (gK s.1 (ns.getD i [])))],s.2.2.set i (gK s.1 (ns.getD i [])))
  else(s.1,bY (ns.getD i []) s.2.1,s.2.2)
 else s
mutual
def ww:ae->Sb->ae
 |⟨o,n,xs,ns,p,ps⟩,c=>
  ⟨o,n,(FD o ns 0 xs (((kB c).flatMap cH++freeT ⟨o,n,xs,ns,p,ps⟩)++ns,c,ns)).1,(FD o ns 0 xs (((kB c).flatMap cH++freeT ⟨o,n,xs,ns,p,ps⟩)++ns,c,ns)).2,Cg (g9 (kN c) (kB c)) p,ps.map (Cg (g9 (kN c) (kB c)))⟩
def FD(o:Int)(ns:List ag):Nat->List ae->S3->List ae×List ag
 |_,[],s=>([],s.2.2)
 |i,a::xs,s=>(ww a s.2.1::(FD o ns (i+1) xs (wv o ns i s)).1,(FD o ns (i+1) xs (wv o ns i s)).2)
end
def gf(o:Int)(ns:List ag)(s:S3):Nat->S3
 |0=>s
 |i+1=>wv o ns i (gf o ns s i)
def bo(t:ae)(c:Sb):S3:=(((kB c).flatMap cH++freeT t)++t.Names,c,t.Names)
theorem OX(o:Int)(ns:List ag)(s:S3):∀(xs:List ae) (i:Nat),FD o ns i xs (gf o ns s i)=((xs.zipIdx i).map (fun y=>ww y.1 (gf o ns s y.2).2.1),(gf o ns s (i+xs.length)).2.2)
 |[],i=>by rw[FD];rfl
 |a::xs,i=>by
  have ih:=OX o ns s xs (i+1)
  rw[FD,show wv o ns i (gf o ns s i)=gf o ns s (i+1)from rfl,ih,List.zipIdx_cons,vay,vaT,show i+1+xs.length=i+(xs.length+1) by omega]
theorem LO(t:ae)(c:Sb):ww t c=⟨t.Op,t.Name,(t.Args.zipIdx).map (fun y=>ww y.1 (gf t.Op t.Names (bo t c) y.2).2.1),(gf t.Op t.Names (bo t c) t.Args.length).2.2,Cg (g9 (kN c) (kB c)) t.Pred,t.Preds.map (Cg (g9 (kN c) (kB c)))⟩:=by
 obtain⟨o,n,xs,ns,p,ps⟩:=t
 have h:=OX o ns (bo ⟨o,n,xs,ns,p,ps⟩ c) xs 0
 rw[show gf o ns (bo ⟨o,n,xs,ns,p,ps⟩ c) 0=(((kB c).flatMap cH++freeT ⟨o,n,xs,ns,p,ps⟩)++ns,c,ns)from rfl,vaF]at h
 rw[ww,h]
 rfl
def LN(t:ae)(c:Sb)(i:Nat):List ae:=((t.Args.take i).zipIdx).map (fun y=>ww y.1 (gf t.Op t.Names (bo t c) y.2).2.1)
theorem Kz(t:ae)(c:Sb)(i:Nat)(h:i<t.Args.length):LN t c (i+1)=LN t c i++[ww t.Args[i] (gf t.Op t.Names (bo t c) i).2.1]:=by
 unfold LN
 rw[va5 h,List.zipIdx_append,vbv,vaP]
 rw[show min i t.Args.length=i by omega]
 simp[List.zipIdx_cons]
theorem MA(t:ae)(c:Sb)(i:Nat)(h:i<=t.Args.length):(LN t c i).length=i:=by
 unfold LN
 rw[vaB,List.length_zipIdx,vaP]
 omega
theorem Mz(t:ae)(c:Sb):LN t c t.Args.length=(t.Args.zipIdx).map (fun y=>ww y.1 (gf t.Op t.Names (bo t c) y.2).2.1):=by
 unfold LN
 rw[vaQ (var _)]
theorem JD(x:ag):∀(c:Sb),kN (bY x c)=(kN c).filter (fun n=>!(n==x))
 |[]=>rfl
 | e :: c => by
  have ih:=JD x c
  unfold bY kN at ih ⊢
  rw[va1,vay,va1]
  split
  ·rw[vay,ih]
  ·exact ih
theorem KF(x:ag)(c:Sb):x∉kN (bY x c):=by rw[JD];simp
theorem qj{x:ag}{c:Sb}(h:(kN c).Nodup):(kN (bY x c)).Nodup:=by rw[JD];exact h.filter _
theorem L0(x:ag)(c:Sb):bY x (bY x c)=bY x c:=by
 unfold bY
 rw[vci]
 congr 1
 funext e
 cases(e.1==x)<;>rfl
theorem ES(x:ag):∀(c:Sb),nL (kB (bY x c))<=nL (kB c)
 |[]=>by simp[bY,kB]
 | e :: c => by
  have ih:=ES x c
  unfold bY kB at ih ⊢
  rw[va1]
  split
  ·rw[vay,vay,nL,nL];omega
  ·rw[vay,nL];omega
theorem F2(c:Sb):c.length<=nL (kB c):=by
 have:=wB (kB c)
 rwa[vaB]at this
theorem Pw(x:ag):nP (Ou x)=1:=by simp[Ou,nP,nL]
theorem Q3(c:Sb)(e:ag×aa):nL (kB (c++[e]))=nL (kB c)+nP e.2:=by
 unfold kB
 rw[vbv,tk];simp[nL]
theorem xw(o:Int)(ns:List ag)(s:S3)(h:(kN s.2.1).Nodup):∀i,(kN (gf o ns s i).2.1).Nodup
 |0=>h
 | i + 1 => by
  have ih:=xw o ns s h i
  show(kN (wv o ns i (gf o ns s i)).2.1).Nodup
  unfold wv
  split
  ·split
   ·unfold kN
    rw[vbv]
    simp only[vay,vcj]
    rw[vcw]
    refine⟨qj ih,by simp,fun a ha b hb=>?_⟩
    rw[va4]at hb
    subst hb
    exact fun e=>KF _ _ (e▸ha)
   ·exact qj ih
  ·exact ih
theorem MB(o:Int)(ns:List ag)(s:S3):∀i,nL (kB (gf o ns s i).2.1)<=nL (kB s.2.1)+min i ns.length
 |0=>by simp[gf]
 | i + 1 => by
  have ih:=MB o ns s i
  show nL (kB (wv o ns i (gf o ns s i)).2.1)<=_
  have hd:=ES (ns.getD i []) (gf o ns s i).2.1
  unfold wv
  split
  ·rename_i hc
   split
   ·show nL (kB (bY (ns.getD i []) (gf o ns s i).2.1++[(ns.getD i [],Ou (gK (gf o ns s i).1 (ns.getD i [])))]))<=_
    rw[Q3,Pw]
    omega
   ·show nL (kB (bY (ns.getD i []) (gf o ns s i).2.1))<=_
    omega
  ·omega
theorem OZ(o:Int)(ns:List ag)(s:S3):∀i,(gf o ns s i).1.length<=s.1.length+i
 |0=>by simp[gf]
 | i + 1 => by
  have ih:=OZ o ns s i
  show(wv o ns i (gf o ns s i)).1.length<=_
  unfold wv
  split
  ·split
   ·simp only[vas,List.length_singleton];omega
   ·simp only;omega
  ·omega
theorem KB(o:Int)(ns:List ag)(s:S3):∀i,(gf o ns s i).2.2.length=s.2.2.length
 |0=>rfl
 | i + 1 => by
  have ih:=KB o ns s i
  show(wv o ns i (gf o ns s i)).2.2.length=_
  unfold wv
  split
  ·split
   ·simp only[vbu];exact ih
   ·exact ih
  ·exact ih
theorem xz:∀(l:List aa),(l.flatMap cH).length<=nL l
 |[]=>by simp[nL]
 |p::l=>by
  have:=xz l
  have:=iI p
  rw[vcv,vas,nL];omega
theorem Nf(t:ae)(c:Sb):(bo t c).1.length<=nL (kB c)+wT t+eb t:=by
 have h1:=xz (kB c)
 have h2:=la t
 have h3:=li t
 unfold bo
 simp only[vas]
 omega
theorem zx(x:ag)(c:Sb):decide (x∈(kB c).flatMap cH)=mS x c:=by
 unfold mS
 rw[vcd,vao,vbr,vbA]
 simp only[th,vao,kB,vak]
 constructor
 ·rintro⟨p,⟨e,he,rfl⟩,h⟩;exact⟨e,he,h⟩
 ·rintro⟨e,he,h⟩;exact⟨e.2,⟨e,he,rfl⟩,h⟩
theorem Jx{α:Type}(n:Nat)(l:List α)(i:Nat)(h:i<n)(h2:i<l.length):OC n l (i:Int)=some l[i]:=by
 unfold OC
 rw[vad ⟨by omega,by omega⟩]
 simp[h2]
theorem Qb{α:Type}(l:List α)(i:Nat)(x:α)(h:i<l.length):SJ l (i:Int) x=some (l.set i x):=by
 unfold SJ
 rw[vad ⟨by omega,by omega⟩]
 rfl
theorem Pa{α:Type}(n:Nat)(l:List α)(h:n=l.length):Sr n l=some l:=vad h
theorem Jw(ns:List ag)(i:Nat)(h:i<ns.length):ns.getD i []=ns[i]:=by simp[h]
mutual
def Eb(L:Nat):ae->Prop
 |⟨_,_,xs,ns,_,_⟩=>(∀s∈ns,s.length<=L)/\wt L xs
def wt(L:Nat):List ae->Prop
 |[]=>True
 |a::xs=>Eb L a/\wt L xs
end
theorem Fs(L:Nat)(t:ae):Eb L t↔(∀s∈t.Names,s.length<=L)/\wt L t.Args:=by obtain⟨o,n,xs,ns,p,ps⟩:=t;rw[Eb];rfl
theorem HZ(L:Nat):∀(l:List ae),wt L l↔∀t∈l,Eb L t
 |[]=>by simp[wt]
 |a::l=>by rw[wt,HZ L l];simp
theorem Kr{L:Nat}{t a:ae}(h:Eb L t)(ha:a∈t.Args):Eb L a:=(HZ L _).1 ((Fs L t).1 h).2 a ha
mutual
theorem H1{L M:Nat}(h:L<=M):∀(t:ae),Eb L t->Eb M t
 |⟨_,_,xs,ns,_,_⟩,ht=>by
  rw[Eb]at ht ⊢
  exact⟨fun s hs=>vaR (ht.1 s hs) h,Fr h xs ht.2⟩
theorem Fr{L M:Nat}(h:L<=M):∀(l:List ae),wt L l->wt M l
 |[],_=>trivial
 |a::xs,hl=>by
  rw[wt]at hl ⊢
  exact⟨H1 h a hl.1,Fr h xs hl.2⟩
end
theorem Rm{ns:List ag}{s:ag}(h:s∈ns):s.length<=mw (ns.map cS):=by
 have h2:=Bk (vak.2 ⟨s,h,rfl⟩:cS s∈ns.map cS)
 simp only[cS,wL,pm]at h2
 omega
mutual
theorem Mt(B:Nat):∀(t:ae),wL (af t)<=B->Eb B t
 |⟨o,n,xs,ns,p,ps⟩,h=>by
  rw[wM]at h
  have h:1+(pm (.str n)+(pm (sl af xs)+(pm (sl cS ns)+(1+(pm (.str p.Name)+(1+(pm (sl ac p.Kids)+(pm (sl ac ps)+0))))))))<=B:=h
  simp only[pm,sl]at h
  rw[Eb]
  exact⟨fun s hs=>by have:=Rm hs;omega,Kq B xs (by omega)⟩
theorem Kq(B:Nat):∀(l:List ae),mw (l.map af)<=B->wt B l
 |[],_=>trivial
 |a::xs,h=>by
  simp only[vay,mw]at h
  rw[wt]
  exact⟨Mt B a (by omega),Kq B xs (by omega)⟩
end
mutual
theorem Nh:∀(t:ae),wT t<=wL (af t)
 |⟨o,n,xs,ns,p,ps⟩=>by
  have h1:=Qf xs
  have h2:=Iq ps
  have h3:=Iq p.Kids
  have h4:=Gc p
  rw[wT,wM]
  show _<=1+(pm (.str n)+(pm (sl af xs)+(pm (sl cS ns)+(1+(pm (.str p.Name)+(1+(pm (sl ac p.Kids)+(pm (sl ac ps)+0))))))))
  simp only[pm,sl]
  omega
theorem Qf:∀(l:List ae),vM l<=mw (l.map af)
 |[]=>by simp[vM]
 |a::l=>by
  have:=Nh a
  have:=Qf l
  rw[vM]
  simp only[vay,mw]
  omega
end
theorem od:∀(c:Sb),(kN c).zip (kB c)=c
 |[]=>rfl
 |e::c=>by
  have ih:=od c
  unfold kN kB at ih ⊢
  rw[vay,vay,List.zip_cons_cons,ih]
def xO(hid:List ag)(c:Sb):Sb:=c.foldl (fun o e=>if e.1∈hid\/e.1∈kN o then o else o++[e]) []
theorem Hg(hid:List ag)(c:Sb)(i:Nat)(h:i<c.length):xO hid (c.take (i+1))=if c[i].1∈hid\/c[i].1∈kN (xO hid (c.take i))then xO hid (c.take i)else xO hid (c.take i)++[c[i]]:=by
 unfold xO
 rw[va5 h,vcs]
 rfl
theorem Ni(hid:List ag):∀(c:Sb),(xO hid c).length<=c.length:=by
 have key:∀(c o:Sb),(c.foldl (fun o e=>if e.1∈hid\/e.1∈kN o then o else o++[e]) o).length<=o.length+c.length:=by
  intro c
  induction c with
  |nil=>intro o;simp
  | cons e c ih =>
   intro o
   rw[List.foldl_cons,vaT]
   refine vaR (ih _) ?_
   split
   ·omega
   ·rw[vas,List.length_singleton];omega
 intro c
 have:=key c []
 simpa[xO]using this
theorem Rw{x:ag}{c:Sb}(h:(kN c).Nodup):xO [x] c=bY x c:=by
 have key:∀(c o:Sb),(kN c).Nodup->(∀e∈c,e.1∉kN o)->c.foldl (fun o e=>if e.1∈[x]\/e.1∈kN o then o else o++[e]) o=o++bY x c:=by
  intro c
  induction c with
  |nil=>intro o _ _;simp[bY]
  | cons e c ih =>
   intro o hn ho
   unfold kN at hn
   rw[vay,vbM]at hn
   have h1:=ho e (by simp)
   rw[List.foldl_cons]
   by_cases hx:e.1=x
   ·rw[vad (.inl (by simp[hx])),ih o hn.2 (fun e' he'=>ho e' (by simp[he']))]
    unfold bY
    rw[va1,vag (by simp[hx])]
   ·rw[vag (by simp only[va4];rintro(h|h);exact hx h;exact h1 h)]
    rw[ih (o++[e]) hn.2 (fun e' he' hm=>by
     unfold kN at hm
     rw[vbv,vaA]at hm
     rcases hm with hm|hm
     ·exact ho e' (by simp[he']) hm
     ·simp only[vay,vcj,va4]at hm
      exact hn.1 (vak.2 ⟨e',he',hm⟩))]
    unfold bY
    rw[va1,vad (by simpa using hx),vbf]
    rfl
 have:=key c [] h (fun e _=>by simp)
 simpa[xO]using this
theorem DG(hid:List ag)(c:Sb)(hh:hid.length<9223372036854775808)(hc:c.length<=1000000000):bX ⟨kN c,kB c⟩ hid=some ⟨kN (xO hid c),kB (xO hid c)⟩:=by
 unfold bX dN
 have hl:(kN c).length=c.length:=vaB ..
 have:=AY c.length (by omega) (fun i (s:List ag×List aa)=>(i,s.1,s.2)) (fun(zz:Int×(List ag)×(List aa))=>bu hid ⟨kN c,kB c⟩ (kN c) ((kN c).length:Int) zz.1 zz.2.1 zz.2.2)
  (fun i=>(kN (xO hid (c.take i)),kB (xO hid (c.take i)))) (kN (xO hid c),kB (xO hid c)) (fun i hi=>?_) ?_
 ·rw[show(xO hid (c.take 0))=[]from rfl]at this
  rw[show(((0:Int),([]:List ag),([]:List aa)):Int×(List ag)×(List aa))=(0,kN [],kB [])from rfl,this]
  rfl
 ·show bu hid ⟨kN c,kB c⟩ (kN c) ((kN c).length:Int) (i:Int) (kN (xO hid (c.take i))) (kB (xO hid (c.take i)))=_
  unfold bu dM
  have hw:=Ni hid (c.take i)
  rw[vaP]at hw
  have hkl:(kN (xO hid (c.take i))).length=(xO hid (c.take i)).length:=vaB ..
  have hkb:(kB (xO hid (c.take i))).length=(xO hid (c.take i)).length:=vaB ..
  rw[vad (by simp;omega),bD (kN c) i (by omega)]
  simp only[vaa]
  rw[ri hid _ hh,ri (kN (xO hid (c.take i))) _ (by omega)]
  simp only[vaa]
  have hg:(kN c)[i]'(by omega)=c[i].1:=by simp[kN]
  have hb:(kB c)[i]'(by simp[kB];omega)=c[i].2:=by simp[kB]
  rw[hg,Hg hid c i hi]
  by_cases h1:c[i].1∈hid
  ·simp only[h1,decide_true,vbV,vaH,if_false,vaa,true_or,if_true]
  ·by_cases h2:c[i].1∈kN (xO hid (c.take i))
   ·simp only[h1,h2,decide_false,decide_true,vbG,vbV,vaH,if_false,vaa,or_true,if_true]
   ·simp only[h1,h2,decide_false,vbG,if_true,vaa,or_self,if_false]
    rw[cX (by simp;omega)]
    simp only[vaa]
    rw[bD (kB c) i (by simp[kB];omega)]
    simp only[vaa,hb]
    rw[cX (by simp;omega)]
    simp[kN,kB]
 ·show bu hid ⟨kN c,kB c⟩ (kN c) ((kN c).length:Int) (c.length:Int) (kN (xO hid (c.take c.length))) (kB (xO hid (c.take c.length)))=_
  unfold bu
  rw[vag (by simp),vaQ (var _)]
theorem PU(x:ag)(c:Sb)(hn:(kN c).Nodup)(hc:c.length<=1000000000):bX ⟨kN c,kB c⟩ [x]=some ⟨kN (bY x c),kB (bY x c)⟩:=by
 rw[DG [x] c (by simp) hc,Rw hn]
theorem Lb(x:ag)(q:aa)(c:Sb)(hn:(kN c).Nodup)(hc:c.length<=1000000000):cW ⟨kN (bY x c),kB (bY x c)⟩ x q=some ⟨kN (bY x c++[(x,q)]),kB (bY x c++[(x,q)])⟩:=by
 unfold cW
 have hd:(bY x c).length<=c.length:=vaW ..
 rw[PU x _ (qj hn) (by omega),L0]
 simp only[vaa]
 have h1:(kN (bY x c)).length=(bY x c).length:=vaB ..
 have h2:(kB (bY x c)).length=(bY x c).length:=vaB ..
 rw[cX (by simp;omega)]
 simp only[vaa]
 rw[cX (by simp;omega)]
 simp[kN,kB]
theorem IA(ns:List ag)(bs:List aa)(h:nL bs<=400000000):cV ⟨ns,bs⟩=some (bs.flatMap cH):=by
 unfold cV eA
 have hl:=wB bs
 show(loop (fun(zz:(List ag)×Int)=>dZ bs (bs.length:Int) zz.1 zz.2) ([],0)).bind _=_
 rw[jl bs (by omega) (fun i s=>(s,i)) _ (fun i s x=>(mX x).bind fun r3=>(app s r3).bind fun l4=>some (.inl (l4,bC (i+1)))) (fun i s=>s.length<=nL (bs.take i)) (fun x s=>s++cH x) id [] (by simp[nL]) (fun i s=>rfl) (fun i hi s hs=>?_),FQ]
 ·rfl
 ·have h1:=uD bs i hi
  have h2:=kK bs (i+1)
  have h3:=iI bs[i]
  refine⟨?_,by rw[vas];omega⟩
  rw[K3 _ (by omega)]
  simp only[vaa]
  rw[cX (by omega)]
  rfl
structure PA(t:ae)(c:Sb):Prop where
 nd:(kN c).Nodup
 sz:nL (kB c)+eb t<=20000000
 w:wT t<=20000000
 n:Eb 1000000000000000 t
theorem Sv{c:Sb}{q:aa}(h:q∈kB c):nP q<=nL (kB c):=CJ h
theorem RI{t:ae}:nP t.Pred<=wT t:=by rw[Hd];omega
theorem GP{t:ae}{q:aa}(h:q∈t.Preds):nP q<=wT t:=by rw[Hd];have:=CJ h;omega
theorem MY{t:ae}{c:Sb}(h:PA t c)(i:Nat)(hi:i<t.Args.length):PA t.Args[i] (gf t.Op t.Names (bo t c) i).2.1 where
 nd:=xw _ _ _ h.nd i
 sz:=by
  have h1:=MB t.Op t.Names (bo t c) i
  have h2:=rt t
  have h3:=xB (vau hi)
  have h4:=h.sz
  show nL (kB (gf t.Op t.Names (bo t c) i).2.1)+eb t.Args[i]<=20000000
  have h5:nL (kB (bo t c).2.1)=nL (kB c):=rfl
  omega
 w:=vaR (OQ (vau hi)) h.w
 n:=Kr h.n (vau hi)
theorem C3(c:Sb)(p:aa)(hp:nP p<=bj)(hc:nL (kB c)<=bj):ck ⟨kN c,kB c⟩ p=some (Cg (g9 (kN c) (kB c)) p):=by
 unfold ck
 have:=F2 c
 have h1:(kN c).length=c.length:=vaB ..
 rw[M6 p (kN c) (kB c) hp (by unfold bj at hc;omega) (fun q hq=>vaR (Sv hq) hc)]
 rfl
theorem Gw(c:Sb)(l:List aa)(hl:l.length<=1073741824)(hp:∀p∈l,nP p<=bj)(hc:nL (kB c)<=bj):jv l ⟨kN c,kB c⟩=some (l.map (Cg (g9 (kN c) (kB c)))):=by
 unfold jv mg
 rw[lb l hl (fun i s=>(s,i)) _ (fun y=>ck ⟨kN c,kB c⟩ y) (Cg (g9 (kN c) (kB c))) id (fun i s=>rfl) (fun y hy=>C3 c y (hp y hy) hc)]
 rfl
theorem OY{o:Int}(ho:o≠6)(ns:List ag)(s:S3):∀i,gf o ns s i=s
 |0=>rfl
 |i+1=>by
  show wv o ns i (gf o ns s i)=s
  rw[OY ho ns s i]
  unfold wv
  rw[vag (fun h=>ho h.1)]
theorem y2{α β:Type}(f:α->β):∀(l:List α) (i:Nat),(l.zipIdx i).map (fun y=>f y.1)=l.map f
 |[],i=>rfl
 |x::l,i=>by rw[List.zipIdx_cons,vay,vay,y2 f l (i+1)]
theorem Rd(t:ae)(c:Sb)(h:PA t c):fS ⟨kN c,kB c⟩ t=some (ww t c):=by
 have hbig:eb t<Qj:=jm (by have:=h.sz;unfold bj;omega)
 refine(iQ (F:=fe) (fun x=>eb x.2) (fun x=>∃c,x.1=⟨kN c,kB c⟩/\PA x.2 c) (fun x=>ww x.2 (x.1.names.zip x.1.by_)) (fun R x hx ih=>?_) (⟨kN c,kB c⟩,t) ⟨c,rfl,h⟩ hbig).trans (by
  show some (ww t ((kN c).zip (kB c)))=_
  rw[od])
 obtain⟨s,t⟩:=x
 obtain⟨c,hs,h⟩:=hx
 have hs:s=⟨kN c,kB c⟩:=hs
 have h:PA t c:=h
 subst hs
 show dF (fun s t=>R (s,t)) ⟨kN c,kB c⟩ t=some (ww t ((kN c).zip (kB c)))
 rw[od]
 have hR:∀(i:Nat) (hi:i<t.Args.length),R (⟨kN (gf t.Op t.Names (bo t c) i).2.1,kB (gf t.Op t.Names (bo t c) i).2.1⟩,t.Args[i])=some (ww t.Args[i] (gf t.Op t.Names (bo t c) i).2.1):=fun i hi=>by
  have:=ih (⟨kN (gf t.Op t.Names (bo t c) i).2.1,kB (gf t.Op t.Names (bo t c) i).2.1⟩,t.Args[i]) (lK (vau hi)) ⟨_,rfl,MY h i hi⟩
  rw[this]
  show some (ww t.Args[i] ((kN (gf t.Op t.Names (bo t c) i).2.1).zip (kB (gf t.Op t.Names (bo t c) i).2.1)))=_
  rw[od]
 have l1:=nM t
 have l2:=li t
 have l3:=nc t
 have hsz:nL (kB c)+eb t<=20000000:=h.sz
 have hw:wT t<=20000000:=h.w
 have hnd:=h.nd
 have hp:=RI (t:=t)
 have hcl:=F2 c
 unfold dF
 by_cases ho:t.Op=6
 ·rw [vad (by simpa using ho)]
  unfold ea
  rw[Id _ (by omega),C3 c _ (by unfold bj;omega) (by unfold bj;omega),Gw c _ (by omega) (fun q hq=>by have:=GP hq;unfold bj;omega) (by unfold bj;omega),IA _ _ (by omega),N4 t (by omega) (by omega)]
  simp only[vaa]
  have f1:=xz (kB c)
  have f2:=la t
  rw[cX (by omega)]
  simp only[vaa]
  rw[cX (by rw[vas];omega)]
  simp only[vaa]
  unfold dE
  have hloop:=AY t.Args.length (by omega) (fun i (s:List ag×List ag×List ae×List ag×List aa)=>(s.1,i,s.2.1,s.2.2.1,s.2.2.2.1,s.2.2.2.2)) (fun(zz:(List ag)×Int×List ag×(List ae)×(List ag)×(List aa))=>aX (fun s t=>R (s,t)) t t.Args (t.Args.length:Int) t.Names.length zz.1 zz.2.1 zz.2.2.1 zz.2.2.2.1 zz.2.2.2.2.1 zz.2.2.2.2.2)
   (fun i=>((gf t.Op t.Names (bo t c) i).1,(gf t.Op t.Names (bo t c) i).2.2,LN t c i,kN (gf t.Op t.Names (bo t c) i).2.1,kB (gf t.Op t.Names (bo t c) i).2.1))
   ((gf t.Op t.Names (bo t c) t.Args.length).2.2,LN t c t.Args.length,kN (gf t.Op t.Names (bo t c) t.Args.length).2.1,kB (gf t.Op t.Names (bo t c) t.Args.length).2.1) (fun i hi=>?_) ?_
  ·have hloop':loop (fun(zz:(List ag)×Int×List ag×(List ae)×(List ag)×(List aa))=>aX (fun s t=>R (s,t)) t t.Args (t.Args.length:Int) t.Names.length zz.1 zz.2.1 zz.2.2.1 zz.2.2.2.1 zz.2.2.2.2.1 zz.2.2.2.2.2) (((kB c).flatMap cH++freeT t)++t.Names,0,t.Names,[],kN c,kB c)=_:=hloop
   rw[hloop']
   simp only[vaa]
   rw[Pa _ _ (by rw[KB];rfl)]
   simp only[vaa]
   rw[LO,Mz]
  ·show aX (fun s t=>R (s,t)) t t.Args (t.Args.length:Int) t.Names.length (gf t.Op t.Names (bo t c) i).1 (i:Int) (gf t.Op t.Names (bo t c) i).2.2 (LN t c i) (kN (gf t.Op t.Names (bo t c) i).2.1) (kB (gf t.Op t.Names (bo t c) i).2.1)=_
   unfold aX
   rw[vad (by simp;omega),bD _ i hi]
   simp only[vaa]
   rw[hR i hi]
   simp only[vaa]
   have hal:=MA t c i (by omega)
   rw[cX (by simp;omega)]
   simp only[vaa]
   rw[Kz t c i hi]
   have hq:gf t.Op t.Names (bo t c) (i+1)=wv t.Op t.Names i (gf t.Op t.Names (bo t c) i):=rfl
   have hQn:=MB t.Op t.Names (bo t c) i
   have hQu:=OZ t.Op t.Names (bo t c) i
   have hQw:=KB t.Op t.Names (bo t c) i
   have hQd:=xw t.Op t.Names (bo t c) hnd i
   have hu0:=Nf t c
   have hn0:nL (kB (bo t c).2.1)=nL (kB c):=rfl
   have hw0:(bo t c).2.2=t.Names:=rfl
   rw[hw0]at hQw
   generalize gf t.Op t.Names (bo t c) i=S at hq hQn hQu hQw hQd ⊢
   obtain⟨u,cc,w⟩:=S
   simp only at hQn hQu hQw hQd ⊢
   have hccl:=F2 cc
   by_cases hi2:i<t.Names.length
   ·rw[vag (by simp;omega),bD _ i hi2]
    simp only[vaa]
    rw[PU _ cc hQd (by omega)]
    simp only[vaa]
    have hd:=ES t.Names[i] cc
    rw[IA _ _ (by omega)]
    simp only[vaa]
    have f3:=xz (kB (bY t.Names[i] cc))
    rw[ri _ _ (by omega),zx]
    simp only[vaa]
    have hnl:t.Names[i].length<=1000000000000000:=((Fs _ t).1 h.n).1 _ (vau hi2)
    unfold wv at hq
    rw[vad ⟨ho,hi2⟩,Jw _ i hi2]at hq
    by_cases hcm:mS t.Names[i] (bY t.Names[i] cc)=true
    ·rw[vad hcm]at hq ⊢
     rw[(Ka u t.Names[i] (by omega) (by omega)).1]
     simp only[vaa]
     rw[Jx _ w i (by omega) (by omega)]
     simp only[vaa]
     rw[Qb w i _ (by omega)]
     simp only[vaa]
     rw[Jx _ (w.set i (gK u t.Names[i])) i (by omega) (by rw[vbu];omega),vb2]
     simp only[vaa]
     rw[cX (by simp;omega)]
     simp only[vaa]
     have hpw:=Lb t.Names[i] (⟨3,gK u t.Names[i],0,[]⟩:aa) cc hQd (by omega)
     rw[hpw]
     simp only[vaa]
     rw[hq]
     rfl
    ·rw[vag hcm]at hq ⊢
     rw[hq]
   ·rw[vad (by simp;omega),hq]
    unfold wv
    rw[vag (fun h=>hi2 h.2)]
  ·show aX (fun s t=>R (s,t)) t t.Args (t.Args.length:Int) t.Names.length (gf t.Op t.Names (bo t c) t.Args.length).1 (t.Args.length:Int) (gf t.Op t.Names (bo t c) t.Args.length).2.2 (LN t c t.Args.length) (kN (gf t.Op t.Names (bo t c) t.Args.length).2.1) (kB (gf t.Op t.Names (bo t c) t.Args.length).2.1)=_
   unfold aX
   rw[vag (by simp)]
 ·rw[vag (by simpa using ho),Id _ (by omega),C3 c _ (by unfold bj;omega) (by unfold bj;omega),Gw c _ (by omega) (fun q hq=>by have:=GP hq;unfold bj;omega) (by unfold bj;omega)]
  simp only[vaa]
  have hQ:=OY ho t.Names (bo t c)
  unfold ng jR
  rw[lb t.Args (by omega) (fun i s=>(s,i)) _ (fun y=>R (⟨kN c,kB c⟩,y)) (fun y=>ww y c) id (fun i s=>rfl) (fun y hy=>by
   obtain⟨i,hi,rfl⟩:=vcO hy
   have:=hR i hi
   rw[hQ i]at this
   exact this)]
  simp only[vaa,id]
  rw[LO]
  simp only[hQ]
  congr 2
  exact(y2 (fun y=>ww y c) t.Args 0).symm
theorem Mk(x:ag)(c:Sb)(i:Nat)(h:i<c.length):bY x (c.take (i+1))=if c[i].1=x then bY x (c.take i)else bY x (c.take i)++[c[i]]:=by
 unfold bY
 rw[va5 h,List.filter_append,va1]
 by_cases hx:c[i].1=x
 ·rw[vad hx,vag (by simp[hx]),List.filter_nil,vbw]
 ·rw[vag hx,vad (by simpa using hx),List.filter_nil]
theorem Oc(x:ag)(c:Sb)(hc:c.length<=1000000000):Ax ⟨kN c,kB c⟩ x=some ⟨kN (bY x c),kB (bY x c)⟩:=by
 unfold Ax wm
 have hl:(kN c).length=c.length:=vaB ..
 have hlb:(kB c).length=c.length:=vaB ..
 have:=AY c.length (by omega) (fun i (s:List ag×List aa)=>(i,s.1,s.2)) (fun(zz:Int×(List ag)×(List aa))=>fO x ⟨kN c,kB c⟩ (kN c) ((kN c).length:Int) zz.1 zz.2.1 zz.2.2)
  (fun i=>(kN (bY x (c.take i)),kB (bY x (c.take i)))) (kN (bY x c),kB (bY x c)) (fun i hi=>?_) ?_
 ·rw[show(bY x (c.take 0))=[]from rfl]at this
  rw[show(((0:Int),([]:List ag),([]:List aa)):Int×(List ag)×(List aa))=(0,kN [],kB [])from rfl,this]
  rfl
 ·show fO x ⟨kN c,kB c⟩ (kN c) ((kN c).length:Int) (i:Int) (kN (bY x (c.take i))) (kB (bY x (c.take i)))=_
  unfold fO wl
  have hw:(bY x (c.take i)).length<=(c.take i).length:=vaW ..
  rw[vaP]at hw
  have hkl:(kN (bY x (c.take i))).length=(bY x (c.take i)).length:=vaB ..
  have hkb:(kB (bY x (c.take i))).length=(bY x (c.take i)).length:=vaB ..
  rw[vad (by simp;omega),bD (kN c) i (by omega)]
  simp only[vaa]
  rw[vad (vaX (show(i:Int)<((kB c).length:Int) by omega))]
  simp only[vaa]
  have hg:(kN c)[i]'(by omega)=c[i].1:=by simp[kN]
  have hb:(kB c)[i]'(by omega)=c[i].2:=by simp[kB]
  rw[hg,Mk x c i hi]
  by_cases h1:c[i].1=x
  ·have h1':(c[i].1==x)=true:=by simpa using h1
   rw[vad h1,vag (by rw[h1'];decide)]
  ·have h1':(c[i].1==x)=false:=by simpa using h1
   simp only[h1',h1,vbG,if_true,if_false]
   rw[cX (by simp;omega)]
   simp only[vaa]
   rw[bD (kB c) i (by omega)]
   simp only[vaa,hb]
   rw[cX (by simp;omega)]
   simp[kN,kB]
 ·show fO x ⟨kN c,kB c⟩ (kN c) ((kN c).length:Int) (c.length:Int) (kN (bY x (c.take c.length))) (kB (bY x (c.take c.length)))=_
  unfold fO
  rw[vag (by simp),vaQ (var _)]
theorem Ob(x:ag)(c:Sb)(h:nL (kB c)<=200000000):xo ⟨kN c,kB c⟩ x=some (mS x c):=by
 unfold xo uf
 have hl:=wB (kB c)
 rw[NP (kB c) (by omega) (fun zz=>pZ x (kB c) ((kB c).length:Int) zz) (fun i y=>(nH y).bind fun r3=>(fx r3 x).bind fun r4=>if(decide (r4>=0))=true then some (.inr (.inl ()))else some (.inl (bC (i+1)))) (fun y=>decide (x∈EW y)) (.inl ()) (.inr ()) (fun i=>rfl) (fun y hy i=>by
  have h1:=CJ hy
  have h2:=iI y
  rw[GV y (by omega)]
  simp only[vaa]
  obtain⟨r,e1,_,e2⟩:=Lk (l:=cH y) (v:=x) (by omega)
  rw[e1]
  simp only[vaa,e2,th]
  by_cases hx:x∈EW y<;>simp[hx])]
 simp only[vaa]
 have he:(kB c).any (fun y=>decide (x∈EW y))=mS x c:=by
  unfold mS kB
  rw[List.any_map]
  rfl
 rw[he]
 cases mS x c<;>rfl
theorem Oe(l:List aa)(h:nL l<=200000000):∃k,xp l=some k/\k.length<=nL l/\∀x,x∈k↔x∈l.flatMap cH:=by
 unfold xp ug
 have hl:=wB l
 rw[jl l (by omega) (fun i s=>(s,i)) _ (fun i s y=>(nH y).bind fun r3=>(ec s r3).bind fun r4=>some (.inl (r4,bC (i+1)))) (fun i s=>s.length<=nL (l.take i)) (fun y s=>gM s (cH y)) id [] (by simp[nL]) (fun i s=>rfl) (fun i hi s hs=>?_)]
 ·obtain⟨f1,f2⟩:=rn cH l [] Jz
  refine⟨_,rfl,?_,fun x=>?_⟩
  ·have key:∀(l:List aa) (a:List ag),(l.foldl (fun s y=>gM s (cH y)) a).length<=a.length+nL l:=by
    intro l
    induction l with
    |nil=>intro a;simp
    |cons y l ih=>
     intro a
     have g2:=iI y
     have g3:=ih (gM a (cH y))
     have g4:=jx a (cH y)
     rw[List.foldl_cons,nL]
     omega
   have:=key l []
   simpa using this
  ·show x∈l.foldl (fun s y=>gM s (cH y)) []↔_
   rw[f2,vbA]
   simp
 ·have h1:=uD l i hi
  have h2:=kK l (i+1)
  have h3:=iI l[i]
  have h4:=jx s (cH l[i])
  refine⟨?_,by omega⟩
  rw[GV _ (by omega)]
  simp only[vaa]
  rw[gE _ _ (by omega) (by omega)]
  rfl
theorem Ot(u w:List ag)(i:Nat)(hi:i<w.length)(hu:u.length<=400000000):qT u (i:Int) 1 w=some (gM u [w[i]]):=by
 have h:=gE u [w[i]] hu (by simp)
 unfold ec at h
 unfold qT
 have e1:pM u (u.length:Int) [] 0=ls u (u.length:Int) [] 0:=rfl
 rw[e1]
 cases h1:ls u (u.length:Int) [] 0 with
 |none=>rw[h1]at h;cases h
 | some o =>
  rw[h1]at h
  simp only[vaa]at h ⊢
  have hb:∀s (k:Nat),eQ (i:Int) 1 (((1:Nat):Int)) w s (k:Int)=cu [w[i]] (([w[i]]:List ag).length:Int) s (k:Int):=by
   intro s k
   unfold eQ cu
   by_cases hk:k=0
   ·subst hk
    rw[vad (by simp),vad (by simp)]
    have hm:Ss (i:Int) 1 w ((0:Nat):Int)=some w[i]:=by
     unfold Ss
     rw[vad ⟨by omega,by omega,by simp⟩]
     simp[hi]
    rw[hm,show dz [w[i]] ((0:Nat):Int)=some w[i]from rfl]
   ·rw[vag (by simp;omega),vag (by simp;omega)]
  have e2:lr (i:Int) 1 (((1:Nat):Int)) w o 0=lu [w[i]] (([w[i]]:List ag).length:Int) o 0:=by
   unfold lr lu
   have h0:=hb o 0
   rw[show((0:Nat):Int)=0 from rfl]at h0
   have e3:=lT (fun(zz:(List ag)×Int)=>eQ (i:Int) 1 (((1:Nat):Int)) w zz.1 zz.2) (o,0)
   have e4:=lT (fun(zz:(List ag)×Int)=>cu [w[i]] (([w[i]]:List ag).length:Int) zz.1 zz.2) (o,0)
   rw[e3,e4,h0]
   cases hr:cu [w[i]] (([w[i]]:List ag).length:Int) o 0 with
   |none=>rfl
   | some r =>
    cases r with
    |inr y=>rfl
    | inl s =>
     simp only
     have hs:s.2=((1:Nat):Int):=by
      unfold cu at hr
      rw[vad (by simp),show dz [w[i]] 0=some w[i]from rfl]at hr
      simp only[vaa]at hr
      cases hp:qU o w[i]with
      |none=>rw[hp]at hr;cases hr
      |some q=>rw[hp]at hr;cases hr;rfl
     obtain⟨s1,s2⟩:=s
     simp only at hs
     subst hs
     have h1:=hb s1 1
     have e5:=lT (fun(zz:(List ag)×Int)=>eQ (i:Int) 1 (((1:Nat):Int)) w zz.1 zz.2) (s1,((1:Nat):Int))
     have e6:=lT (fun(zz:(List ag)×Int)=>cu [w[i]] (([w[i]]:List ag).length:Int) zz.1 zz.2) (s1,((1:Nat):Int))
     rw[e5,e6,h1]
     have hz:cu [w[i]] (([w[i]]:List ag).length:Int) s1 ((1:Nat):Int)=some (.inr s1):=by
      unfold cu
      rw[vag (by simp)]
     rw[hz]
  rw[e2]
  exact h
def LP(o:Int)(ns:List ag)(s:S3)(u:List ag):Nat->List ag
 |0=>u
 |i+1=>if(o=6/\i<ns.length)/\mS (ns.getD i []) (bY (ns.getD i []) (gf o ns s i).2.1)=true then gM (LP o ns s u i) [gK (gf o ns s i).1 (ns.getD i [])]else LP o ns s u i
theorem MD(o:Int)(ns:List ag)(s:S3)(u:List ag)(h:∀x,x∈u↔x∈s.1):∀i x,x∈LP o ns s u i↔x∈(gf o ns s i).1
 |0,x=>h x
 | i + 1,x => by
  have ih:=MD o ns s u h i
  show x∈LP o ns s u (i+1)↔x∈(wv o ns i (gf o ns s i)).1
  rw[LP]
  unfold wv
  by_cases h1:o=6/\i<ns.length
  ·by_cases h2:mS (ns.getD i []) (bY (ns.getD i []) (gf o ns s i).2.1)=true
   ·rw[vad ⟨h1,h2⟩,vad h1,vad h2,kp,ih]
    simp
   ·rw[vag (fun h=>h2 h.2),vad h1,vag h2,ih]
  ·rw[vag (fun h=>h1 h.1),vag h1,ih]
theorem MC(o:Int)(ns:List ag)(s:S3)(u:List ag):∀i,(LP o ns s u i).length<=u.length+i
 |0=>by simp[LP]
 | i + 1 => by
  have ih:=MC o ns s u i
  rw[LP]
  split
  ·have:=jx (LP o ns s u i) [gK (gf o ns s i).1 (ns.getD i [])]
   simp only[List.length_singleton]at this
   omega
  ·omega
theorem Ld(c:Sb)(l:List aa)(hl:l.length<=1073741824)(hp:∀p∈l,nP p<=bj)(hc:c.length<=bj):lE l (l.length:Int) (kN c) (kB c) 0 []=some (l.map (Cg (g9 (kN c) (kB c)))):=by
 unfold lE
 have h1:(kN c).length=c.length:=vaB ..
 rw[lb l hl (fun i s=>(i,s)) _ (fun y=>jB y (kN c) (kB c)) (Cg (g9 (kN c) (kB c))) id (fun i s=>rfl) (fun y hy=>JU y _ _ (hp y hy) (by unfold bj at hc;omega))]
 rfl
theorem Lf(t:ae)(c:Sb)(h:PA t c):wk t ⟨kN c,kB c⟩=some (ww t c):=by
 have hbig:eb t<Qj:=jm (by have:=h.sz;unfold bj;omega)
 refine(iQ (F:=sq) (fun x=>eb x.1) (fun x=>∃c,x.2=⟨kN c,kB c⟩/\PA x.1 c) (fun x=>ww x.1 (x.2.Names.zip x.2.By)) (fun R x hx ih=>?_) (t,⟨kN c,kB c⟩) ⟨c,rfl,h⟩ hbig).trans (by
  show some (ww t ((kN c).zip (kB c)))=_
  rw[od])
 obtain⟨t,s⟩:=x
 obtain⟨c,hs,h⟩:=hx
 have hs:s=⟨kN c,kB c⟩:=hs
 have h:PA t c:=h
 subst hs
 show nq (fun t c=>R (t,c)) t ⟨kN c,kB c⟩=some (ww t ((kN c).zip (kB c)))
 rw[od]
 have hR:∀(i:Nat) (hi:i<t.Args.length),R (t.Args[i],⟨kN (gf t.Op t.Names (bo t c) i).2.1,kB (gf t.Op t.Names (bo t c) i).2.1⟩)=some (ww t.Args[i] (gf t.Op t.Names (bo t c) i).2.1):=fun i hi=>by
  have:=ih (t.Args[i],⟨kN (gf t.Op t.Names (bo t c) i).2.1,kB (gf t.Op t.Names (bo t c) i).2.1⟩) (lK (vau hi)) ⟨_,rfl,MY h i hi⟩
  rw[this]
  show some (ww t.Args[i] ((kN (gf t.Op t.Names (bo t c) i).2.1).zip (kB (gf t.Op t.Names (bo t c) i).2.1)))=_
  rw[od]
 have l1:=nM t
 have l2:=li t
 have l3:=nc t
 have hsz:nL (kB c)+eb t<=20000000:=h.sz
 have hw:wT t<=20000000:=h.w
 have hnd:=h.nd
 have hp:=RI (t:=t)
 have hcl:=F2 c
 have hknl:(kN c).length=c.length:=vaB ..
 unfold nq
 rw[JU _ _ _ (by unfold bj;omega) (show(kN c).length<9223372036854775808 by omega)]
 simp only[vaa]
 rw[Ld c _ (by omega) (fun q hq=>by have:=GP hq;unfold bj;omega) (by unfold bj;omega)]
 simp only[vaa]
 rw[cX (by simp;omega)]
 simp only[vaa,va3]
 obtain⟨kn,hk1,hk2,hk3⟩:=Oe (kB c) (by omega)
 rw[hk1,Od t (by omega) (by omega)]
 simp only[vaa]
 have f2:=la t
 have f3:=jx kn (freeT t)
 rw[gE _ _ (by omega) (by omega)]
 simp only[vaa]
 rw[gE _ _ (by omega) (by omega)]
 simp only[vaa]
 have hu0:∀x,x∈gM (gM kn (freeT t)) t.Names↔x∈(bo t c).1:=fun x=>by
  unfold bo
  rw[kp,kp,hk3,vaA,vaA]
 have hul0:=jx (gM kn (freeT t)) t.Names
 generalize gM (gM kn (freeT t)) t.Names=u0 at hu0 hul0
 unfold pY
 have hloop:=AY t.Args.length (by omega) (fun i (s:List ag×List ag×List aa×List ae×List ag)=>(s.1,i,s.2.1,s.2.2.1,s.2.2.2.1,s.2.2.2.2)) (fun(zz:(List ag)×Int×(List ag)×(List aa)×(List ae)×List ag)=>dn (fun t c=>R (t,c)) t t.Args (t.Args.length:Int) t.Names.length zz.1 zz.2.1 zz.2.2.1 zz.2.2.2.1 zz.2.2.2.2.1 zz.2.2.2.2.2)
  (fun i=>(LP t.Op t.Names (bo t c) u0 i,kN (gf t.Op t.Names (bo t c) i).2.1,kB (gf t.Op t.Names (bo t c) i).2.1,LN t c i,(gf t.Op t.Names (bo t c) i).2.2))
  (kN (gf t.Op t.Names (bo t c) t.Args.length).2.1,kB (gf t.Op t.Names (bo t c) t.Args.length).2.1,LN t c t.Args.length,(gf t.Op t.Names (bo t c) t.Args.length).2.2) (fun i hi=>?_) ?_
 ·have hloop':loop (fun(zz:(List ag)×Int×(List ag)×(List aa)×(List ae)×List ag)=>dn (fun t c=>R (t,c)) t t.Args (t.Args.length:Int) t.Names.length zz.1 zz.2.1 zz.2.2.1 zz.2.2.2.1 zz.2.2.2.2.1 zz.2.2.2.2.2) (u0,0,kN c,kB c,[],t.Names)=_:=hloop
  rw[hloop']
  simp only[vaa]
  rw[Pa _ _ (by rw[KB];rfl)]
  simp only[vaa]
  rw[LO,Mz]
 ·show dn (fun t c=>R (t,c)) t t.Args (t.Args.length:Int) t.Names.length (LP t.Op t.Names (bo t c) u0 i) (i:Int) (kN (gf t.Op t.Names (bo t c) i).2.1) (kB (gf t.Op t.Names (bo t c) i).2.1) (LN t c i) (gf t.Op t.Names (bo t c) i).2.2=_
  unfold dn
  rw[vad (by simp;omega),bD _ i hi]
  simp only[vaa]
  rw[hR i hi]
  simp only[vaa]
  have hal:=MA t c i (by omega)
  rw[cX (by simp;omega)]
  simp only[vaa]
  rw[Kz t c i hi]
  have hq:gf t.Op t.Names (bo t c) (i+1)=wv t.Op t.Names i (gf t.Op t.Names (bo t c) i):=rfl
  have hU:LP t.Op t.Names (bo t c) u0 (i+1)=_:=LP.eq_2 t.Op t.Names (bo t c) u0 i
  have hUm:=MD t.Op t.Names (bo t c) u0 hu0 i
  have hUl:=MC t.Op t.Names (bo t c) u0 i
  have hQn:=MB t.Op t.Names (bo t c) i
  have hQu:=OZ t.Op t.Names (bo t c) i
  have hQw:=KB t.Op t.Names (bo t c) i
  have hQd:=xw t.Op t.Names (bo t c) hnd i
  have hst:=Nf t c
  have hn0:nL (kB (bo t c).2.1)=nL (kB c):=rfl
  have hw0:(bo t c).2.2=t.Names:=rfl
  rw[hw0]at hQw
  generalize LP t.Op t.Names (bo t c) u0 i=U at hU hUm hUl ⊢
  generalize gf t.Op t.Names (bo t c) i=S at hq hU hUm hQn hQu hQw hQd ⊢
  obtain⟨u,cc,w⟩:=S
  simp only at hQn hQu hQw hQd hUm hU ⊢
  have hccl:=F2 cc
  unfold pX
  by_cases ho:t.Op=6
  ·rw [vag (by simpa using ho)]
   simp only[vaa]
   by_cases hi2:i<t.Names.length
   ·rw[vag (by simp;omega),bD _ i hi2]
    simp only[vaa]
    rw[Oc _ cc (by omega)]
    simp only[vaa]
    have hd:=ES t.Names[i] cc
    rw[Ob _ _ (by omega)]
    simp only[vaa]
    have hnl:t.Names[i].length<=1000000000000000:=((Fs _ t).1 h.n).1 _ (vau hi2)
    unfold wv at hq
    rw[vad ⟨ho,hi2⟩,Jw _ i hi2]at hq
    rw[Jw _ i hi2]at hU
    by_cases hcm:mS t.Names[i] (bY t.Names[i] cc)=true
    ·rw[vad hcm]at hq ⊢
     rw[vad ⟨⟨ho,hi2⟩,hcm⟩]at hU
     rw[(Ka U t.Names[i] (by omega) (by omega)).2.1,AR hUm]
     simp only[vaa]
     rw[Jx _ w i (by omega) (by omega)]
     simp only[vaa]
     rw[Qb w i _ (by omega)]
     simp only[vaa]
     rw[show P7 t.Names.length (i:Int) (bC ((i:Int)+1))=some 1 by
      rw[gA (by omega) (by omega)]
      unfold P7
      rw[vad ⟨by omega,by omega,by omega⟩]
      congr 1;omega]
     simp only[vaa]
     rw[Ot U (w.set i (gK u t.Names[i])) i (by rw[vbu];omega) (by omega),vb2]
     simp only[vaa]
     have k1:(kN (bY t.Names[i] cc)).length=(bY t.Names[i] cc).length:=vaB ..
     have k2:(kB (bY t.Names[i] cc)).length=(bY t.Names[i] cc).length:=vaB ..
     have k3:(bY t.Names[i] cc).length<=cc.length:=vaW ..
     rw[cX (by simp;omega)]
     simp only[vaa]
     rw[Jx _ (w.set i (gK u t.Names[i])) i (by omega) (by rw[vbu];omega),vb2]
     simp only[vaa]
     rw[cX (by simp;omega)]
     simp only[vaa]
     rw[hq,hU]
     simp[kN,kB,Ou]
    ·rw[vag hcm]at hq ⊢
     rw[vag (fun h=>hcm h.2)]at hU
     rw[hq,hU]
   ·rw[vad (by simp;omega),hq,hU,vag (fun h=>hi2 h.1.2)]
    unfold wv
    rw[vag (fun h=>hi2 h.2)]
  ·rw[vad (by simpa using ho)]
   simp only[vaa,if_true]
   rw[hq,hU,vag (fun h=>ho h.1.1)]
   unfold wv
   rw[vag (fun h=>ho h.1)]
 ·show dn (fun t c=>R (t,c)) t t.Args (t.Args.length:Int) t.Names.length (LP t.Op t.Names (bo t c) u0 t.Args.length) (t.Args.length:Int) (kN (gf t.Op t.Names (bo t c) t.Args.length).2.1) (kB (gf t.Op t.Names (bo t c) t.Args.length).2.1) (LN t c t.Args.length) (gf t.Op t.Names (bo t c) t.Args.length).2.2=_
  unfold dn
  rw[vag (by simp)]
theorem TI(o:Int)(ns:List ag)(i:Nat)(s:S3):(wv o ns i s).2.2.length=s.2.2.length:=by
 unfold wv
 split
 ·split
  ·simp only[vbu]
  ·rfl
 ·rfl
mutual
theorem MS:∀(t:ae) (c:Sb),eb (ww t c)=eb t
 |⟨o,n,xs,ns,p,ps⟩,c=>by
  obtain⟨h1,h2⟩:=MR o ns xs 0 (((kB c).flatMap cH++freeT ⟨o,n,xs,ns,p,ps⟩)++ns,c,ns)
  rw[ww,eb,eb,h1,h2,vaB]
theorem MR(o:Int)(ns:List ag):∀(xs:List ae) (i:Nat) (s:S3),ke (FD o ns i xs s).1=ke xs/\(FD o ns i xs s).2.length=s.2.2.length
 |[],i,s=>by rw[FD];exact⟨rfl,rfl⟩
 | a :: xs,i,s => by
  have h1:=MS a s.2.1
  obtain⟨h2,h3⟩:=MR o ns xs (i+1) (wv o ns i s)
  rw[FD]
  refine⟨?_,?_⟩
  ·show ke (ww a s.2.1::(FD o ns (i+1) xs (wv o ns i s)).1)=_
   rw[ke,ke,h1,h2]
  ·show(FD o ns (i+1) xs (wv o ns i s)).2.length=_
   rw[h3,TI]
end
end Go.Proofs.YtggeppllafbidaaGreatDoor
