/- PROVED: a part of the proof. Conditions: none. -/
import Derived.Test.YtbaamopmfmpfaaaGreatDoorPkD18
import Derived.Test.YtbaamopmfmpfaaaGreatDoorPkD16
noncomputable section
namespace Go.Proofs.YtbaamopmfmpfaaaGreatDoor
open Go
set_option linter.unusedVariables false
set_option linter.unusedSimpArgs false
abbrev Ab:Type:=List dc×List aa
def Fo(n s:ag)(p:aa)(v:Ab):Ab:=(if n≠[]then v.1++[⟨n,s⟩]else v.1,v.2++pk p)
mutual
def wc:ak->Ab->List ay
 |⟨o,n,s,p,t,ks⟩,v=>if o=3 then(pk p).map (fun q=>⟨v.1,v.2,q,t⟩)else if o=2 then lP ks (Fo n s p v)else lP ks v
def lP:List ak->Ab->List ay
 |[],_=>[]
 |c::cs,v=>wc c v++lP cs v
end
theorem XG(c:ak)(v:Ab):wc c v=if c.Op=3 then(pk c.Pred).map (fun q=>⟨v.1,v.2,q,c.Tag⟩)else if c.Op=2 then lP c.Kids (Fo c.Name c.Sort_ c.Pred v)else lP c.Kids v:=by
 obtain⟨o,n,s,p,t,ks⟩:=c;rw[wc];rfl
theorem KZ(p:aa):(pk p).length<=nP p:=vaH (pQ _) (wX p)
mutual
theorem J1:∀(c:ak) (v:Ab),(wc c v).length<=nC c
 | ⟨o,n,s,p,t,ks⟩,v => by
  have h1:=KZ p
  rw[wc,nC]
  split
  ·rw[vaL];omega
  ·split
   ·have:=Ge ks (Fo n s p v);omega
   ·have:=Ge ks v;omega
theorem Ge:∀(l:List ak) (v:Ab),(lP l v).length<=rE l
 |[],v=>by rw[lP,rE];exact vah _
 |c::l,v=>by
  have:=J1 c v
  have:=Ge l v
  rw[lP,rE,vae];omega
end
theorem SO(v:Ab):∀(l:List ak) (s:List ay),l.foldl (fun s x=>s++wc x v) s=s++lP l v
 |[],s=>by rw[lP];simp
 |c::l,s=>by rw[List.foldl_cons,SO v l,lP,va8]
theorem To(n s:ag)(p:aa)(v:Ab):(Fo n s p v).1.length<=v.1.length+1/\nL (Fo n s p v).2<=nL v.2+nP p:=by
 unfold Fo
 constructor
 ·simp only
  split
  ·simp
  ·omega
 ·simp only
  rw[pP]
  have:=wX p
  omega
theorem WC(hy:List aa)(h:nL hy<=bk):gq hy (hy.length:Int) 0 []=some hy:=by
 have hl:=pQ hy
 unfold bk at h
 unfold gq
 rw[sW hy (by omega) (fun i s=>(i,s)) _ (fun x=>io x [] []) id id (fun i s=>rfl) (fun x hx=>by
  have:=AL hx
  rw[IK x [] [] (by unfold bk;omega) (by simp) (by simp),OZ];rfl),List.map_id]
 rfl
theorem WD(c:ak)(ab:ay)(l:List ay)(h1:nC c+nL ab.Hyps<=bk)(h2:nC c+ab.Vars.length<=bk)(h3:nC c+l.length<=bk):rD c ab l=some (l++wc c (ab.Vars,ab.Hyps)):=by
 refine jl (F:=oM) (fun x=>nC x.1) (fun x=>nC x.1+nL x.2.1.Hyps<=bk/\nC x.1+x.2.1.Vars.length<=bk/\nC x.1+x.2.2.length<=bk) (fun x=>x.2.2++wc x.1 (x.2.1.Vars,x.2.1.Hyps)) (fun R x hx ih=>?_) (c,ab,l) ⟨h1,h2,h3⟩ (fq (by show nC c<=bk;omega))
 obtain⟨c,ab,l⟩:=x
 obtain⟨h1,h2,h3⟩:=hx
 have h1:nC c+nL ab.Hyps<=bk:=h1
 have h2:nC c+ab.Vars.length<=bk:=h2
 have h3:nC c+l.length<=bk:=h3
 have hb:bk=1073741824:=rfl
 have hc:=MS c
 have hk:=EN c.Kids
 have hy:=pQ ab.Hyps
 have hs:=KZ c.Pred
 have hs2:=wX c.Pred
 show ki (fun c above a=>R (c,above,a)) c ab l=some (l++wc c (ab.Vars,ab.Hyps))
 unfold ki ny
 rw[XG]
 by_cases o3:c.Op=3
 ·rw[vaj (by simpa using o3),vaj o3,QR _ (by omega)]
  simp only[vaa]
  unfold nz
  rw[kX (pk c.Pred) (by omega) (fun i s=>(s,i)) _ (fun i s x=>(kK ab.Vars).bind fun r6=>(gq ab.Hyps (ab.Hyps.length:Int) 0 ([]:List aa)).bind fun o11=>(app s ([(⟨r6,o11,x,c.Tag⟩:ay)]:List ay)).bind fun l12=>some (.inl (l12,aO (i+1)))) (fun i s=>s.length=l.length+i) (fun x s=>s++[⟨ab.Vars,ab.Hyps,x,c.Tag⟩]) id l rfl (fun i s=>rfl) (fun i hi s hs'=>?_)]
  ·simp only[vaa,id]
   have key:∀(r:List aa) (s:List ay),r.foldl (fun s x=>s++[(⟨ab.Vars,ab.Hyps,x,c.Tag⟩:ay)]) s=s++r.map (fun q=>⟨ab.Vars,ab.Hyps,q,c.Tag⟩):=by
    intro r
    induction r with
    |nil=>intro s;simp
    |cons x r ih=>intro s;rw[List.foldl_cons,ih];simp
   rw[key]
  ·refine⟨?_,by simp[hs'];omega⟩
   rw[nQ _ (by omega),WC _ (by omega)]
   simp only[vaa]
   rw[dG (by simp;omega)]
   rfl
 rw[van (by simpa using o3),van o3]
 have fin:∀v:Ab,nL v.2<=nL ab.Hyps+nP c.Pred->v.1.length<=ab.Vars.length+1->((jk (fun c above a=>R (c,above,a)) c.Kids (c.Kids.length:Int) v.1 v.2 ab.Head.Op ab.Head.Name ab.Head.N ab.Head.Kids ab.Tag l 0).bind fun o28=>some o28)=some (l++lP c.Kids v):=fun v v1 v2=>by
  unfold jk
  rw[kX c.Kids (by omega) (fun i s=>(s,i)) _ (fun i s x=>(R (x,(⟨v.1,v.2,⟨ab.Head.Op,ab.Head.Name,ab.Head.N,ab.Head.Kids⟩,ab.Tag⟩:ay),s)).bind fun r27=>some (.inl (r27,aO (i+1)))) (fun i s=>s.length<=l.length+rE (c.Kids.take i)) (fun x s=>s++wc x v) id l (by simp) (fun i s=>rfl) (fun i hi s hs'=>?_),SO]
  ·rfl
  ·have hm:=II (vat hi)
   have ht:rE (c.Kids.take (i+1))=rE (c.Kids.take i)+nC c.Kids[i]:=by rw[vaM hi,Dw];simp[rE]
   have ht2:=AK c.Kids (i+1)
   have hf:=J1 c.Kids[i] v
   refine⟨?_,by rw[vae];omega⟩
   rw[show R (c.Kids[i],(⟨v.1,v.2,⟨ab.Head.Op,ab.Head.Name,ab.Head.N,ab.Head.Kids⟩,ab.Tag⟩:ay),s)=some (s++wc c.Kids[i] v)from ih (c.Kids[i],⟨v.1,v.2,⟨ab.Head.Op,ab.Head.Name,ab.Head.N,ab.Head.Kids⟩,ab.Tag⟩,s) (by show nC c.Kids[i]<nC c;omega) ⟨by show nC c.Kids[i]+nL v.2<=bk;omega,by show nC c.Kids[i]+v.1.length<=bk;omega,by show nC c.Kids[i]+s.length<=bk;omega⟩]
   rfl
 by_cases o2:c.Op=2
 ·rw[vaj (by simpa using o2),vaj o2]
  have hu:=To c.Name c.Sort_ c.Pred (ab.Vars,ab.Hyps)
  have hj:jj c ab.Vars=some (Fo c.Name c.Sort_ c.Pred (ab.Vars,ab.Hyps)).1:=by
   unfold jj Fo
   by_cases hn:c.Name=[]
   ·rw[van (by simp[hn])];simp[hn]
   ·rw[vaj (by simpa using hn),nQ _ (by omega)]
    simp only[vaa]
    rw[dG (by simp;omega)]
    simp[hn]
  rw[hj]
  simp only[vaa]
  rw[nQ _ (by omega),QR _ (by omega)]
  simp only[vaa]
  rw[dG (by omega)]
  simp only[vaa]
  exact fin (Fo c.Name c.Sort_ c.Pred (ab.Vars,ab.Hyps)) hu.2 hu.1
 ·rw[van (by simpa using o2),van o2]
  simp only[vaa]
  exact fin (ab.Vars,ab.Hyps) (by simp) (by simp)
def refl(l:List ay):Prop:=∀c∈l,c.Head∈c.Hyps
theorem KO(x s:ag)(p:aa)(tag:Int)(v:Ab):refl (wc (LV x s p (EC p tag)) v):=by
 intro c hc
 rw[wc,van (by decide),vaj rfl,lP,lP,wc,vaj rfl,va4]at hc
 obtain⟨q,hq,rfl⟩:=vap.1 hc
 exact vba _ hq
theorem Th(tag:Int)(t:ae)(x:ag)(v:Ab):∀(l:List dc) (i:Nat),fS (RN tag t t x l i)=RN tag t t x l i/\refl (lP (RN tag t t x l i) v)
 |[],i=>by rw[RN,fS,lP];exact⟨rfl,fun c hc=>by cases hc⟩
 | d :: l,i => by
  obtain⟨h1,h2⟩:=Th tag t x v l (i+1)
  rw[RN]
  constructor
  ·rw[fS,h1,Cu,vaj (.inl rfl)];rfl
  ·rw[lP]
   intro c hc
   rcases vaD.1 hc with hc|hc
   ·exact KO _ _ _ _ _ c hc
   ·exact h2 c hc
theorem UL(m:aR)(tag:Int)(t:ae)(used:List ag)(v:Ab):refl (wc (Ek m tag t t used) v):=by
 unfold Ek
 simp only
 split
 ·obtain⟨h1,h2⟩:=Th tag t (fp used [118,49]) v (kS m t.Name).1.Preds 0
  rw[wc,van (by decide),van (by decide),fS,h1,Cu,vaj (.inl rfl),List.singleton_append,lP]
  intro c hc
  rcases vaD.1 hc with hc|hc
  ·exact KO _ _ _ _ _ c hc
  ·exact h2 c hc
 ·exact KO _ _ _ _ _
theorem X0(t:ae)(h:cq t<=bk):eK (F3 t) (fun r=>r=true->t.Op≠6):=by
 refine lq (F:=Ak) cq (fun t=>cq t<=bk) (fun t r=>r=true->t.Op≠6) (fun R t ht ih=>?_) t h (fq h)
 show eK (uU (fun t=>R t) t) _
 have h1:=gX t
 have hb:bk=1073741824:=rfl
 unfold uU xN
 refine aG (fun _=>aj (fun h=>by cases h)) fun h6=>au (nZ t.Args (by omega) _ (fun _=>True) (fun _=>True) (fun i=>rfl) (fun x hx i=>au (ih x (ig hx) (by have:=ig hx;omega)) fun _ _=>aG (fun _=>aj trivial) fun _=>aj ⟨rfl,trivial⟩)) fun o _=>?_
 have h6:t.Op≠6:=by simpa using h6
 cases o with
 |inl _=>exact aj (fun h=>by cases h)
 |inr _=>exact aj (fun _=>h6)
theorem UY(p:aa):eK (Bt p) (fun _=>True):=by
 unfold Bt
 exact aG (fun _=>aj trivial) fun _=>aG (fun _=>aj trivial) fun _=>aj trivial
theorem Ya(v:List ay)(i:Nat)(hi:i<v.length)(f:Bool)(hl:v[i].Hyps.length<9223372036854775808)(hn:nP v[i].Head<=bk):fC v (i:Int) f 0=some (f||decide (v[i].Head∈v[i].Hyps)):=by
 unfold fC
 rw[Ks v[i].Hyps hl (fun k s=>(s,k)) _ (fun _ _=>True) (fun _ h s=>s||decide (h=v[i].Head)) id f trivial (fun k hk s _=>⟨?_,trivial⟩) (fun s _=>?_)]
 ·have key:∀(r:List aa) (k:Nat) (s:Bool),px (fun _ h s=>s||decide (h=v[i].Head)) r k s=(s||decide (v[i].Head∈r)):=by
   intro r
   induction r with
   |nil=>intro k s;rw[px];simp
   | cons x r ih =>
    intro k s
    rw[px,ih]
    by_cases hx:x=v[i].Head
    ·simp[hx]
    ·have:¬v[i].Head=x:=fun h=>hx h.symm
     simp[hx,this]
  rw[key]
  rfl
 ·show cV v (i:Int) s (k:Int)=_
  unfold cV iP
  rw[bj v i hi]
  simp only[vaa]
  rw[vaj (by simp;omega),bj _ k hk]
  cases s with
  |true=>rfl
  |false=>
   simp only[va3,if_false,vaa]
   rw[QF _ _ hn]
   rfl
 ·show cV v (i:Int) s (v[i].Hyps.length:Int)=_
  unfold cV
  rw[bj v i hi]
  simp only[vaa]
  rw[van (by simp)]
  rfl
theorem X9(v:List ay)(hv:v.length<9223372036854775808)(h:refl v)(hs:∀c∈v,nL c.Hyps<=bk):fA v 0=some (Sum.inr ()):=by
 unfold fA
 refine Wd v hv _ (Sum.inr ():Unit⊕Unit) (fun i hi=>?_) ?_
 ·unfold eP
  have hm:=vat hi
  have h1:=h _ hm
  have h2:=hs _ hm
  have h3:=AL h1
  have h4:=pQ v[i].Hyps
  obtain⟨f,hf,_⟩:=UY v[i].Head
  rw[vaj (by simp;omega),bj v i hi]
  simp only[vaa]
  rw[hf]
  simp only[vaa]
  rw[Ya v i hi f (by unfold bk at h2;omega) (by omega),vbr h1,Bool.or_true]
  rfl
 ·unfold eP
  rw[van (by simp)]
mutual
theorem MF(B:Nat):∀(c:ak) (v:Ab),nC c+nL v.2<=B->∀cl∈wc c v,nL cl.Hyps<=B
 | ⟨o,n,s,p,t,ks⟩,v,h,cl,hcl => by
  rw[nC]at h
  rw[wc]at hcl
  split at hcl
  ·obtain⟨q,hq,rfl⟩:=vap.1 hcl
   show nL v.2<=B
   omega
  ·split at hcl
   ·have:=(To n s p v).2
    exact Dn B ks _ (by omega) cl hcl
   ·exact Dn B ks v (by omega) cl hcl
theorem Dn(B:Nat):∀(l:List ak) (v:Ab),rE l+nL v.2<=B->∀cl∈lP l v,nL cl.Hyps<=B
 |[],v,h,cl,hcl=>by rw[lP]at hcl;cases hcl
 | c :: l,v,h,cl,hcl => by
  rw[rE]at h
  rw[lP]at hcl
  rcases vaD.1 hcl with hcl|hcl
  ·exact MF B c v (by omega) cl hcl
  ·exact Dn B l v (by omega) cl hcl
end
theorem y7(m:aR)(t:ae)(used:List ag)(h:fU (aC m)+(fU (af t)+(pm (sl cS used)+0))<=1048576):kG m t used=some true:=by
 have hl:=V4 used
 have hu:pm (sl cS used)=bK (used.map cS)+1:=by simp only[pm,sl]
 have hm:ZN m 524288:=ZO (by omega)
 have g:=Zx (t:=t) (by omega)
 have hg:eK (fy used m t) (fun o=>o=true\/(cq t<=160/\wT t<=160/\t.Op≠6/\C9 t)):=by
  unfold fy
  refine au (Yi m (by unfold xg;omega)) fun _ _=>aG (fun _=>aj (.inl rfl)) fun _=>au (Yj t (by omega)) fun r1 h1=>aG (fun _=>aj (.inl rfl)) fun n1=>au (qbg used (by omega)) fun _ _=>aG (fun _=>aj (.inl rfl)) fun _=>au (X0 t g.1) fun r2 h2=>aG (fun _=>aj (.inl rfl)) fun n2=>au (Q2 t g.1 g.2) fun r3 h3=>aj ?_
  have h1:=h1.resolve_left n1
  by_cases hr:(r3 !=0)=true
  ·exact .inl hr
  ·exact .inr ⟨h1.1,h1.2,h2 (by simpa using n2),h3 (by simpa using hr)⟩
 obtain⟨o,e,ho⟩:=hg
 unfold kG
 rw[e]
 simp only[vaa]
 by_cases hc:o=true
 ·rw[vaj hc,JD];rfl
 ·obtain⟨q1,q2,q3,q4⟩:=ho.resolve_left hc
  have n1:=Wi t
  have hf:Fr t t used 1048576:=⟨rfl,q1,q1,q2,q2,NR _ _ (by omega),NR _ _ (by omega),by omega,by omega,q4,q4⟩
  have hs:zc t t=true:=(Tk t t).2 rfl
  rw[van hc,XW hm 0 g.1 (fun _=>hf),hs]
  simp only[vaa,if_true]
  have hn:=(ZY hm 0 hf).2
  have hB:nC (DP m 0 t t used)<=1073741824:=by omega
  rw[van (by simp)]
  unfold jx
  rw[WD _ _ _ (by show nC (DP m 0 t t used)+nL []<=1073741824;simp only[nL];omega) (by show nC (DP m 0 t t used)+0<=1073741824;omega) (by show nC (DP m 0 t t used)+0<=1073741824;omega)]
  simp only[vaa,vaE]
  have hv:refl (wc (DP m 0 t t used) ([],[])):=by
   obtain⟨k,hk⟩:∃k,nT t=k+1:=⟨nT t - 1,by have:1<=nT t:=mP _;omega⟩
   unfold DP
   rw[hk]
   show refl (wc (if t.Op=6 then _ else if Ej t=true then Ek m 0 t t used else F5 []) ([],[]))
   rw[van q3]
   split
   ·exact UL m 0 t used _
   ·intro c hc
    rw[wc,van (by decide),van (by decide),lP]at hc
    cases hc
  have hlen:=J1 (DP m 0 t t used) ([],[])
  have hh:=MF 1073741824 (DP m 0 t t used) ([],[]) (by show nC (DP m 0 t t used)+nL []<=1073741824;simp only[nL];omega)
  rw[X9 _ (by omega) hv hh]
  simp only[vaa]
  rw[JD]
  rfl
end Go.Proofs.YtbaamopmfmpfaaaGreatDoor
