/- PROVED: a part of the proof. Conditions: none. -/
import Derived.Test.YtggeppllafbidaaGreatDoorPkA15
noncomputable section
namespace Go.Proofs.YtggeppllafbidaaGreatDoor
open Go
set_option linter.unusedVariables false
set_option linter.unusedSimpArgs false
theorem jY{a b:List ag}{x:ag}:x∈gw a b↔x∈a\/x∈b:=(zh a b).2 x
theorem vX(a b:List ag):CU (gw a b):=(zh a b).1
theorem Oz{a b c d:List ag}(h:∀x,(x∈a\/x∈b)↔(x∈c\/x∈d)):gw a b=gw c d:=
 tw (vX a b) (vX c d) fun x=>by rw[jY,jY];exact h x
theorem LW{l a b:List ag}(hl:CU l)(h:∀x,x∈l↔x∈a\/x∈b):l=gw a b:=tw hl (vX a b) fun x=>by rw[jY];exact h x
theorem iZ(a b:List ag):(gw a b).length<=a.length+b.length:=by
 have h1:=Cs (i6 (a++b))
 have h2:=lR (a++b)
 rw[vas]at h2
 unfold gw
 omega
theorem Pz(x:ag):CU [x]:=by simp[CU]
theorem Io:CU ([]:List ag):=by simp[CU]
def nc{α σ:Type}(g:Nat->α->σ->σ):List α->Nat->σ->σ
 |[],_,s=>s
 |x::l,i,s=>nc g l (i+1) (g i x s)
theorem yR{α σ τ X:Type}(l:List α)(hl:l.length<9223372036854775808)(mk:Int->σ->τ)(body:τ->Option (τ⊕X))(k:Int->σ->α->Option (τ⊕X))(I:Nat->σ->Prop)(g:Nat->α->σ->σ)(e:σ->X)(s0:σ)(h0:I 0 s0)
  (hb:∀(i:Int) (s:σ),body (mk i s)=if decide (i<(l.length:Int))=true then(dv l i).bind (k i s)else some (.inr (e s)))
  (hin:∀(i:Nat) (h:i<l.length) s,I i s->k i s l[i]=some (.inl (mk (bA ((i:Int)+1)) (g i l[i] s)))/\I (i+1) (g i l[i] s)):loop body (mk 0 s0)=some (e (nc g l 0 s0)):=by
 have:=jP l hl mk body I (fun i x s=>.inl (g i x s)) e (fun i h s hs=>⟨?_,fun s' hs'=>by cases hs';exact(hin i h s hs).2⟩) (fun s hs=>by rw[hb,van (by simp)]) 0 s0 (vaJ _) h0
 ·rw[vbf,show((0:Nat):Int)=0 from rfl]at this
  rw[this]
  have key:∀(l:List α) (i:Nat) (s:σ),lN (fun i x (s:σ)=>(Sum.inl (g i x s):σ⊕X)) e l i s=e (nc g l i s):=by
   intro l
   induction l with
   |nil=>intro i s;rfl
   |cons x l ih=>intro i s;unfold lN;simp only;rw[ih];rfl
  rw[key]
 ·rw[hb,vaj (by simp;omega),cd l i h]
  simp only[vaa]
  exact(hin i h s hs).1
mutual
def DY:aa->List ag
 |⟨o,n,k,ks⟩=>(if o=3 then[n]else[])++HB ks
def HB:List aa->List ag
 |[]=>[]
 |p::ps=>DY p++HB ps
end
theorem Q9(p:aa):DY p=(if p.Op=3 then[p.Name]else[])++HB p.Kids:=by obtain⟨o,n,k,ks⟩:=p;rw[DY];rfl
theorem IS{x:ag}:∀{l:List aa},x∈HB l↔∃p∈l,x∈DY p
 |[]=>by simp[HB]
 |p::l=>by rw[HB,vaB,IS];simp
mutual
theorem DZ:∀(p:aa),(DY p).length<=nP p
 |⟨o,n,k,ks⟩=>by
  have:=IR ks
  rw[DY,nP,vas]
  split<;>simp<;>omega
theorem IR:∀(l:List aa),(HB l).length<=nL l
 |[]=>by simp[HB]
 |p::l=>by
  have:=DZ p
  have:=IR l
  rw[HB,nL,vas];omega
end
mutual
theorem Ka:∀(p:aa) (s:List ag),nP p<=cn->s.length+(DY p).length<=1073741824->GQ nf p s=some (true,s++DY p)
 | ⟨o,n,k,ks⟩,s,hp,hs => by
  rw[nP]at hp
  rw[DY,vas]at hs
  have hk:=vq ks
  have h1:nf s ⟨o,n,k,ks⟩=some (true,s++(if o=3 then[n]else[])):=by
   unfold nf
   show(if(o==3)=true then(app s [n]).bind fun l=>some (true,l)else some (true,s))=_
   by_cases h:o=3
   ·rw[vaj (by simpa using h),vaj h,du (by rw[vaj h]at hs;simp at hs ⊢;omega)]
    rfl
   ·rw[van (by simpa using h),van h,vbv]
  have h2:=Hy ks (s++(if o=3 then[n]else[])) (by omega) (by rw[vas];omega)
  rw[GQ,h1]
  simp only[vaa]
  rw[vaj (by unfold cn at hp;omega),h2,DY,vbi]
theorem Hy:∀(l:List aa) (s:List ag),nL l<=cn->s.length+(HB l).length<=1073741824->IQ nf l s=some (true,s++HB l)
 |[],s,_,_=>by rw[IQ,HB,vbv]
 |p::l,s,hp,hs=>by
  rw[nL]at hp
  rw[HB,vas]at hs
  rw[IQ,Ka p s (by omega) (by omega)]
  simp only[vaa]
  rw[Hy l _ (by omega) (by rw[vas];omega),HB,vbi]
end
def cU(p:aa):List ag:=gw (DY p) []
theorem rI{p:aa}{x:ag}:x∈cU p↔x∈DY p:=by unfold cU;rw[jY];simp
theorem im(p:aa):(cU p).length<=nP p:=by
 have h1:=iZ (DY p) []
 have h2:=DZ p
 unfold cU
 simp at h1
 omega
theorem JL(p:aa)(hp:nP p<=400000000):mt p=some (cU p):=by
 have h:=DZ p
 unfold mt
 rw[Ka p [] (by unfold cn;omega) (by simp;omega)]
 simp only[vaa,va2]
 rw[vB _ _ (by simp;omega)]
 rfl
theorem qg{α:Type}(f:α->List ag):∀(l:List α) (s:List ag),CU s->CU (l.foldl (fun s x=>gw s (f x)) s)/\∀x,x∈l.foldl (fun s x=>gw s (f x)) s↔x∈s\/∃y∈l,x∈f y
 |[],s,h=>⟨h,by simp⟩
 |y::l,s,h=>by
  obtain⟨h1,h2⟩:=qg f l (gw s (f y)) (vX _ _)
  refine⟨h1,fun x=>?_⟩
  rw[List.foldl_cons,h2,jY]
  simp only[vaG,exists_eq_or_imp,or_assoc]
theorem FO(p:aa)(hp:nP p<=200000000):mV p=some (cU p):=by
 refine lw (F:=yo) nP (fun x=>nP x<=200000000) cU (fun R x hx ih=>?_) p hp (ly (by unfold cn;omega))
 show sT (fun p=>R p) x=_
 unfold sT uL
 rw[show(if(x.Op==3)=true then some ([x.Name]:List ag)else some ([]:List ag))=some (if x.Op=3 then[x.Name]else[]) by by_cases h:x.Op=3<;>simp[h]]
 simp only[vaa]
 unfold uM
 have hlen:=rJ x
 have hn:=EZ x
 have h0:(if x.Op=3 then[x.Name]else[]:List ag).length<=1:=by split<;>simp
 have hi0:CU (if x.Op=3 then[x.Name]else[]:List ag):=by split;exact Pz _;exact Io
 rw[iR x.Kids (by omega) (fun i s=>(s,i)) _ (fun i s y=>(R y).bind fun r=>(d9 s r).bind fun r6=>some (.inl (r6,bA (i+1)))) (fun i s=>s.length<=1+nL (x.Kids.take i)) (fun y s=>gw s (cU y)) id (if x.Op=3 then[x.Name]else[]) (by simpa[nL]using h0) (fun i s=>rfl) (fun i hi s hs=>?_)]
 ·simp only[id,vaa]
  obtain⟨f1,f2⟩:=qg cU x.Kids (if x.Op=3 then[x.Name]else[]) hi0
  congr 1
  refine LW f1 fun y=>?_
  rw[f2,Q9,vaB,IS]
  simp only[rI,vbx,or_false]
 ·have hm:=vaw hi
  have hk:=qZ hm
  have h1:=tB x.Kids i hi
  have h2:=kg x.Kids (i+1)
  have h3:=im x.Kids[i]
  refine⟨?_,?_⟩
  ·rw[ih _ hk (by omega)]
   simp only[vaa]
   rw[gr _ _ (by omega) (by omega)]
   rfl
  ·have:=iZ s (cU x.Kids[i])
   omega
def n9(o:Int)(ns:List ag)(i:Nat):List ag:=if o=6 then ns.take i else[]
mutual
def vT:ae->List ag
 |⟨o,n,xs,ns,p,ps⟩=>(DY p++HB ps).filter (fun s=>!(s==[118]))++PY o ns 0 xs
def PY(o:Int)(ns:List ag):Nat->List ae->List ag
 |_,[]=>[]
 |i,a::xs=>(vT a).filter (fun s=>!decide (s∈n9 o ns i))++PY o ns (i+1) xs
end
theorem Qj(t:ae):vT t=(DY t.Pred++HB t.Preds).filter (fun s=>!(s==[118]))++PY t.Op t.Names 0 t.Args:=by obtain⟨o,n,xs,ns,p,ps⟩:=t;rw[vT];rfl
mutual
def wT:ae->Nat
 |⟨_,_,xs,_,p,ps⟩=>nP p+nL ps+uC xs
def uC:List ae->Nat
 |[]=>0
 |a::xs=>wT a+uC xs
end
theorem Kc(t:ae):wT t=nP t.Pred+nL t.Preds+uC t.Args:=by obtain⟨o,n,xs,ns,p,ps⟩:=t;rw[wT];rfl
theorem L0:∀{l:List ae} {x:ae},x∈l->wT x<=uC l
 | y :: l,x,h => by
  rw[uC]
  rcases vaG.1 h with rfl|h
  ·omega
  ·have:=L0 h;omega
theorem Nr{t a:ae}(h:a∈t.Args):wT a<=wT t:=by rw[Kc t];have:=L0 h;omega
theorem Bf(l:List ae)(i:Nat)(h:i<l.length):uC (l.take (i+1))=uC (l.take i)+wT l[i]:=by
 have key:∀(a b:List ae),uC (a++b)=uC a+uC b:=by
  intro a b
  induction a with
  |nil=>simp[uC]
  |cons x a ih=>rw[vbw,uC,uC,ih];omega
 rw[va9 h,key]
 simp[uC]
theorem wh:∀(l:List ae) (i:Nat),uC (l.take i)<=uC l
 |[],i=>by simp
 |x::l,0=>by simp[uC]
 |x::l,i+1=>by rw[List.take_succ_cons,uC,uC];have:=wh l i;omega
mutual
theorem OK:∀(t:ae),(vT t).length<=wT t
 |⟨o,n,xs,ns,p,ps⟩=>by
  have h1:=LZ o ns 0 xs
  have h2:=DZ p
  have h3:=IR ps
  have h4:=vaU (fun s=>!(s==[118])) (DY p++HB ps)
  rw[vT,wT,vas]
  rw[vas]at h4
  omega
theorem LZ(o:Int)(ns:List ag):∀(i:Nat) (l:List ae),(PY o ns i l).length<=uC l
 |i,[]=>by simp[PY]
 |i,a::xs=>by
  have h1:=OK a
  have h2:=LZ o ns (i+1) xs
  have h3:=vaU (fun s=>!decide (s∈n9 o ns i)) (vT a)
  rw[PY,uC,vas]
  omega
end
def freeT(t:ae):List ag:=gw (vT t) []
theorem G8{t:ae}{x:ag}:x∈freeT t↔x∈vT t:=by unfold freeT;rw[jY];simp
theorem kD(t:ae):(freeT t).length<=wT t:=by
 have h1:=iZ (vT t) []
 have h2:=OK t
 unfold freeT
 simp at h1
 omega
theorem IP{o:Int}{ns:List ag}{x:ag}:∀{l:List ae} {i:Nat},x∈PY o ns i l↔∃(j:Nat) (h:j<l.length),x∈vT l[j]/\x∉n9 o ns (i+j)
 |[],i=>by simp[PY]
 | a :: l,i => by
  rw[PY,vaB,IP]
  simp only[vaK,va1,vbh]
  constructor
  ·rintro(h|⟨j,hj,h1,h2⟩)
   ·exact⟨0,by simp,by simpa using h⟩
   ·exact⟨j+1,by simp;omega,by simpa using h1,by rw[show i+(j+1)=i+1+j by omega];exact h2⟩
  ·rintro⟨j,hj,h1,h2⟩
   cases j with
   |zero=>exact .inl ⟨by simpa using h1,by simpa using h2⟩
   |succ j=>exact .inr ⟨j,by simp at hj;omega,by simpa using h1,by rw[show i+1+j=i+(j+1) by omega];exact h2⟩
theorem LX{α:Type}(l:List α)(i:Nat)(hl:l.length<9223372036854775808):IK l none (some (if(l.length:Int)<(i:Int)then(l.length:Int)else(i:Int)))=some (l.take i):=by
 by_cases h:l.length<i
 ·rw[vaj (by omega),IL l l.length (var _),vaW (var _),vaW (by omega)]
 ·rw[van (by omega),IL l i (by omega)]
theorem Mb(t:ae)(i:Nat)(h:t.Names.length<9223372036854775808):iW t i=some (n9 t.Op t.Names i):=by
 unfold iW n9
 by_cases ho:t.Op=6
 ·rw[van (by simpa using ho),LX _ i h,vaj ho]
  rfl
 ·rw[vaj (by simpa using ho),van ho]
theorem wA(f:ag->Bool):∀(l a:List ag),l.foldl (fun s x=>if f x=true then s++[x]else s) a=a++l.filter f
 |[],a=>by simp
 |x::l,a=>by
  rw[List.foldl_cons,wA f l]
  by_cases h:f x=true<;>simp[h]
theorem EF{α:Type}(f:α->List ag):∀(l:List α) (a:List ag),l.foldl (fun s x=>s++f x) a=a++l.flatMap f
 |[],a=>by simp
 |x::l,a=>by rw[List.foldl_cons,EF f l,vcn,vbi]
theorem G7{α:Type}(f:Nat->α->List ag):∀(l:List α) (i:Nat) (a:List ag) (x:ag),x∈nc (fun i y s=>s++f i y) l i a↔x∈a\/∃(j:Nat) (h:j<l.length),x∈f (i+j) l[j]
 |[],i,a,x=>by simp[nc]
 | y :: l,i,a,x => by
  rw[nc,G7 f l (i+1),vaB,or_assoc]
  refine or_congr_right ⟨?_,?_⟩
  ·rintro(h|⟨j,hj,h⟩)
   ·exact⟨0,by simp,by simpa using h⟩
   ·exact⟨j+1,by simp;omega,by rw[show i+(j+1)=i+1+j by omega];simpa using h⟩
  ·rintro⟨j,hj,h⟩
   cases j with
   |zero=>exact .inl (by simpa using h)
   |succ j=>exact .inr ⟨j,by simp at hj;omega,by rw[show i+1+j=i+(j+1) by omega];simpa using h⟩
theorem MJ(l out:List ag)(h:out.length+l.length<=1073741824):gZ l (l.length:Int) out 0=some (out++l.filter (fun s=>!(s==[118]))):=by
 unfold gZ
 rw[iR l (by omega) (fun i s=>(s,i)) _ (fun i s x=>if(!(x==([118]:ag)))=true then(app s ([x]:List ag)).bind fun l8=>some (.inl (l8,bA (i+1)))else some (.inl (s,bA (i+1)))) (fun i s=>s.length<=out.length+i) (fun x s=>if(!(x==[118]))=true then s++[x]else s) id out (by simp) (fun i s=>rfl) (fun i hi s hs=>?_),wA]
 ·rfl
 ·refine⟨?_,by split<;>(try rw[vas,List.length_singleton])<;>omega⟩
  by_cases hx:(!(l[i]==([118]:ag)))=true
  ·rw[vaj hx,vaj hx,du (by simp;omega)]
   rfl
  ·rw[van hx,van hx]
theorem MK(b l out:List ag)(hb:b.length<9223372036854775808)(h:out.length+l.length<=1073741824):g8 b l (l.length:Int) out 0=some (out++l.filter (fun s=>!decide (s∈b))):=by
 unfold g8
 rw[iR l (by omega) (fun i s=>(s,i)) _ (fun i s x=>(dL b x).bind fun r17=>if(!r17)=true then(app s ([x]:List ag)).bind fun l8=>some (.inl (l8,bA (i+1)))else some (.inl (s,bA (i+1)))) (fun i s=>s.length<=out.length+i) (fun x s=>if(!decide (x∈b))=true then s++[x]else s) id out (by simp) (fun i s=>rfl) (fun i hi s hs=>?_),wA]
 ·rfl
 ·refine⟨?_,by split<;>(try rw[vas,List.length_singleton])<;>omega⟩
  rw[qc b _ hb]
  simp only[vaa]
  by_cases hx:(!decide (l[i]∈b))=true
  ·rw[vaj hx,vaj hx,du (by simp;omega)]
   rfl
  ·rw[van hx,van hx]
theorem Ho{p:aa}{ps:List aa}{x:ag}:(∃q∈[p]++ps,x∈DY q)↔x∈DY p++HB ps:=by
 rw[vaB,IS]
 simp
theorem N2(p:aa)(ps:List aa):nL ([p]++ps)=nP p+nL ps:=by
 rw[rO];simp[nL]
theorem ML(t:ae)(hw:wT t<=200000000)(hl:fK t<=200000000):oq t=some (freeT t):=by
 refine lw (F:=pE) fK (fun x=>wT x<=200000000/\fK x<=200000000) freeT (fun R x hx ih=>?_) t ⟨hw,hl⟩ (ly (by unfold cn;omega))
 obtain⟨hw,hl⟩:=hx
 show lF (fun t=>R t) x=_
 have h1:=oZ x
 have h2:=mr x
 have h3:=oI x
 have hwe:=Kc x
 have hn1:=N2 x.Pred x.Preds
 unfold lF
 rw[du (by simp;omega)]
 simp only[vaa]
 unfold nB
 rw[iR ([x.Pred]++x.Preds) (by simp;omega) (fun i s=>(s,i)) _ (fun i s y=>(mt y).bind fun r4=>(gZ r4 (r4.length:Int) s 0).bind fun o9=>some (.inl (o9,bA (i+1)))) (fun i s=>s.length<=nL (([x.Pred]++x.Preds).take i)) (fun y s=>s++(cU y).filter (fun s=>!(s==[118]))) id [] (by simp[nL]) (fun i s=>rfl) (fun i hi s hs=>?_),EF]
 ·simp only[id,vaa,va2]
  have hlen0:∀(l:List aa),(l.flatMap fun y=>(cU y).filter (fun s=>!(s==[118]))).length<=nL l:=by
   intro l
   induction l with
   |nil=>simp[nL]
   |cons y l ih=>
    have g1:=vaU (fun s=>!(s==[118])) (cU y)
    have g2:=im y
    rw[vcn,vas,nL]
    omega
  have hlen:=hlen0 ([x.Pred]++x.Preds)
  have hmem:∀z,z∈(([x.Pred]++x.Preds).flatMap fun y=>(cU y).filter (fun s=>!(s==[118])))↔z∈(DY x.Pred++HB x.Preds).filter (fun s=>!(s==[118])):=by
   intro z
   rw[vcr,vaK,<-Ho]
   simp only[vaK,rI]
   constructor
   ·rintro⟨y,hy,h,h'⟩;exact⟨⟨y,hy,h⟩,h'⟩
   ·rintro⟨⟨y,hy,h⟩,h'⟩;exact⟨y,hy,h,h'⟩
  generalize (([x.Pred]++x.Preds).flatMap fun y=>(cU y).filter (fun s=>!(s==[118])))=o10 at hlen hmem
  unfold nC
  have hI:∀(i:Nat) (h:i<x.Args.length) (s:List ag),s.length<=o10.length+uC (x.Args.take i)->(s++(freeT x.Args[i]).filter (fun z=>!decide (z∈n9 x.Op x.Names i))).length<=o10.length+uC (x.Args.take (i+1)):=fun i h s hs=>by
   have g1:=vaU (fun z=>!decide (z∈n9 x.Op x.Names i)) (freeT x.Args[i])
   have g2:=kD x.Args[i]
   have g3:=Bf x.Args i h
   rw[vas];omega
  rw[yR x.Args (by omega) (fun i s=>(s,i)) _ (fun i s y=>(iW x i).bind fun r13=>(R y).bind fun r14=>(g8 r13 r14 (r14.length:Int) s 0).bind fun o20=>some (.inl (o20,bA (i+1)))) (fun i s=>s.length<=o10.length+uC (x.Args.take i)) (fun i y s=>s++(freeT y).filter (fun z=>!decide (z∈n9 x.Op x.Names i))) id o10 (by simp[uC]) (fun i s=>rfl) (fun i hi s hs=>⟨?_,hI i hi s hs⟩)]
  ·simp only[id,vaa]
   have hlast:(nc (fun i y s=>s++(freeT y).filter (fun z=>!decide (z∈n9 x.Op x.Names i))) x.Args 0 o10).length<=o10.length+uC x.Args:=by
    have key:∀(l:List ae) (i:Nat) (a:List ag),(nc (fun i y s=>s++(freeT y).filter (fun z=>!decide (z∈n9 x.Op x.Names i))) l i a).length<=a.length+uC l:=by
     intro l
     induction l with
     |nil=>intro i a;simp[nc]
     |cons y l ih=>
      intro i a
      have g1:=vaU (fun z=>!decide (z∈n9 x.Op x.Names i)) (freeT y)
      have g2:=kD y
      have g3:=ih (i+1) (a++(freeT y).filter (fun z=>!decide (z∈n9 x.Op x.Names i)))
      rw[nc,uC]
      rw[vas]at g3
      omega
    exact key x.Args 0 o10
   rw[vB _ _ (by simp;exact vaX hlast (by omega))]
   simp only[vaa]
   congr 1
   refine Oz fun z=>?_
   rw[G7,Qj,vaB,hmem,IP]
   simp only[vaK,G8,va1,vbh,vbx,or_false]
  ·have hm:=vaw hi
   have g2:=kD x.Args[i]
   have g3:=Bf x.Args i hi
   have g4:=wh x.Args (i+1)
   have g5:=qX hm
   have g6:=Nr hm
   rw[Mb x i (by omega)]
   simp only[vaa]
   rw[ih _ g5 ⟨by omega,by omega⟩]
   simp only[vaa]
   have hbl:(n9 x.Op x.Names i).length<9223372036854775808:=by
    unfold n9
    split
    ·rw[vaR];omega
    ·simp
   rw[MK _ _ _ hbl (by omega)]
   rfl
 ·have hm:=vaw hi
  have g1:=tB ([x.Pred]++x.Preds) i hi
  have g2:=kg ([x.Pred]++x.Preds) (i+1)
  have g3:=im ([x.Pred]++x.Preds)[i]
  have g4:=vaU (fun s=>!(s==[118])) (cU ([x.Pred]++x.Preds)[i])
  refine⟨?_,by rw[vas];omega⟩
  rw[JL _ (by omega)]
  simp only[vaa]
  rw[MJ _ _ (by omega)]
  rfl
theorem J0{l:List ag}{v:ag}(hl:l.length<9223372036854775808):∃r,fp l v=some r/\(decide (r<0)= !decide (v∈l))/\(decide (r>=0)=decide (v∈l)):=by
 obtain⟨r,hr,hm⟩:∃r,fp l v=some r/\(r>=0↔v∈l):=⟨_,FM l v hl,Ju⟩
 refine⟨r,hr,?_,decide_eq_decide.2 hm⟩
 by_cases h:v∈l
 ·have:=hm.2 h
  rw[decide_eq_false (by omega),vbd h];rfl
 ·have:¬(r>=0):=fun e=>h (hm.1 e)
  rw[vbd (by omega),decide_eq_false h];rfl
def nM(ns l:List ag):List ag:=l.filter (fun s=>!decide (s∈ns))
theorem JB{ns l:List ag}{x:ag}:x∈nM ns l↔x∈l/\x∉ns:=by
 unfold nM
 rw[vaK]
 simp
theorem zW(ns l:List ag):(nM ns l).length<=l.length:=vaU ..
theorem F7(a ns:List ag)(ha:a.length<=1073741824)(hn:ns.length<9223372036854775808):iK a ns=some (nM ns a):=by
 unfold iK oX
 rw[iR a (by omega) (fun i s=>(s,i)) _ (fun i s x=>(fp ns x).bind fun r3=>if(decide (r3<0))=true then(app s ([x]:List ag)).bind fun l5=>some (.inl (l5,bA (i+1)))else some (.inl (s,bA (i+1)))) (fun i s=>s.length<=i) (fun x s=>if(!decide (x∈ns))=true then s++[x]else s) id [] (by simp) (fun i s=>rfl) (fun i hi s hs=>?_),wA]
 ·rfl
 ·refine⟨?_,by split<;>(try rw[vas,List.length_singleton])<;>omega⟩
  obtain⟨r,e1,e2,_⟩:=J0 (l:=ns) (v:=a[i]) hn
  rw[e1]
  simp only[vaa,e2]
  by_cases hx:(!decide (a[i]∈ns))=true
  ·rw[vaj hx,vaj hx,du (by simp;omega)]
   rfl
  ·rw[van hx,van hx]
theorem NJ{α:Type}(f:Nat->α->List ag):∀(l:List α) (i:Nat) (a:List ag),CU a->CU (nc (fun i y s=>gw s (f i y)) l i a)/\∀x,x∈nc (fun i y s=>gw s (f i y)) l i a↔x∈a\/∃(j:Nat) (h:j<l.length),x∈f (i+j) l[j]
 |[],i,a,h=>⟨h,by simp[nc]⟩
 | y :: l,i,a,h => by
  obtain⟨h1,h2⟩:=NJ f l (i+1) (gw a (f i y)) (vX _ _)
  refine⟨h1,fun x=>?_⟩
  rw[nc,h2,jY,or_assoc]
  refine or_congr_right ⟨?_,?_⟩
  ·rintro(h|⟨j,hj,h⟩)
   ·exact⟨0,by simp,by simpa using h⟩
   ·exact⟨j+1,by simp;omega,by rw[show i+(j+1)=i+1+j by omega];simpa using h⟩
  ·rintro⟨j,hj,h⟩
   cases j with
   |zero=>exact .inl (by simpa using h)
   |succ j=>exact .inr ⟨j,by simp at hj;omega,by rw[show i+1+j=i+(j+1) by omega];simpa using h⟩
theorem MT(t:ae)(hw:wT t<=100000000)(hl:fK t<=100000000):Ea t=some (freeT t):=by
 refine lw (F:=yt) fK (fun x=>wT x<=100000000/\fK x<=100000000) freeT (fun R x hx ih=>?_) t ⟨hw,hl⟩ (ly (by unfold cn;omega))
 obtain⟨hw,hl⟩:=hx
 show sX (fun t=>R t) x=_
 have h1:=oZ x
 have h2:=mr x
 have h3:=oI x
 have hwe:=Kc x
 have hn1:=N2 x.Pred x.Preds
 unfold sX
 rw[du (by simp;omega)]
 simp only[vaa]
 unfold uT
 rw[iR ([x.Pred]++x.Preds) (by simp;omega) (fun i s=>(s,i)) _ (fun i s y=>(mV y).bind fun r4=>(iK r4 ([([118]:ag)]:List ag)).bind fun r5=>(d9 s r5).bind fun r6=>some (.inl (r6,bA (i+1)))) (fun i s=>s.length<=nL (([x.Pred]++x.Preds).take i)) (fun y s=>gw s (nM [([118]:ag)] (cU y))) id [] (by simp[nL]) (fun i s=>rfl) (fun i hi s hs=>?_)]
 ·simp only[id,vaa]
  obtain⟨f1,f2⟩:=qg (fun y=>nM [([118]:ag)] (cU y)) ([x.Pred]++x.Preds) [] Io
  have hlen0:∀(l:List aa) (a:List ag),(l.foldl (fun s y=>gw s (nM [([118]:ag)] (cU y))) a).length<=a.length+nL l:=by
   intro l
   induction l with
   |nil=>intro a;simp
   |cons y l ih=>
    intro a
    have g1:=zW [([118]:ag)] (cU y)
    have g2:=im y
    have g3:=ih (gw a (nM [([118]:ag)] (cU y)))
    have g4:=iZ a (nM [([118]:ag)] (cU y))
    rw[List.foldl_cons,nL]
    omega
  have hlen:=hlen0 ([x.Pred]++x.Preds) []
  simp only[List.length_nil,vaD]at hlen
  have hmem:∀z,z∈(([x.Pred]++x.Preds).foldl (fun s y=>gw s (nM [([118]:ag)] (cU y))) [])↔z∈(DY x.Pred++HB x.Preds).filter (fun s=>!(s==[118])):=by
   intro z
   rw[f2,vaK,<-Ho]
   simp only[vbx,false_or,JB,rI,vaV]
   constructor
   ·rintro⟨y,hy,h,h'⟩;exact⟨⟨y,hy,h⟩,by simpa using h'⟩
   ·rintro⟨⟨y,hy,h⟩,h'⟩;exact⟨y,hy,h,by simpa using h'⟩
  generalize (([x.Pred]++x.Preds).foldl (fun s y=>gw s (nM [([118]:ag)] (cU y))) [])=o10 at hlen hmem f1
  unfold uU
  have hI:∀(i:Nat) (h:i<x.Args.length) (s:List ag),s.length<=o10.length+uC (x.Args.take i)->(gw s (nM (n9 x.Op x.Names i) (freeT x.Args[i]))).length<=o10.length+uC (x.Args.take (i+1)):=fun i h s hs=>by
   have g1:=zW (n9 x.Op x.Names i) (freeT x.Args[i])
   have g2:=kD x.Args[i]
   have g3:=Bf x.Args i h
   have g4:=iZ s (nM (n9 x.Op x.Names i) (freeT x.Args[i]))
   omega
  rw[yR x.Args (by omega) (fun i s=>(s,i)) _ (fun i s y=>(IK x.Names none (some (if(x.Names.length:Int)<i then(x.Names.length:Int)else i))).bind fun l10=>(mW x l10).bind fun o12=>(R y).bind fun r13=>(iK r13 o12).bind fun r14=>(d9 s r14).bind fun r15=>some (.inl (r15,bA (i+1)))) (fun i s=>s.length<=o10.length+uC (x.Args.take i)) (fun i y s=>gw s (nM (n9 x.Op x.Names i) (freeT y))) id o10 (by simp[uC]) (fun i s=>rfl) (fun i hi s hs=>⟨?_,hI i hi s hs⟩)]
  ·simp only[id,vaa]
   obtain⟨g1,g2⟩:=NJ (fun i y=>nM (n9 x.Op x.Names i) (freeT y)) x.Args 0 o10 f1
   congr 1
   refine LW g1 fun z=>?_
   rw[g2,Qj,vaB,hmem,IP]
   simp only[JB,G8,vbx,or_false]
  ·have hm:=vaw hi
   have g2:=kD x.Args[i]
   have g3:=Bf x.Args i hi
   have g4:=wh x.Args (i+1)
   have g5:=qX hm
   have g6:=Nr hm
   have g7:=zW (n9 x.Op x.Names i) (freeT x.Args[i])
   rw[LX _ i (by omega)]
   simp only[vaa]
   rw[show mW x (x.Names.take i)=some (n9 x.Op x.Names i) by
    unfold mW n9
    by_cases ho:x.Op=6<;>simp[ho]]
   simp only[vaa]
   rw[ih _ g5 ⟨by omega,by omega⟩]
   simp only[vaa]
   have hbl:(n9 x.Op x.Names i).length<9223372036854775808:=by
    unfold n9
    split
    ·rw[vaR];omega
    ·simp
   rw[F7 _ _ (by omega) hbl]
   simp only[vaa]
   rw[gr _ _ (by omega) (by omega)]
   rfl
 ·have hm:=vaw hi
  have g1:=tB ([x.Pred]++x.Preds) i hi
  have g2:=kg ([x.Pred]++x.Preds) (i+1)
  have g3:=im ([x.Pred]++x.Preds)[i]
  have g4:=zW [([118]:ag)] (cU ([x.Pred]++x.Preds)[i])
  have g5:=iZ s (nM [([118]:ag)] (cU ([x.Pred]++x.Preds)[i]))
  refine⟨?_,by omega⟩
  rw[FO _ (by omega)]
  simp only[vaa]
  rw[F7 _ _ (by omega) (by simp)]
  simp only[vaa]
  rw[gr _ _ (by omega) (by omega)]
  rfl
theorem zX{σ τ X:Type}(n:Nat)(hn:n<9223372036854775808)(mk:Int->σ->τ)(body:τ->Option (τ⊕X))(F:Nat->σ)(y:X)
  (hin:∀i,i<n->body (mk (i:Int) (F i))=some (.inl (mk (bA ((i:Int)+1)) (F (i+1))))) (hend:body (mk (n:Int) (F n))=some (.inr y)):loop body (mk 0 (F 0))=some y:=by
 have key:∀k i,k+i=n->loop body (mk (i:Int) (F i))=some y:=by
  intro k
  induction k with
  |zero=>
   intro i hi
   have:i=n:=by omega
   subst this
   exact oF hend
  |succ k ih=>
   intro i hi
   rw[oG (hin i (by omega)),nK (by omega) (by omega),show((i:Int)+1)=((i+1:Nat):Int) by omega]
   exact ih (i+1) (by omega)
 exact key n 0 (by omega)
abbrev Sb:Type:=List (ag×aa)
abbrev kN(c:Sb):List ag:=c.map (·.1)
abbrev kB(c:Sb):List aa:=c.map (·.2)
def M7(x:ag):aa:=⟨3,x,0,[]⟩
def ca(x:ag)(c:Sb):Sb:=c.filter (fun e=>!(e.1==x))
def pf(x:ag)(c:Sb):Bool:=c.any (fun e=>decide (x∈DY e.2))
abbrev S3:Type:=List ag×Sb×List ag
def xn(o:Int)(ns:List ag)(i:Nat)(s:S3):S3:=
 if o=6/\i<ns.length then
  if pf (ns.getD i []) (ca (ns.getD i []) s.2.1)=true then
   (s.1++[iO s.1 (ns.getD i [])],ca (ns.getD i []) s.2.1++[(ns.getD i [],M7 (iO s.1 (ns.getD i [])))],s.2.2.set i (iO s.1 (ns.getD i [])))
  else(s.1,ca (ns.getD i []) s.2.1,s.2.2)
 else s
mutual
def ww:ae->Sb->ae
 |⟨o,n,xs,ns,p,ps⟩,c=>
  ⟨o,n,(Jk o ns 0 xs (((kB c).flatMap cU++freeT ⟨o,n,xs,ns,p,ps⟩)++ns,c,ns)).1,(Jk o ns 0 xs (((kB c).flatMap cU++freeT ⟨o,n,xs,ns,p,ps⟩)++ns,c,ns)).2,DE (mn (kN c) (kB c)) p,ps.map (DE (mn (kN c) (kB c)))⟩
def Jk(o:Int)(ns:List ag):Nat->List ae->S3->List ae×List ag
 |_,[],s=>([],s.2.2)
 |i,a::xs,s=>(ww a s.2.1::(Jk o ns (i+1) xs (xn o ns i s)).1,(Jk o ns (i+1) xs (xn o ns i s)).2)
end
def fZ(o:Int)(ns:List ag)(s:S3):Nat->S3
 |0=>s
 |i+1=>xn o ns i (fZ o ns s i)
def bj(t:ae)(c:Sb):S3:=(((kB c).flatMap cU++freeT t)++t.Names,c,t.Names)
theorem Ny(o:Int)(ns:List ag)(s:S3):∀(xs:List ae) (i:Nat),Jk o ns i xs (fZ o ns s i)=((xs.zipIdx i).map (fun y=>ww y.1 (fZ o ns s y.2).2.1),(fZ o ns s (i+xs.length)).2.2)
 |[],i=>by rw[Jk];rfl
 |a::xs,i=>by
  have ih:=Ny o ns s xs (i+1)
  rw[Jk,show xn o ns i (fZ o ns s i)=fZ o ns s (i+1)from rfl,ih,List.zipIdx_cons,vaz,vaS,show i+1+xs.length=i+(xs.length+1) by omega]
theorem Kx(t:ae)(c:Sb):ww t c=⟨t.Op,t.Name,(t.Args.zipIdx).map (fun y=>ww y.1 (fZ t.Op t.Names (bj t c) y.2).2.1),(fZ t.Op t.Names (bj t c) t.Args.length).2.2,DE (mn (kN c) (kB c)) t.Pred,t.Preds.map (DE (mn (kN c) (kB c)))⟩:=by
 obtain⟨o,n,xs,ns,p,ps⟩:=t
 have h:=Ny o ns (bj ⟨o,n,xs,ns,p,ps⟩ c) xs 0
 rw[show fZ o ns (bj ⟨o,n,xs,ns,p,ps⟩ c) 0=(((kB c).flatMap cU++freeT ⟨o,n,xs,ns,p,ps⟩)++ns,c,ns)from rfl,vaD]at h
 rw[ww,h]
 rfl
def Kw(t:ae)(c:Sb)(i:Nat):List ae:=((t.Args.take i).zipIdx).map (fun y=>ww y.1 (fZ t.Op t.Names (bj t c) y.2).2.1)
theorem Jj(t:ae)(c:Sb)(i:Nat)(h:i<t.Args.length):Kw t c (i+1)=Kw t c i++[ww t.Args[i] (fZ t.Op t.Names (bj t c) i).2.1]:=by
 unfold Kw
 rw[va9 h,List.zipIdx_append,vbG,vaR]
 rw[show min i t.Args.length=i by omega]
 simp[List.zipIdx_cons]
theorem Ll(t:ae)(c:Sb)(i:Nat)(h:i<=t.Args.length):(Kw t c i).length=i:=by
 unfold Kw
 rw[vaC,List.length_zipIdx,vaR]
 omega
theorem Lk(t:ae)(c:Sb):Kw t c t.Args.length=(t.Args.zipIdx).map (fun y=>ww y.1 (fZ t.Op t.Names (bj t c) y.2).2.1):=by
 unfold Kw
 rw[vaW (var _)]
theorem Ir(x:ag):∀(c:Sb),kN (ca x c)=(kN c).filter (fun n=>!(n==x))
 |[]=>rfl
 | e :: c => by
  have ih:=Ir x c
  unfold ca kN at ih ⊢
  rw[va5,vaz,va5]
  split
  ·rw[vaz,ih]
  ·exact ih
theorem NE(x:ag)(c:Sb):x∉kN (ca x c):=by rw[Ir];simp
theorem yL{x:ag}{c:Sb}(h:(kN c).Nodup):(kN (ca x c)).Nodup:=by rw[Ir];exact h.filter _
theorem KI(x:ag)(c:Sb):ca x (ca x c)=ca x c:=by
 unfold ca
 rw[vcc]
 congr 1
 funext e
 cases(e.1==x)<;>rfl
theorem DV(x:ag):∀(c:Sb),nL (kB (ca x c))<=nL (kB c)
 |[]=>by simp[ca,kB]
 | e :: c => by
  have ih:=DV x c
  unfold ca kB at ih ⊢
  rw[va5]
  split
  ·rw[vaz,vaz,nL,nL];omega
  ·rw[vaz,nL];omega
theorem EP(c:Sb):c.length<=nL (kB c):=by
 have:=vq (kB c)
 rwa[vaC]at this
theorem N4(x:ag):nP (M7 x)=1:=by simp[M7,nP,nL]
theorem PB(c:Sb)(e:ag×aa):nL (kB (c++[e]))=nL (kB c)+nP e.2:=by
 unfold kB
 rw[vbG,rO];simp[nL]
theorem wv(o:Int)(ns:List ag)(s:S3)(h:(kN s.2.1).Nodup):∀i,(kN (fZ o ns s i).2.1).Nodup
 |0=>h
 | i + 1 => by
  have ih:=wv o ns s h i
  show(kN (xn o ns i (fZ o ns s i)).2.1).Nodup
  unfold xn
  split
  ·split
   ·unfold kN
    rw[vbG]
    simp only[vaz,vbX]
    rw[vcL]
    refine⟨yL ih,by simp,fun a ha b hb=>?_⟩
    rw[vaV]at hb
    subst hb
    exact fun e=>NE _ _ (e▸ha)
   ·exact yL ih
  ·exact ih
theorem Lm(o:Int)(ns:List ag)(s:S3):∀i,nL (kB (fZ o ns s i).2.1)<=nL (kB s.2.1)+min i ns.length
 |0=>by simp[fZ]
 | i + 1 => by
  have ih:=Lm o ns s i
  show nL (kB (xn o ns i (fZ o ns s i)).2.1)<=_
  have hd:=DV (ns.getD i []) (fZ o ns s i).2.1
  unfold xn
  split
  ·rename_i hc
   split
   ·show nL (kB (ca (ns.getD i []) (fZ o ns s i).2.1++[(ns.getD i [],M7 (iO (fZ o ns s i).1 (ns.getD i [])))]))<=_
    rw[PB,N4]
    omega
   ·show nL (kB (ca (ns.getD i []) (fZ o ns s i).2.1))<=_
    omega
  ·omega
theorem NA(o:Int)(ns:List ag)(s:S3):∀i,(fZ o ns s i).1.length<=s.1.length+i
 |0=>by simp[fZ]
 | i + 1 => by
  have ih:=NA o ns s i
  show(xn o ns i (fZ o ns s i)).1.length<=_
  unfold xn
  split
  ·split
   ·simp only[vas,List.length_singleton];omega
   ·simp only;omega
  ·omega
theorem Jl(o:Int)(ns:List ag)(s:S3):∀i,(fZ o ns s i).2.2.length=s.2.2.length
 |0=>rfl
 | i + 1 => by
  have ih:=Jl o ns s i
  show(xn o ns i (fZ o ns s i)).2.2.length=_
  unfold xn
  split
  ·split
   ·simp only[vbu];exact ih
   ·exact ih
  ·exact ih
theorem wz:∀(l:List aa),(l.flatMap cU).length<=nL l
 |[]=>by simp[nL]
 |p::l=>by
  have:=wz l
  have:=im p
  rw[vcn,vas,nL];omega
theorem LY(t:ae)(c:Sb):(bj t c).1.length<=nL (kB c)+wT t+fK t:=by
 have h1:=wz (kB c)
 have h2:=kD t
 have h3:=mr t
 unfold bj
 simp only[vas]
 omega
theorem KD(x:ag)(c:Sb):decide (x∈(kB c).flatMap cU)=pf x c:=by
 unfold pf
 rw[vb8,vai,vbq,vcr]
 simp only[rI,vai,kB,vaq]
 constructor
 ·rintro⟨p,⟨e,he,rfl⟩,h⟩;exact⟨e,he,h⟩
 ·rintro⟨e,he,h⟩;exact⟨e.2,⟨e,he,rfl⟩,h⟩
theorem Il{α:Type}(n:Nat)(l:List α)(i:Nat)(h:i<n)(h2:i<l.length):Nb n l (i:Int)=some l[i]:=by
 unfold Nb
 rw[vaj ⟨by omega,by omega⟩]
 simp[h2]
theorem OI{α:Type}(l:List α)(i:Nat)(x:α)(h:i<l.length):Q6 l (i:Int) x=some (l.set i x):=by
 unfold Q6
 rw[vaj ⟨by omega,by omega⟩]
 rfl
theorem NL{α:Type}(n:Nat)(l:List α)(h:n=l.length):QO n l=some l:=vaj h
theorem Ik(ns:List ag)(i:Nat)(h:i<ns.length):ns.getD i []=ns[i]:=by simp[h]
mutual
def De(L:Nat):ae->Prop
 |⟨_,_,xs,ns,_,_⟩=>(∀s∈ns,s.length<=L)/\vd L xs
def vd(L:Nat):List ae->Prop
 |[]=>True
 |a::xs=>De L a/\vd L xs
end
theorem Eo(L:Nat)(t:ae):De L t↔(∀s∈t.Names,s.length<=L)/\vd L t.Args:=by obtain⟨o,n,xs,ns,p,ps⟩:=t;rw[De];rfl
theorem GT(L:Nat):∀(l:List ae),vd L l↔∀t∈l,De L t
 |[]=>by simp[vd]
 |a::l=>by rw[vd,GT L l];simp
theorem Nn{L:Nat}{t a:ae}(h:De L t)(ha:a∈t.Args):De L a:=(GT L _).1 ((Eo L t).1 h).2 a ha
mutual
theorem GU{L M:Nat}(h:L<=M):∀(t:ae),De L t->De M t
 |⟨_,_,xs,ns,_,_⟩,ht=>by
  rw[De]at ht ⊢
  exact⟨fun s hs=>vaX (ht.1 s hs) h,En h xs ht.2⟩
theorem En{L M:Nat}(h:L<=M):∀(l:List ae),vd L l->vd M l
 |[],_=>trivial
 |a::xs,hl=>by
  rw[vd]at hl ⊢
  exact⟨GU h a hl.1,En h xs hl.2⟩
end
theorem PR{ns:List ag}{s:ag}(h:s∈ns):s.length<=lB (ns.map cS):=by
 have h2:=Ak (vaq.2 ⟨s,h,rfl⟩:cS s∈ns.map cS)
 simp only[cS,wR,pm]at h2
 omega
mutual
theorem Lf(B:Nat):∀(t:ae),wR (af t)<=B->De B t
 |⟨o,n,xs,ns,p,ps⟩,h=>by
  rw[vJ]at h
  have h:1+(pm (.str n)+(pm (sl af xs)+(pm (sl cS ns)+(1+(pm (.str p.Name)+(1+(pm (sl ac p.Kids)+(pm (sl ac ps)+0))))))))<=B:=h
  simp only[pm,sl]at h
  rw[De]
  exact⟨fun s hs=>by have:=PR hs;omega,Jc B xs (by omega)⟩
theorem Jc(B:Nat):∀(l:List ae),lB (l.map af)<=B->vd B l
 |[],_=>trivial
 |a::xs,h=>by
  simp only[vaz,lB]at h
  rw[vd]
  exact⟨Lf B a (by omega),Jc B xs (by omega)⟩
end
mutual
theorem OM:∀(t:ae),wT t<=wR (af t)
 |⟨o,n,xs,ns,p,ps⟩=>by
  have h1:=OL xs
  have h2:=Hf ps
  have h3:=Hf p.Kids
  have h4:=EZ p
  rw[wT,vJ]
  show _<=1+(pm (.str n)+(pm (sl af xs)+(pm (sl cS ns)+(1+(pm (.str p.Name)+(1+(pm (sl ac p.Kids)+(pm (sl ac ps)+0))))))))
  simp only[pm,sl]
  omega
theorem OL:∀(l:List ae),uC l<=lB (l.map af)
 |[]=>by simp[uC]
 |a::l=>by
  have:=OM a
  have:=OL l
  rw[uC]
  simp only[vaz,lB]
  omega
end
theorem pN:∀(c:Sb),(kN c).zip (kB c)=c
 |[]=>rfl
 |e::c=>by
  have ih:=pN c
  unfold kN kB at ih ⊢
  rw[vaz,vaz,List.zip_cons_cons,ih]
def wj(hid:List ag)(c:Sb):Sb:=c.foldl (fun o e=>if e.1∈hid\/e.1∈kN o then o else o++[e]) []
theorem F8(hid:List ag)(c:Sb)(i:Nat)(h:i<c.length):wj hid (c.take (i+1))=if c[i].1∈hid\/c[i].1∈kN (wj hid (c.take i))then wj hid (c.take i)else wj hid (c.take i)++[c[i]]:=by
 unfold wj
 rw[va9 h,vck]
 rfl
theorem IT(hid:List ag):∀(c:Sb),(wj hid c).length<=c.length:=by
 have key:∀(c o:Sb),(c.foldl (fun o e=>if e.1∈hid\/e.1∈kN o then o else o++[e]) o).length<=o.length+c.length:=by
  intro c
  induction c with
  |nil=>intro o;simp
  | cons e c ih =>
   intro o
   rw[List.foldl_cons,vaS]
   refine vaX (ih _) ?_
   split
   ·omega
   ·rw[vas,List.length_singleton];omega
 intro c
 have:=key c []
 simpa[wj]using this
theorem P0{x:ag}{c:Sb}(h:(kN c).Nodup):wj [x] c=ca x c:=by
 have key:∀(c o:Sb),(kN c).Nodup->(∀e∈c,e.1∉kN o)->c.foldl (fun o e=>if e.1∈[x]\/e.1∈kN o then o else o++[e]) o=o++ca x c:=by
  intro c
  induction c with
  |nil=>intro o _ _;simp[ca]
  | cons e c ih =>
   intro o hn ho
   unfold kN at hn
   rw[vaz,vbP]at hn
   have h1:=ho e (by simp)
   rw[List.foldl_cons]
   by_cases hx:e.1=x
   ·rw[vaj (.inl (by simp[hx])),ih o hn.2 (fun e' he'=>ho e' (by simp[he']))]
    unfold ca
    rw[va5,van (by simp[hx])]
   ·rw[van (by simp only[vaV];rintro(h|h);exact hx h;exact h1 h)]
    rw[ih (o++[e]) hn.2 (fun e' he' hm=>by
     unfold kN at hm
     rw[vbG,vaB]at hm
     rcases hm with hm|hm
     ·exact ho e' (by simp[he']) hm
     ·simp only[vaz,vbX,vaV]at hm
      exact hn.1 (vaq.2 ⟨e',he',hm⟩))]
    unfold ca
    rw[va5,vaj (by simpa using hx),vbi]
    rfl
 have:=key c [] h (fun e _=>by simp)
 simpa[wj]using this
theorem vR(hid:List ag)(c:Sb)(hh:hid.length<9223372036854775808)(hc:c.length<=1000000000):bw ⟨kN c,kB c⟩ hid=some ⟨kN (wj hid c),kB (wj hid c)⟩:=by
 unfold bw dO
 have hl:(kN c).length=c.length:=vaC ..
 have:=zX c.length (by omega) (fun i (s:List ag×List aa)=>(i,s.1,s.2)) (fun(zz:Int×(List ag)×(List aa))=>bm hid ⟨kN c,kB c⟩ (kN c) ((kN c).length:Int) zz.1 zz.2.1 zz.2.2)
  (fun i=>(kN (wj hid (c.take i)),kB (wj hid (c.take i)))) (kN (wj hid c),kB (wj hid c)) (fun i hi=>?_) ?_
 ·rw[show(wj hid (c.take 0))=[]from rfl]at this
  rw[show(((0:Int),([]:List ag),([]:List aa)):Int×(List ag)×(List aa))=(0,kN [],kB [])from rfl,this]
  rfl
 ·show bm hid ⟨kN c,kB c⟩ (kN c) ((kN c).length:Int) (i:Int) (kN (wj hid (c.take i))) (kB (wj hid (c.take i)))=_
  unfold bm dN
  have hw:=IT hid (c.take i)
  rw[vaR]at hw
  have hkl:(kN (wj hid (c.take i))).length=(wj hid (c.take i)).length:=vaC ..
  have hkb:(kB (wj hid (c.take i))).length=(wj hid (c.take i)).length:=vaC ..
  rw[vaj (by simp;omega),cd (kN c) i (by omega)]
  simp only[vaa]
  rw[qc hid _ hh,qc (kN (wj hid (c.take i))) _ (by omega)]
  simp only[vaa]
  have hg:(kN c)[i]'(by omega)=c[i].1:=by simp[kN]
  have hb:(kB c)[i]'(by simp[kB];omega)=c[i].2:=by simp[kB]
  rw[hg,F8 hid c i hi]
  by_cases h1:c[i].1∈hid
  ·simp only[h1,decide_true,vbK,vaP,if_false,vaa,true_or,if_true]
  ·by_cases h2:c[i].1∈kN (wj hid (c.take i))
   ·simp only[h1,h2,decide_false,decide_true,vbz,vbK,vaP,if_false,vaa,or_true,if_true]
   ·simp only[h1,h2,decide_false,vbz,if_true,vaa,or_self,if_false]
    rw[du (by simp;omega)]
    simp only[vaa]
    rw[cd (kB c) i (by simp[kB];omega)]
    simp only[vaa,hb]
    rw[du (by simp;omega)]
    simp[kN,kB]
 ·show bm hid ⟨kN c,kB c⟩ (kN c) ((kN c).length:Int) (c.length:Int) (kN (wj hid (c.take c.length))) (kB (wj hid (c.take c.length)))=_
  unfold bm
  rw[van (by simp),vaW (var _)]
theorem Oo(x:ag)(c:Sb)(hn:(kN c).Nodup)(hc:c.length<=1000000000):bw ⟨kN c,kB c⟩ [x]=some ⟨kN (ca x c),kB (ca x c)⟩:=by
 rw[vR [x] c (by simp) hc,P0 hn]
theorem On(x:ag)(q:aa)(c:Sb)(hn:(kN c).Nodup)(hc:c.length<=1000000000):cX ⟨kN (ca x c),kB (ca x c)⟩ x q=some ⟨kN (ca x c++[(x,q)]),kB (ca x c++[(x,q)])⟩:=by
 unfold cX
 have hd:(ca x c).length<=c.length:=vaU ..
 rw[Oo x _ (yL hn) (by omega),KI]
 simp only[vaa]
 have h1:(kN (ca x c)).length=(ca x c).length:=vaC ..
 have h2:(kB (ca x c)).length=(ca x c).length:=vaC ..
 rw[du (by simp;omega)]
 simp only[vaa]
 rw[du (by simp;omega)]
 simp[kN,kB]
theorem Hp(ns:List ag)(bs:List aa)(h:nL bs<=400000000):cW ⟨ns,bs⟩=some (bs.flatMap cU):=by
 unfold cW eu
 have hl:=vq bs
 show(loop (fun(zz:(List ag)×Int)=>dZ bs (bs.length:Int) zz.1 zz.2) ([],0)).bind _=_
 rw[iR bs (by omega) (fun i s=>(s,i)) _ (fun i s x=>(mt x).bind fun r3=>(app s r3).bind fun l4=>some (.inl (l4,bA (i+1)))) (fun i s=>s.length<=nL (bs.take i)) (fun x s=>s++cU x) id [] (by simp[nL]) (fun i s=>rfl) (fun i hi s hs=>?_),EF]
 ·rfl
 ·have h1:=tB bs i hi
  have h2:=kg bs (i+1)
  have h3:=im bs[i]
  refine⟨?_,by rw[vas];omega⟩
  rw[JL _ (by omega)]
  simp only[vaa]
  rw[du (by omega)]
  rfl
structure KS(t:ae)(c:Sb):Prop where
 nd:(kN c).Nodup
 sz:nL (kB c)+fK t<=20000000
 w:wT t<=20000000
 n:De 1000000000000000 t
theorem QS{c:Sb}{q:aa}(h:q∈kB c):nP q<=nL (kB c):=BG h
theorem Qc{t:ae}:nP t.Pred<=wT t:=by rw[Kc];omega
theorem FE{t:ae}{q:aa}(h:q∈t.Preds):nP q<=wT t:=by rw[Kc];have:=BG h;omega
theorem LI{t:ae}{c:Sb}(h:KS t c)(i:Nat)(hi:i<t.Args.length):KS t.Args[i] (fZ t.Op t.Names (bj t c) i).2.1 where
 nd:=wv _ _ _ h.nd i
 sz:=by
  have h1:=Lm t.Op t.Names (bj t c) i
  have h2:=tx t
  have h3:=wB (vaw hi)
  have h4:=h.sz
  show nL (kB (fZ t.Op t.Names (bj t c) i).2.1)+fK t.Args[i]<=20000000
  have h5:nL (kB (bj t c).2.1)=nL (kB c):=rfl
  omega
 w:=vaX (Nr (vaw hi)) h.w
 n:=Nn h.n (vaw hi)
theorem B3(c:Sb)(p:aa)(hp:nP p<=cn)(hc:nL (kB c)<=cn):cj ⟨kN c,kB c⟩ p=some (DE (mn (kN c) (kB c)) p):=by
 unfold cj
 have:=EP c
 have h1:(kN c).length=c.length:=vaC ..
 rw[PL p (kN c) (kB c) hp (by unfold cn at hc;omega) (fun q hq=>vaX (QS hq) hc)]
 rfl
theorem Fj(c:Sb)(l:List aa)(hl:l.length<=1073741824)(hp:∀p∈l,nP p<=cn)(hc:nL (kB c)<=cn):iX l ⟨kN c,kB c⟩=some (l.map (DE (mn (kN c) (kB c)))):=by
 unfold iX lK
 rw[rK l hl (fun i s=>(s,i)) _ (fun y=>cj ⟨kN c,kB c⟩ y) (DE (mn (kN c) (kB c))) id (fun i s=>rfl) (fun y hy=>B3 c y (hp y hy) hc)]
 rfl
theorem Nz{o:Int}(ho:o≠6)(ns:List ag)(s:S3):∀i,fZ o ns s i=s
 |0=>rfl
 |i+1=>by
  show xn o ns i (fZ o ns s i)=s
  rw[Nz ho ns s i]
  unfold xn
  rw[van (fun h=>ho h.1)]
theorem yf{α β:Type}(f:α->β):∀(l:List α) (i:Nat),(l.zipIdx i).map (fun y=>f y.1)=l.map f
 |[],i=>rfl
 |x::l,i=>by rw[List.zipIdx_cons,vaz,vaz,yf f l (i+1)]
theorem LP(t:ae)(c:Sb)(h:KS t c):fO ⟨kN c,kB c⟩ t=some (ww t c):=by
 have hbig:fK t<OQ:=ly (by have:=h.sz;unfold cn;omega)
 refine(lw (F:=e7) (fun x=>fK x.2) (fun x=>∃c,x.1=⟨kN c,kB c⟩/\KS x.2 c) (fun x=>ww x.2 (x.1.names.zip x.1.by_)) (fun R x hx ih=>?_) (⟨kN c,kB c⟩,t) ⟨c,rfl,h⟩ hbig).trans (by
  show some (ww t ((kN c).zip (kB c)))=_
  rw[pN])
 obtain⟨s,t⟩:=x
 obtain⟨c,hs,h⟩:=hx
 have hs:s=⟨kN c,kB c⟩:=hs
 have h:KS t c:=h
 subst hs
 show dG (fun s t=>R (s,t)) ⟨kN c,kB c⟩ t=some (ww t ((kN c).zip (kB c)))
 rw[pN]
 have hR:∀(i:Nat) (hi:i<t.Args.length),R (⟨kN (fZ t.Op t.Names (bj t c) i).2.1,kB (fZ t.Op t.Names (bj t c) i).2.1⟩,t.Args[i])=some (ww t.Args[i] (fZ t.Op t.Names (bj t c) i).2.1):=fun i hi=>by
  have:=ih (⟨kN (fZ t.Op t.Names (bj t c) i).2.1,kB (fZ t.Op t.Names (bj t c) i).2.1⟩,t.Args[i]) (qX (vaw hi)) ⟨_,rfl,LI h i hi⟩
  rw[this]
  show some (ww t.Args[i] ((kN (fZ t.Op t.Names (bj t c) i).2.1).zip (kB (fZ t.Op t.Names (bj t c) i).2.1)))=_
  rw[pN]
 have l1:=oZ t
 have l2:=mr t
 have l3:=oI t
 have hsz:nL (kB c)+fK t<=20000000:=h.sz
 have hw:wT t<=20000000:=h.w
 have hnd:=h.nd
 have hp:=Qc (t:=t)
 have hcl:=EP c
 unfold dG
 by_cases ho:t.Op=6
 ·rw [vaj (by simpa using ho)]
  unfold d8
  rw[G5 _ (by omega),B3 c _ (by unfold cn;omega) (by unfold cn;omega),Fj c _ (by omega) (fun q hq=>by have:=FE hq;unfold cn;omega) (by unfold cn;omega),Hp _ _ (by omega),ML t (by omega) (by omega)]
  simp only[vaa]
  have f1:=wz (kB c)
  have f2:=kD t
  rw[du (by omega)]
  simp only[vaa]
  rw[du (by rw[vas];omega)]
  simp only[vaa]
  unfold dF
  have hloop:=zX t.Args.length (by omega) (fun i (s:List ag×List ag×List ae×List ag×List aa)=>(s.1,i,s.2.1,s.2.2.1,s.2.2.2.1,s.2.2.2.2)) (fun(zz:(List ag)×Int×List ag×(List ae)×(List ag)×(List aa))=>aV (fun s t=>R (s,t)) t t.Args (t.Args.length:Int) t.Names.length zz.1 zz.2.1 zz.2.2.1 zz.2.2.2.1 zz.2.2.2.2.1 zz.2.2.2.2.2)
   (fun i=>((fZ t.Op t.Names (bj t c) i).1,(fZ t.Op t.Names (bj t c) i).2.2,Kw t c i,kN (fZ t.Op t.Names (bj t c) i).2.1,kB (fZ t.Op t.Names (bj t c) i).2.1))
   ((fZ t.Op t.Names (bj t c) t.Args.length).2.2,Kw t c t.Args.length,kN (fZ t.Op t.Names (bj t c) t.Args.length).2.1,kB (fZ t.Op t.Names (bj t c) t.Args.length).2.1) (fun i hi=>?_) ?_
  ·have hloop':loop (fun(zz:(List ag)×Int×List ag×(List ae)×(List ag)×(List aa))=>aV (fun s t=>R (s,t)) t t.Args (t.Args.length:Int) t.Names.length zz.1 zz.2.1 zz.2.2.1 zz.2.2.2.1 zz.2.2.2.2.1 zz.2.2.2.2.2) (((kB c).flatMap cU++freeT t)++t.Names,0,t.Names,[],kN c,kB c)=_:=hloop
   rw[hloop']
   simp only[vaa]
   rw[NL _ _ (by rw[Jl];rfl)]
   simp only[vaa]
   rw[Kx,Lk]
  ·show aV (fun s t=>R (s,t)) t t.Args (t.Args.length:Int) t.Names.length (fZ t.Op t.Names (bj t c) i).1 (i:Int) (fZ t.Op t.Names (bj t c) i).2.2 (Kw t c i) (kN (fZ t.Op t.Names (bj t c) i).2.1) (kB (fZ t.Op t.Names (bj t c) i).2.1)=_
   unfold aV
   rw[vaj (by simp;omega),cd _ i hi]
   simp only[vaa]
   rw[hR i hi]
   simp only[vaa]
   have hal:=Ll t c i (by omega)
   rw[du (by simp;omega)]
   simp only[vaa]
   rw[Jj t c i hi]
   have hq:fZ t.Op t.Names (bj t c) (i+1)=xn t.Op t.Names i (fZ t.Op t.Names (bj t c) i):=rfl
   have hQn:=Lm t.Op t.Names (bj t c) i
   have hQu:=NA t.Op t.Names (bj t c) i
   have hQw:=Jl t.Op t.Names (bj t c) i
   have hQd:=wv t.Op t.Names (bj t c) hnd i
   have hu0:=LY t c
   have hn0:nL (kB (bj t c).2.1)=nL (kB c):=rfl
   have hw0:(bj t c).2.2=t.Names:=rfl
   rw[hw0]at hQw
   generalize fZ t.Op t.Names (bj t c) i=S at hq hQn hQu hQw hQd ⊢
   obtain⟨u,cc,w⟩:=S
   simp only at hQn hQu hQw hQd ⊢
   have hccl:=EP cc
   by_cases hi2:i<t.Names.length
   ·rw[van (by simp;omega),cd _ i hi2]
    simp only[vaa]
    rw[Oo _ cc hQd (by omega)]
    simp only[vaa]
    have hd:=DV t.Names[i] cc
    rw[Hp _ _ (by omega)]
    simp only[vaa]
    have f3:=wz (kB (ca t.Names[i] cc))
    rw[qc _ _ (by omega),KD]
    simp only[vaa]
    have hnl:t.Names[i].length<=1000000000000000:=((Eo _ t).1 h.n).1 _ (vaw hi2)
    unfold xn at hq
    rw[vaj ⟨ho,hi2⟩,Ik _ i hi2]at hq
    by_cases hcm:pf t.Names[i] (ca t.Names[i] cc)=true
    ·rw[vaj hcm]at hq ⊢
     rw[(IZ u t.Names[i] (by omega) (by omega)).1]
     simp only[vaa]
     rw[Il _ w i (by omega) (by omega)]
     simp only[vaa]
     rw[OI w i _ (by omega)]
     simp only[vaa]
     rw[Il _ (w.set i (iO u t.Names[i])) i (by omega) (by rw[vbu];omega),vbY]
     simp only[vaa]
     rw[du (by simp;omega)]
     simp only[vaa]
     have hpw:=On t.Names[i] (⟨3,iO u t.Names[i],0,[]⟩:aa) cc hQd (by omega)
     rw[hpw]
     simp only[vaa]
     rw[hq]
     rfl
    ·rw[van hcm]at hq ⊢
     rw[hq]
   ·rw[vaj (by simp;omega),hq]
    unfold xn
    rw[van (fun h=>hi2 h.2)]
  ·show aV (fun s t=>R (s,t)) t t.Args (t.Args.length:Int) t.Names.length (fZ t.Op t.Names (bj t c) t.Args.length).1 (t.Args.length:Int) (fZ t.Op t.Names (bj t c) t.Args.length).2.2 (Kw t c t.Args.length) (kN (fZ t.Op t.Names (bj t c) t.Args.length).2.1) (kB (fZ t.Op t.Names (bj t c) t.Args.length).2.1)=_
   unfold aV
   rw[van (by simp)]
 ·rw[van (by simpa using ho),G5 _ (by omega),B3 c _ (by unfold cn;omega) (by unfold cn;omega),Fj c _ (by omega) (fun q hq=>by have:=FE hq;unfold cn;omega) (by unfold cn;omega)]
  simp only[vaa]
  have hQ:=Nz ho t.Names (bj t c)
  unfold mA jo
  rw[rK t.Args (by omega) (fun i s=>(s,i)) _ (fun y=>R (⟨kN c,kB c⟩,y)) (fun y=>ww y c) id (fun i s=>rfl) (fun y hy=>by
   obtain⟨i,hi,rfl⟩:=vcH hy
   have:=hR i hi
   rw[hQ i]at this
   exact this)]
  simp only[vaa,id]
  rw[Kx]
  simp only[hQ]
  congr 2
  exact(yf (fun y=>ww y c) t.Args 0).symm
def oB(x:ag)(q:aa):Sb:=if x=[118]then[]else[(x,q)]
theorem K6(x:ag)(q:aa):(kN (oB x q)).Nodup:=by unfold oB;split<;>simp[kN]
theorem Q0(x:ag)(q:aa):nL (kB (oB x q))<=nP q:=by
 unfold oB
 split
 ·simp[kB,nL]
 ·simp[kB,nL]
theorem ME(t:ae)(x:ag)(q:aa)(h:KS t (oB x q)):fN t x q=some (ww t (oB x q)):=by
 unfold fN dX
 rw[show IK ([x]:List ag) none (some (if(([q]:List aa).length:Int)<(([x]:List ag).length:Int)then(([q]:List aa).length:Int)else(([x]:List ag).length:Int)))=some [x]from rfl,show IK ([q]:List aa) none (some (if(([q]:List aa).length:Int)<(([x]:List ag).length:Int)then(([q]:List aa).length:Int)else(([x]:List ag).length:Int)))=some [q]from rfl]
 simp only[vaa]
 have hw:=vR [([118]:ag)] [(x,q)] (by simp) (by simp)
 have he:wj [([118]:ag)] [(x,q)]=oB x q:=by
  unfold wj oB
  simp only[List.foldl_cons,List.foldl_nil,vaV,kN,vbX,vbx,or_false,va2]
 rw[he]at hw
 have hw':bw ⟨[x],[q]⟩ [([118]:ag)]=some ⟨kN (oB x q),kB (oB x q)⟩:=hw
 rw[hw']
 simp only[vaa]
 rw[LP t _ h]
 rfl
theorem K4(x:ag)(c:Sb)(i:Nat)(h:i<c.length):ca x (c.take (i+1))=if c[i].1=x then ca x (c.take i)else ca x (c.take i)++[c[i]]:=by
 unfold ca
 rw[va9 h,List.filter_append,va5]
 by_cases hx:c[i].1=x
 ·rw[vaj hx,van (by simp[hx]),List.filter_nil,vbv]
 ·rw[van hx,vaj (by simpa using hx),List.filter_nil]
theorem MS(x:ag)(c:Sb)(hc:c.length<=1000000000):zA ⟨kN c,kB c⟩ x=some ⟨kN (ca x c),kB (ca x c)⟩:=by
 unfold zA u4
 have hl:(kN c).length=c.length:=vaC ..
 have hlb:(kB c).length=c.length:=vaC ..
 have:=zX c.length (by omega) (fun i (s:List ag×List aa)=>(i,s.1,s.2)) (fun(zz:Int×(List ag)×(List aa))=>fI x ⟨kN c,kB c⟩ (kN c) ((kN c).length:Int) zz.1 zz.2.1 zz.2.2)
  (fun i=>(kN (ca x (c.take i)),kB (ca x (c.take i)))) (kN (ca x c),kB (ca x c)) (fun i hi=>?_) ?_
 ·rw[show(ca x (c.take 0))=[]from rfl]at this
  rw[show(((0:Int),([]:List ag),([]:List aa)):Int×(List ag)×(List aa))=(0,kN [],kB [])from rfl,this]
  rfl
 ·show fI x ⟨kN c,kB c⟩ (kN c) ((kN c).length:Int) (i:Int) (kN (ca x (c.take i))) (kB (ca x (c.take i)))=_
  unfold fI u3
  have hw:(ca x (c.take i)).length<=(c.take i).length:=vaU ..
  rw[vaR]at hw
  have hkl:(kN (ca x (c.take i))).length=(ca x (c.take i)).length:=vaC ..
  have hkb:(kB (ca x (c.take i))).length=(ca x (c.take i)).length:=vaC ..
  rw[vaj (by simp;omega),cd (kN c) i (by omega)]
  simp only[vaa]
  rw[vaj (vbd (show(i:Int)<((kB c).length:Int) by omega))]
  simp only[vaa]
  have hg:(kN c)[i]'(by omega)=c[i].1:=by simp[kN]
  have hb:(kB c)[i]'(by omega)=c[i].2:=by simp[kB]
  rw[hg,K4 x c i hi]
  by_cases h1:c[i].1=x
  ·have h1':(c[i].1==x)=true:=by simpa using h1
   rw[vaj h1,van (by rw[h1'];decide)]
  ·have h1':(c[i].1==x)=false:=by simpa using h1
   simp only[h1',h1,vbz,if_true,if_false]
   rw[du (by simp;omega)]
   simp only[vaa]
   rw[cd (kB c) i (by omega)]
   simp only[vaa,hb]
   rw[du (by simp;omega)]
   simp[kN,kB]
 ·show fI x ⟨kN c,kB c⟩ (kN c) ((kN c).length:Int) (c.length:Int) (kN (ca x (c.take c.length))) (kB (ca x (c.take c.length)))=_
  unfold fI
  rw[van (by simp),vaW (var _)]
theorem MR(x:ag)(c:Sb)(h:nL (kB c)<=200000000):wn ⟨kN c,kB c⟩ x=some (pf x c):=by
 unfold wn sZ
 have hl:=vq (kB c)
 rw[Mw (kB c) (by omega) (fun zz=>oV x (kB c) ((kB c).length:Int) zz) (fun i y=>(mV y).bind fun r3=>(fp r3 x).bind fun r4=>if(decide (r4>=0))=true then some (.inr (.inl ()))else some (.inl (bA (i+1)))) (fun y=>decide (x∈DY y)) (.inl ()) (.inr ()) (fun i=>rfl) (fun y hy i=>by
  have h1:=BG hy
  have h2:=im y
  rw[FO y (by omega)]
  simp only[vaa]
  obtain⟨r,e1,_,e2⟩:=J0 (l:=cU y) (v:=x) (by omega)
  rw[e1]
  simp only[vaa,e2,rI]
  by_cases hx:x∈DY y<;>simp[hx])]
 simp only[vaa]
 have he:(kB c).any (fun y=>decide (x∈DY y))=pf x c:=by
  unfold pf kB
  rw[List.any_map]
  rfl
 rw[he]
 cases pf x c<;>rfl
theorem MU(l:List aa)(h:nL l<=200000000):∃k,wo l=some k/\k.length<=nL l/\∀x,x∈k↔x∈l.flatMap cU:=by
 unfold wo s8
 have hl:=vq l
 rw[iR l (by omega) (fun i s=>(s,i)) _ (fun i s y=>(mV y).bind fun r3=>(d9 s r3).bind fun r4=>some (.inl (r4,bA (i+1)))) (fun i s=>s.length<=nL (l.take i)) (fun y s=>gw s (cU y)) id [] (by simp[nL]) (fun i s=>rfl) (fun i hi s hs=>?_)]
 ·obtain⟨f1,f2⟩:=qg cU l [] Io
  refine⟨_,rfl,?_,fun x=>?_⟩
  ·have key:∀(l:List aa) (a:List ag),(l.foldl (fun s y=>gw s (cU y)) a).length<=a.length+nL l:=by
    intro l
    induction l with
    |nil=>intro a;simp
    |cons y l ih=>
     intro a
     have g2:=im y
     have g3:=ih (gw a (cU y))
     have g4:=iZ a (cU y)
     rw[List.foldl_cons,nL]
     omega
   have:=key l []
   simpa using this
  ·show x∈l.foldl (fun s y=>gw s (cU y)) []↔_
   rw[f2,vcr]
   simp
 ·have h1:=tB l i hi
  have h2:=kg l (i+1)
  have h3:=im l[i]
  have h4:=iZ s (cU l[i])
  refine⟨?_,by omega⟩
  rw[FO _ (by omega)]
  simp only[vaa]
  rw[gr _ _ (by omega) (by omega)]
  rfl
theorem M6(u w:List ag)(i:Nat)(hi:i<w.length)(hu:u.length<=400000000):pU u (i:Int) 1 w=some (gw u [w[i]]):=by
 have h:=gr u [w[i]] hu (by simp)
 unfold d9 at h
 unfold pU
 have e1:oM u (u.length:Int) [] 0=kQ u (u.length:Int) [] 0:=rfl
 rw[e1]
 cases h1:kQ u (u.length:Int) [] 0 with
 |none=>rw[h1]at h;cases h
 | some o =>
  rw[h1]at h
  simp only[vaa]at h ⊢
  have hb:∀s (k:Nat),eK (i:Int) 1 (((1:Nat):Int)) w s (k:Int)=cq [w[i]] (([w[i]]:List ag).length:Int) s (k:Int):=by
   intro s k
   unfold eK cq
   by_cases hk:k=0
   ·subst hk
    rw[vaj (by simp),vaj (by simp)]
    have hm:QP (i:Int) 1 w ((0:Nat):Int)=some w[i]:=by
     unfold QP
     rw[vaj ⟨by omega,by omega,by simp⟩]
     simp[hi]
    rw[hm,show dv [w[i]] ((0:Nat):Int)=some w[i]from rfl]
   ·rw[van (by simp;omega),van (by simp;omega)]
  have e2:kP (i:Int) 1 (((1:Nat):Int)) w o 0=kR [w[i]] (([w[i]]:List ag).length:Int) o 0:=by
   unfold kP kR
   have h0:=hb o 0
   rw[show((0:Nat):Int)=0 from rfl]at h0
   have e3:=j7 (fun(zz:(List ag)×Int)=>eK (i:Int) 1 (((1:Nat):Int)) w zz.1 zz.2) (o,0)
   have e4:=j7 (fun(zz:(List ag)×Int)=>cq [w[i]] (([w[i]]:List ag).length:Int) zz.1 zz.2) (o,0)
   rw[e3,e4,h0]
   cases hr:cq [w[i]] (([w[i]]:List ag).length:Int) o 0 with
   |none=>rfl
   | some r =>
    cases r with
    |inr y=>rfl
    | inl s =>
     simp only
     have hs:s.2=((1:Nat):Int):=by
      unfold cq at hr
      rw[vaj (by simp),show dv [w[i]] 0=some w[i]from rfl]at hr
      simp only[vaa]at hr
      cases hp:pV o w[i]with
      |none=>rw[hp]at hr;cases hr
      |some q=>rw[hp]at hr;cases hr;rfl
     obtain⟨s1,s2⟩:=s
     simp only at hs
     subst hs
     have h1:=hb s1 1
     have e5:=j7 (fun(zz:(List ag)×Int)=>eK (i:Int) 1 (((1:Nat):Int)) w zz.1 zz.2) (s1,((1:Nat):Int))
     have e6:=j7 (fun(zz:(List ag)×Int)=>cq [w[i]] (([w[i]]:List ag).length:Int) zz.1 zz.2) (s1,((1:Nat):Int))
     rw[e5,e6,h1]
     have hz:cq [w[i]] (([w[i]]:List ag).length:Int) s1 ((1:Nat):Int)=some (.inr s1):=by
      unfold cq
      rw[van (by simp)]
     rw[hz]
  rw[e2]
  exact h
def Ky(o:Int)(ns:List ag)(s:S3)(u:List ag):Nat->List ag
 |0=>u
 |i+1=>if(o=6/\i<ns.length)/\pf (ns.getD i []) (ca (ns.getD i []) (fZ o ns s i).2.1)=true then gw (Ky o ns s u i) [iO (fZ o ns s i).1 (ns.getD i [])]else Ky o ns s u i
theorem Lo(o:Int)(ns:List ag)(s:S3)(u:List ag)(h:∀x,x∈u↔x∈s.1):∀i x,x∈Ky o ns s u i↔x∈(fZ o ns s i).1
 |0,x=>h x
 | i + 1,x => by
  have ih:=Lo o ns s u h i
  show x∈Ky o ns s u (i+1)↔x∈(xn o ns i (fZ o ns s i)).1
  rw[Ky]
  unfold xn
  by_cases h1:o=6/\i<ns.length
  ·by_cases h2:pf (ns.getD i []) (ca (ns.getD i []) (fZ o ns s i).2.1)=true
   ·rw[vaj ⟨h1,h2⟩,vaj h1,vaj h2,jY,ih]
    simp
   ·rw[van (fun h=>h2 h.2),vaj h1,van h2,ih]
  ·rw[van (fun h=>h1 h.1),van h1,ih]
theorem Ln(o:Int)(ns:List ag)(s:S3)(u:List ag):∀i,(Ky o ns s u i).length<=u.length+i
 |0=>by simp[Ky]
 | i + 1 => by
  have ih:=Ln o ns s u i
  rw[Ky]
  split
  ·have:=iZ (Ky o ns s u i) [iO (fZ o ns s i).1 (ns.getD i [])]
   simp only[List.length_singleton]at this
   omega
  ·omega
theorem JW(c:Sb)(l:List aa)(hl:l.length<=1073741824)(hp:∀p∈l,nP p<=cn)(hc:c.length<=cn):la l (l.length:Int) (kN c) (kB c) 0 []=some (l.map (DE (mn (kN c) (kB c)))):=by
 unfold la
 have h1:(kN c).length=c.length:=vaC ..
 rw[rK l hl (fun i s=>(i,s)) _ (fun y=>kV y (kN c) (kB c)) (DE (mn (kN c) (kB c))) id (fun i s=>rfl) (fun y hy=>LT y _ _ (hp y hy) (by unfold cn at hc;omega))]
 rfl
theorem CM(t:ae)(c:Sb)(h:KS t c):uZ t ⟨kN c,kB c⟩=some (ww t c):=by
 have hbig:fK t<OQ:=ly (by have:=h.sz;unfold cn;omega)
 refine(lw (F:=qQ) (fun x=>fK x.1) (fun x=>∃c,x.2=⟨kN c,kB c⟩/\KS x.1 c) (fun x=>ww x.1 (x.2.Names.zip x.2.By)) (fun R x hx ih=>?_) (t,⟨kN c,kB c⟩) ⟨c,rfl,h⟩ hbig).trans (by
  show some (ww t ((kN c).zip (kB c)))=_
  rw[pN])
 obtain⟨t,s⟩:=x
 obtain⟨c,hs,h⟩:=hx
 have hs:s=⟨kN c,kB c⟩:=hs
 have h:KS t c:=h
 subst hs
 show mJ (fun t c=>R (t,c)) t ⟨kN c,kB c⟩=some (ww t ((kN c).zip (kB c)))
 rw[pN]
 have hR:∀(i:Nat) (hi:i<t.Args.length),R (t.Args[i],⟨kN (fZ t.Op t.Names (bj t c) i).2.1,kB (fZ t.Op t.Names (bj t c) i).2.1⟩)=some (ww t.Args[i] (fZ t.Op t.Names (bj t c) i).2.1):=fun i hi=>by
  have:=ih (t.Args[i],⟨kN (fZ t.Op t.Names (bj t c) i).2.1,kB (fZ t.Op t.Names (bj t c) i).2.1⟩) (qX (vaw hi)) ⟨_,rfl,LI h i hi⟩
  rw[this]
  show some (ww t.Args[i] ((kN (fZ t.Op t.Names (bj t c) i).2.1).zip (kB (fZ t.Op t.Names (bj t c) i).2.1)))=_
  rw[pN]
 have l1:=oZ t
 have l2:=mr t
 have l3:=oI t
 have hsz:nL (kB c)+fK t<=20000000:=h.sz
 have hw:wT t<=20000000:=h.w
 have hnd:=h.nd
 have hp:=Qc (t:=t)
 have hcl:=EP c
 have hknl:(kN c).length=c.length:=vaC ..
 unfold mJ
 rw[LT _ _ _ (by unfold cn;omega) (show(kN c).length<9223372036854775808 by omega)]
 simp only[vaa]
 rw[JW c _ (by omega) (fun q hq=>by have:=FE hq;unfold cn;omega) (by unfold cn;omega)]
 simp only[vaa]
 rw[du (by simp;omega)]
 simp only[vaa,va2]
 obtain⟨kn,hk1,hk2,hk3⟩:=MU (kB c) (by omega)
 rw[hk1,MT t (by omega) (by omega)]
 simp only[vaa]
 have f2:=kD t
 have f3:=iZ kn (freeT t)
 rw[gr _ _ (by omega) (by omega)]
 simp only[vaa]
 rw[gr _ _ (by omega) (by omega)]
 simp only[vaa]
 have hu0:∀x,x∈gw (gw kn (freeT t)) t.Names↔x∈(bj t c).1:=fun x=>by
  unfold bj
  rw[jY,jY,hk3,vaB,vaB]
 have hul0:=iZ (gw kn (freeT t)) t.Names
 generalize gw (gw kn (freeT t)) t.Names=u0 at hu0 hul0
 unfold oU
 have hloop:=zX t.Args.length (by omega) (fun i (s:List ag×List ag×List aa×List ae×List ag)=>(s.1,i,s.2.1,s.2.2.1,s.2.2.2.1,s.2.2.2.2)) (fun(zz:(List ag)×Int×(List ag)×(List aa)×(List ae)×List ag)=>dm (fun t c=>R (t,c)) t t.Args (t.Args.length:Int) t.Names.length zz.1 zz.2.1 zz.2.2.1 zz.2.2.2.1 zz.2.2.2.2.1 zz.2.2.2.2.2)
  (fun i=>(Ky t.Op t.Names (bj t c) u0 i,kN (fZ t.Op t.Names (bj t c) i).2.1,kB (fZ t.Op t.Names (bj t c) i).2.1,Kw t c i,(fZ t.Op t.Names (bj t c) i).2.2))
  (kN (fZ t.Op t.Names (bj t c) t.Args.length).2.1,kB (fZ t.Op t.Names (bj t c) t.Args.length).2.1,Kw t c t.Args.length,(fZ t.Op t.Names (bj t c) t.Args.length).2.2) (fun i hi=>?_) ?_
 ·have hloop':loop (fun(zz:(List ag)×Int×(List ag)×(List aa)×(List ae)×List ag)=>dm (fun t c=>R (t,c)) t t.Args (t.Args.length:Int) t.Names.length zz.1 zz.2.1 zz.2.2.1 zz.2.2.2.1 zz.2.2.2.2.1 zz.2.2.2.2.2) (u0,0,kN c,kB c,[],t.Names)=_:=hloop
  rw[hloop']
  simp only[vaa]
  rw[NL _ _ (by rw[Jl];rfl)]
  simp only[vaa]
  rw[Kx,Lk]
 ·show dm (fun t c=>R (t,c)) t t.Args (t.Args.length:Int) t.Names.length (Ky t.Op t.Names (bj t c) u0 i) (i:Int) (kN (fZ t.Op t.Names (bj t c) i).2.1) (kB (fZ t.Op t.Names (bj t c) i).2.1) (Kw t c i) (fZ t.Op t.Names (bj t c) i).2.2=_
  unfold dm
  rw[vaj (by simp;omega),cd _ i hi]
  simp only[vaa]
  rw[hR i hi]
  simp only[vaa]
  have hal:=Ll t c i (by omega)
  rw[du (by simp;omega)]
  simp only[vaa]
  rw[Jj t c i hi]
  have hq:fZ t.Op t.Names (bj t c) (i+1)=xn t.Op t.Names i (fZ t.Op t.Names (bj t c) i):=rfl
  have hU:Ky t.Op t.Names (bj t c) u0 (i+1)=_:=Ky.eq_2 t.Op t.Names (bj t c) u0 i
  have hUm:=Lo t.Op t.Names (bj t c) u0 hu0 i
  have hUl:=Ln t.Op t.Names (bj t c) u0 i
  have hQn:=Lm t.Op t.Names (bj t c) i
  have hQu:=NA t.Op t.Names (bj t c) i
  have hQw:=Jl t.Op t.Names (bj t c) i
  have hQd:=wv t.Op t.Names (bj t c) hnd i
  have hst:=LY t c
  have hn0:nL (kB (bj t c).2.1)=nL (kB c):=rfl
  have hw0:(bj t c).2.2=t.Names:=rfl
  rw[hw0]at hQw
  generalize Ky t.Op t.Names (bj t c) u0 i=U at hU hUm hUl ⊢
  generalize fZ t.Op t.Names (bj t c) i=S at hq hU hUm hQn hQu hQw hQd ⊢
  obtain⟨u,cc,w⟩:=S
  simp only at hQn hQu hQw hQd hUm hU ⊢
  have hccl:=EP cc
  unfold oT
  by_cases ho:t.Op=6
  ·rw [van (by simpa using ho)]
   simp only[vaa]
   by_cases hi2:i<t.Names.length
   ·rw[van (by simp;omega),cd _ i hi2]
    simp only[vaa]
    rw[MS _ cc (by omega)]
    simp only[vaa]
    have hd:=DV t.Names[i] cc
    rw[MR _ _ (by omega)]
    simp only[vaa]
    have hnl:t.Names[i].length<=1000000000000000:=((Eo _ t).1 h.n).1 _ (vaw hi2)
    unfold xn at hq
    rw[vaj ⟨ho,hi2⟩,Ik _ i hi2]at hq
    rw[Ik _ i hi2]at hU
    by_cases hcm:pf t.Names[i] (ca t.Names[i] cc)=true
    ·rw[vaj hcm]at hq ⊢
     rw[vaj ⟨⟨ho,hi2⟩,hcm⟩]at hU
     rw[(IZ U t.Names[i] (by omega) (by omega)).2.1,If hUm]
     simp only[vaa]
     rw[Il _ w i (by omega) (by omega)]
     simp only[vaa]
     rw[OI w i _ (by omega)]
     simp only[vaa]
     rw[show OD t.Names.length (i:Int) (bA ((i:Int)+1))=some 1 by
      rw[nK (by omega) (by omega)]
      unfold OD
      rw[vaj ⟨by omega,by omega,by omega⟩]
      congr 1;omega]
     simp only[vaa]
     rw[M6 U (w.set i (iO u t.Names[i])) i (by rw[vbu];omega) (by omega),vbY]
     simp only[vaa]
     have k1:(kN (ca t.Names[i] cc)).length=(ca t.Names[i] cc).length:=vaC ..
     have k2:(kB (ca t.Names[i] cc)).length=(ca t.Names[i] cc).length:=vaC ..
     have k3:(ca t.Names[i] cc).length<=cc.length:=vaU ..
     rw[du (by simp;omega)]
     simp only[vaa]
     rw[Il _ (w.set i (iO u t.Names[i])) i (by omega) (by rw[vbu];omega),vbY]
     simp only[vaa]
     rw[du (by simp;omega)]
     simp only[vaa]
     rw[hq,hU]
     simp[kN,kB,M7]
    ·rw[van hcm]at hq ⊢
     rw[van (fun h=>hcm h.2)]at hU
     rw[hq,hU]
   ·rw[vaj (by simp;omega),hq,hU,van (fun h=>hi2 h.1.2)]
    unfold xn
    rw[van (fun h=>hi2 h.2)]
  ·rw[vaj (by simpa using ho)]
   simp only[vaa,if_true]
   rw[hq,hU,van (fun h=>ho h.1.1)]
   unfold xn
   rw[van (fun h=>ho h.1)]
 ·show dm (fun t c=>R (t,c)) t t.Args (t.Args.length:Int) t.Names.length (Ky t.Op t.Names (bj t c) u0 t.Args.length) (t.Args.length:Int) (kN (fZ t.Op t.Names (bj t c) t.Args.length).2.1) (kB (fZ t.Op t.Names (bj t c) t.Args.length).2.1) (Kw t c t.Args.length) (fZ t.Op t.Names (bj t c) t.Args.length).2.2=_
  unfold dm
  rw[van (by simp)]
theorem MQ(t:ae)(x:ag)(q:aa)(h:KS t (oB x q)):wm t x q=some (ww t (oB x q)):=by
 unfold wm i8 j0
 have hb:cu [q] [x] (([x]:List ag).length:Int) 0 [] []=some (.inl (bA (0+1),kN (oB x q),kB (oB x q))):=by
  unfold cu fb oB
  rw[vaj (by simp),show dv [x] 0=some x from rfl]
  simp only[vaa]
  rw[vaj (by simp)]
  by_cases hx:x=[118]
  ·have hx':(x==([118]:ag))=true:=by simpa using hx
   simp only[hx',vbK,vaP,if_false,vaa]
   rw[vaj hx]
   rfl
  ·have hx':(x==([118]:ag))=false:=by simpa using hx
   simp only[hx',vbz,if_true]
   rw[FM [] x (by simp)]
   rw[van hx]
   rfl
 have he:cu [q] [x] (([x]:List ag).length:Int) (bA (0+1)) (kN (oB x q)) (kB (oB x q))=some (.inr (kN (oB x q),kB (oB x q))):=by
  unfold cu
  rw[show(([x]:List ag).length:Int)=1 from rfl,van (by decide)]
 rw[oG (body:=fun(zz:Int×(List ag)×(List aa))=>cu [q] [x] (([x]:List ag).length:Int) zz.1 zz.2.1 zz.2.2) (s:=(0,[],[])) (s':=(bA (0+1),kN (oB x q),kB (oB x q))) hb]
 rw[oF (body:=fun(zz:Int×(List ag)×(List aa))=>cu [q] [x] (([x]:List ag).length:Int) zz.1 zz.2.1 zz.2.2) he]
 simp only[vaa]
 rw[CM t _ h]
 rfl
theorem R1(o:Int)(ns:List ag)(i:Nat)(s:S3):(xn o ns i s).2.2.length=s.2.2.length:=by
 unfold xn
 split
 ·split
  ·simp only[vbu]
  ·rfl
 ·rfl
mutual
theorem LE:∀(t:ae) (c:Sb),fK (ww t c)=fK t
 |⟨o,n,xs,ns,p,ps⟩,c=>by
  obtain⟨h1,h2⟩:=LD o ns xs 0 (((kB c).flatMap cU++freeT ⟨o,n,xs,ns,p,ps⟩)++ns,c,ns)
  rw[ww,fK,fK,h1,h2,vaC]
theorem LD(o:Int)(ns:List ag):∀(xs:List ae) (i:Nat) (s:S3),kE (Jk o ns i xs s).1=kE xs/\(Jk o ns i xs s).2.length=s.2.2.length
 |[],i,s=>by rw[Jk];exact⟨rfl,rfl⟩
 | a :: xs,i,s => by
  have h1:=LE a s.2.1
  obtain⟨h2,h3⟩:=LD o ns xs (i+1) (xn o ns i s)
  rw[Jk]
  refine⟨?_,?_⟩
  ·show kE (ww a s.2.1::(Jk o ns (i+1) xs (xn o ns i s)).1)=_
   rw[kE,kE,h1,h2]
  ·show(Jk o ns (i+1) xs (xn o ns i s)).2.length=_
   rw[h3,R1]
end
def Lv(M:Nat)(c:Sb):Prop:=∀e∈c,nP e.2<=M
theorem Jp{M:Nat}{c:Sb}(h:Lv M c)(x:ag):Lv M (ca x c):=fun e he=>h e (vaK.1 he).1
theorem NG{M:Nat}{c:Sb}(hM:1<=M)(h:Lv M c)(x y:ag):Lv M (c++[(x,M7 y)]):=fun e he=>by
 rcases vaB.1 he with he|he
 ·exact h e he
 ·rw[vaV.1 he,N4];exact hM
theorem Ps{M:Nat}(hM:1<=M)(o:Int)(ns:List ag)(i:Nat)(s:S3)(h:Lv M s.2.1):Lv M (xn o ns i s).2.1:=by
 unfold xn
 split
 ·split
  ·exact NG hM (Jp h _) _ _
  ·exact Jp h _
 ·exact h
theorem NF{M:Nat}{c:Sb}(h:Lv M c){n:ag}{q:aa}(hq:mn (kN c) (kB c) n=some q):nP q<=M:=by
 have:=NX hq
 obtain⟨e,he,rfl⟩:=vaq.1 this
 exact h e he
mutual
theorem Lh(B M:Nat)(hM:1<=M):∀(t:ae) (c:Sb),Lv M c->tj (fun p=>nP p<=B) t->tj (fun p=>nP p<=B * M) (ww t c)
 |⟨o,n,xs,ns,p,ps⟩,c,h,ht=>by
  rw[tj]at ht
  have hs:∀q,nP q<=B->nP (DE (mn (kN c) (kB c)) q)<=B * M:=fun q hq=>vaX (Qg _ M hM (fun n r hr=>NF h hr) q) (vaM M hq)
  rw[ww,tj]
  refine⟨hs p ht.1,fun q hq=>?_,Jd B M hM o ns xs 0 _ h ht.2.2⟩
  obtain⟨q',hq',rfl⟩:=vaq.1 hq
  exact hs q' (ht.2.1 q' hq')
theorem Jd(B M:Nat)(hM:1<=M)(o:Int)(ns:List ag):∀(xs:List ae) (i:Nat) (s:S3),Lv M s.2.1->jl (fun p=>nP p<=B) xs->jl (fun p=>nP p<=B * M) (Jk o ns i xs s).1
 |[],i,s,_,_=>by rw[Jk];trivial
 |a::xs,i,s,h,ht=>by
  rw[jl]at ht
  rw[Jk]
  show jl (fun p=>nP p<=B * M) (ww a s.2.1::(Jk o ns (i+1) xs (xn o ns i s)).1)
  rw[jl]
  exact⟨Lh B M hM a s.2.1 h ht.1,Jd B M hM o ns xs (i+1) (xn o ns i s) (Ps hM o ns i s h) ht.2⟩
end
def sB(l:List ag)(by_:List aa):Sb:=wj [([118]:ag)] (l.zip by_)
theorem HC(hid:List ag):∀(c o:Sb),(kN o).Nodup->(kN (c.foldl (fun o e=>if e.1∈hid\/e.1∈kN o then o else o++[e]) o)).Nodup
 |[],o,h=>h
 | e :: c,o,h => by
  rw[List.foldl_cons]
  refine HC hid c _ ?_
  split
  ·exact h
  ·rename_i hn
   rw[not_or]at hn
   unfold kN at hn h ⊢
   rw[vbG,vcL]
   refine⟨h,by simp,fun a ha b hb=>?_⟩
   simp only[vaz,vbX,vaV]at hb
   subst hb
   intro he
   subst he
   exact hn.2 ha
theorem K7(l:List ag)(by_:List aa):(kN (sB l by_)).Nodup:=HC _ _ [] (by simp[kN])
theorem L1(hid:List ag):∀(c o:Sb),∀e∈c.foldl (fun o e=>if e.1∈hid\/e.1∈kN o then o else o++[e]) o,e∈o\/e∈c
 |[],o,e,h=>.inl h
 | x :: c,o,e,h => by
  rw[List.foldl_cons]at h
  rcases L1 hid c _ e h with h|h
  ·split at h
   ·exact .inl h
   ·rcases vaB.1 h with h|h
    ·exact .inl h
    ·rw[vaV.1 h];exact .inr vbE
  ·exact .inr (vaN _ h)
theorem OE{l:List ag}{by_:List aa}{M:Nat}(h:∀q∈by_,nP q<=M):Lv M (sB l by_):=fun e he=>by
 rcases L1 _ _ [] e he with he|he
 ·cases he
 ·exact h _ (List.of_mem_zip he).2
theorem P7{M:Nat}:∀(c:Sb),Lv M c->nL (kB c)<=c.length * M
 |[],_=>by simp[kB,nL]
 |e::c,h=>by
  have h1:=h e vbE
  have h2:=P7 c (fun x hx=>h x (vaN _ hx))
  show nL (e.2::kB c)<=_
  rw[nL,vaS,va0];omega
theorem OF(l:List ag)(by_:List aa):(sB l by_).length<=by_.length:=by
 have:=IT [([118]:ag)] (l.zip by_)
 rw[vbp]at this
 unfold sB
 omega
theorem M8{α β:Type}(l:List α)(m:List β):(l.take (min l.length m.length)).zip (m.take (min l.length m.length))=l.zip m:=by
 exact List.zip_eq_zip_take_min.symm
theorem QT(l:List ag)(m:List aa):kN (l.zip m)=l.take (min l.length m.length)/\kB (l.zip m)=m.take (min l.length m.length):=by
 rw[<-M8 l m]
 unfold kN kB
 have h:(l.take (min l.length m.length)).length=(m.take (min l.length m.length)).length:=by simp only[vaR];omega
 exact⟨List.map_fst_zip (by omega),List.map_snd_zip (by omega)⟩
theorem Iw(t:ae)(l:List ag)(m:List aa)(hl:l.length<=1000000000)(h:KS t (sB l m)):dX t l m=some (ww t (sB l m)):=by
 unfold dX
 have e:(if(m.length:Int)<(l.length:Int)then(m.length:Int)else(l.length:Int))=((min l.length m.length:Nat):Int):=by split<;>omega
 rw[e,IL l _ (Nat.min_le_left _ _),IL m _ (Nat.min_le_right _ _)]
 simp only[vaa]
 have hk:=QT l m
 have hw:=vR [([118]:ag)] (l.zip m) (by simp) (by rw[vbp];omega)
 rw[hk.1,hk.2]at hw
 rw[hw]
 simp only[vaa]
 rw[show(⟨kN (wj [([118]:ag)] (l.zip m)),kB (wj [([118]:ag)] (l.zip m))⟩:ai)=⟨kN (sB l m),kB (sB l m)⟩from rfl,LP t _ h]
 rfl
theorem IF(t:ae)(l:List ag)(m:List aa)(hl:l.length<=1000000000)(h:KS t (sB l m)):i8 t l m=some (ww t (sB l m)):=by
 unfold i8 j0
 have e:=yR l (by omega) (fun i (s:Sb)=>(i,kN s,kB s)) (fun(zz:Int×List ag×List aa)=>cu m l (l.length:Int) zz.1 zz.2.1 zz.2.2) (fun i s x=>(fb m i x (kN s)).bind fun o7=>if o7=true then(app (kN s) ([x]:List ag)).bind fun l10=>(dv m i).bind fun x11=>(app (kB s) ([x11]:List aa)).bind fun l12=>some (.inl (bA (i+1),l10,l12))else some (.inl (bA (i+1),kN s,kB s)))
  (fun i s=>s=wj [([118]:ag)] ((l.zip m).take i)) (fun i x s=>if h:i<m.length then(if x∈[([118]:ag)]\/x∈kN s then s else s++[(x,m[i])])else s) (fun s=>(kN s,kB s)) [] (by simp[wj]) (fun i s=>rfl) (fun i hi s hs=>?_)
 ·have key:∀(r:List ag) (k:Nat) (s:Sb),k+r.length=l.length->l.drop k=r->s=wj [([118]:ag)] ((l.zip m).take k)->nc (fun i x s=>if h:i<m.length then(if x∈[([118]:ag)]\/x∈kN s then s else s++[(x,m[i])])else s) r k s=sB l m:=by
   intro r
   induction r with
   |nil=>
    intro k s hk _ hs
    rw[nc,hs,vaW (by rw[vbp];simp at hk;omega)]
    rfl
   | cons x r ih =>
    intro k s hk hd hs
    have hkl:k<l.length:=by simp at hk;omega
    rw[vbm hkl]at hd
    obtain⟨hx,hr⟩:=List.cons.inj hd
    rw[nc]
    refine ih (k+1) _ (by simp at hk;omega) hr ?_
    by_cases hm:k<m.length
    ·rw[dif_pos hm,F8 _ _ _ (by rw[vbp];omega),<-hs,vcQ]
     simp only[hx]
    ·rw[dif_neg hm,hs,vaW (by rw[vbp];omega),vaW (by rw[vbp];omega)]
  rw[key l 0 [] (by omega) rfl (by simp[wj])]at e
  rw[show loop (fun(zz:Int×List ag×List aa)=>cu m l (l.length:Int) zz.1 zz.2.1 zz.2.2) (0,[],[])=some (kN (sB l m),kB (sB l m))from e]
  simp only[vaa]
  rw[show(⟨kN (sB l m),kB (sB l m)⟩:aj)=⟨kN (sB l m),kB (sB l m)⟩from rfl,CM t _ h]
  rfl
 ·have hsl:s.length<=i:=by
   rw[hs]
   have:=IT [([118]:ag)] ((l.zip m).take i)
   rw[vaR]at this
   omega
  have hkn:(kN s).length=s.length:=by unfold kN;rw[vaC]
  have hkb:(kB s).length=s.length:=by unfold kB;rw[vaC]
  by_cases hm:i<m.length
  ·have hz:i<(l.zip m).length:=by rw[vbp];omega
   have ht:=F8 [([118]:ag)] (l.zip m) i hz
   rw[<-hs,vcQ]at ht
   rw[dif_pos hm]
   refine⟨?_,by rw[ht]⟩
   unfold fb
   rw[vaj (by simp;omega)]
   by_cases hv:l[i]=[118]
   ·rw[van (by simp[hv]),vaj (.inl (by simp[hv]))]
    rfl
   ·rw[vaj (by simpa using hv),mU _ _ (by rw[hkn];omega)]
    simp only[vaa]
    rw[Mq]
    by_cases hin:l[i]∈kN s
    ·have:((kN s).any fun k=>k==l[i])=true:=vbq.2 ⟨_,hin,by simp⟩
     rw[this]
     simp only[vbK,vaP,if_false]
     rw[vaj (.inr hin)]
    ·have:((kN s).any fun k=>k==l[i])=false:=by
      rw[vbj]
      intro y hy hc
      exact hin (by rw[<-eq_of_beq hc];exact hy)
     rw[this]
     simp only[vbz,if_true]
     rw[van (by rw[not_or];exact⟨by simpa using hv,hin⟩)]
     rw[du (by simp;omega),cd m i hm]
     simp only[vaa]
     rw[du (by simp;omega)]
     simp[kN,kB]
  ·rw[dif_neg hm]
   refine⟨?_,by rw[hs,vaW (by rw[vbp];omega),vaW (by rw[vbp];omega)]⟩
   unfold fb
   rw[van (by simp;omega)]
   rfl
mutual
theorem No(B:Nat):∀(t:ae),wT t<=B->tj (fun p=>nP p<=B) t
 |⟨o,n,xs,ns,p,ps⟩,h=>by
  rw[wT]at h
  rw[tj]
  exact⟨by omega,fun q hq=>by have:=BG hq;omega,Lg B xs (by omega)⟩
theorem Lg(B:Nat):∀(l:List ae),uC l<=B->jl (fun p=>nP p<=B) l
 |[],_=>trivial
 |a::xs,h=>by
  rw[uC]at h
  rw[jl]
  exact⟨No B a (by omega),Lg B xs (by omega)⟩
end
theorem Em:wq=some true:=by kernel_rfl
theorem Cb{X:Type}(n:Nat)(hn:n<9223372036854775808){body:Int->Option (Int⊕X)}{Q:X->Prop}(hin:∀i:Nat,i<n->uq (body (i:Int)) (fun r=>r.elim (fun t=>t=bA ((i:Int)+1)) Q))(hend:uq (body (n:Int)) (fun r=>r.elim (fun _=>False) Q)):uq (loop body 0) Q:=by
 have key:∀k i,k+i=n->uq (loop body (i:Int)) Q:=by
  intro k
  induction k with
  |zero=>
   intro i hi
   have:i=n:=by omega
   subst this
   obtain⟨r,e,hr⟩:=hend
   rw[j7,e]
   cases r with
   |inl _=>exact hr.elim
   |inr y=>exact⟨y,rfl,hr⟩
  | succ k ih =>
   intro i hi
   obtain⟨r,e,hr⟩:=hin i (by omega)
   rw[j7,e]
   cases r with
   |inl t=>
    have hr:t=bA ((i:Int)+1):=hr
    simp only
    rw[hr,nK (by omega) (by omega),show((i:Int)+1)=((i+1:Nat):Int) by omega]
    exact ih (i+1) (by omega)
   |inr y=>exact⟨y,rfl,hr⟩
 exact key n 0 (by omega)
theorem KU(t:ae)(ht:fK t<=cn):uq (yF t) (fun _=>True):=by
 refine FY (F:=tg) fK (fun x=>fK x<=cn) (fun _ _=>True) (fun R x hx ih=>?_) t ht (ly ht)
 show uq (nZ (fun t=>R t) x) _
 have h1:=oZ x
 have h2:=mr x
 unfold cn at hx
 unfold nZ qT
 refine eG (R:=fun _=>True) (iA (fun _=>iA (fun _=>bH trivial) (fun _=>?_)) (fun _=>bH trivial)) (fun r _=>?_)
 ·unfold qU
  refine eG (R:=fun _=>True) (Cb x.Names.length (by omega) (fun i hi=>?_) ?_) (fun r _=>by cases r<;>exact bH trivial)
  ·unfold j3
   rw[vaj (vbd (by omega))]
   unfold qV
   refine eG (R:=fun _=>True) (Cb i (by omega) (fun k hk=>?_) ?_) (fun r _=>by
    cases r with
    |inl _=>exact bH trivial
    |inr _=>exact bH rfl)
   ·unfold j4
    rw[vaj (vbd (by omega)),cd _ i hi]
    simp only[vaa]
    rw[cd _ k (by omega)]
    simp only[vaa]
    exact iA (fun _=>bH trivial) (fun _=>bH rfl)
   ·unfold j4
    rw[van (by simp)]
    exact bH trivial
  ·unfold j3
   rw[van (by simp)]
   exact bH trivial
 ·cases r with
  |inl _=>exact bH trivial
  | inr _ =>
   simp only
   unfold qW
   refine eG (R:=fun _=>True) (Cb x.Args.length (by omega) (fun i hi=>?_) ?_) (fun r _=>by cases r<;>exact bH trivial)
   ·unfold j5
    rw[vaj (vbd (by omega)),cd _ i hi]
    simp only[vaa]
    exact eG (ih _ (qX (vaw hi)) (by have:=qX (vaw hi);unfold cn;omega)) (fun b _=>iA (fun _=>bH trivial) (fun _=>bH rfl))
   ·unfold j5
    rw[van (by simp)]
    exact bH trivial
theorem Mj(t:ae)(ht:fK t<=cn):uq (Bo t) (fun _=>True):=by
 refine FY (F:=u9) fK (fun x=>fK x<=cn) (fun _ _=>True) (fun R x hx ih=>?_) t ht (ly ht)
 show uq (qb (fun t=>R t) x) _
 unfold qb tf
 have h1:=oZ x
 refine eG (R:=fun _=>True) (Hx x.Args (by unfold cn at hx;omega) (fun i s=>(s,i)) (fun i s y=>(R y).bind fun r=>some (.inl (bA (s+r),bA (i+1)))) id (fun _ _=>True) (fun i s=>rfl) (fun i hi s _=>?_) (fun _ _=>trivial) 1 trivial) (fun a _=>bH trivial)
 exact eG (ih _ (qX (vaw hi)) (by have:=qX (vaw hi);omega)) (fun a _=>bH ⟨_,rfl,trivial⟩)
theorem Pt(l:List ae)(hl:kE l<=cn)(hp:jl (fun p=>nP p<=cn) l):uq (HU l) (fun _=>True):=by
 refine FY (F:=Bq) kE (fun x=>kE x<=cn/\jl (fun p=>nP p<=cn) x) (fun _ _=>True) (fun R l hx ih=>?_) l ⟨hl,hp⟩ (ly hl)
 obtain⟨hl,hp⟩:=hx
 show uq (wr (fun a=>R a) l) _
 unfold wr yC
 have h1:=BA l
 refine eG (Cc l (by unfold cn at hl;omega) _ (fun _=>True) (fun _=>True) (fun i=>rfl) (fun x hx i=>?_)) (fun a _=>by cases a<;>exact bH trivial)
 have hx1:=wB hx
 have hq:=(Jf _ _).1 ((Bt _ _).1 hp _ hx)
 have h2:=oI x
 have h3:=tx x
 refine eG (R:=fun _=>True) ?_ (fun o _=>iA (fun _=>bH trivial) (fun _=>?_))
 ·unfold yB
  rw[KJ]
  exact eG (Mj x (by omega)) fun _ _=>iA (fun _=>bH trivial) fun _=>v6 (a:=(nP x.Pred:Int)) (by rw[rH];exact E6 _ hq.1) (iA (fun _=>bH trivial) fun _=>iA (fun _=>bH trivial) fun _=>iA (fun _=>bH trivial) fun _=>eG (ih x.Args (by omega) ⟨by omega,hq.2.2⟩) fun _ _=>bH trivial)
 ·unfold yD
  refine eG (Cc x.Preds (by unfold cn at hl;omega) _ (fun _=>True) (fun _=>True) (fun i=>rfl) (fun q hq' i=>?_)) (fun a _=>by
   cases a with
   |inl _=>exact bH trivial
   |inr _=>exact bH ⟨rfl,trivial⟩)
  exact v6 (E6 q (hq.2.1 q hq')) (iA (fun _=>bH trivial) (fun _=>bH ⟨rfl,trivial⟩))
theorem PO(l:List aa)(hl:l.length<9223372036854775808)(hp:∀q∈l,nP q<=cn):uq (ws l) (fun r=>(!r)=true\/(l.length<=8/\∀q∈l,nP q<=30)):=by
 unfold ws th
 refine eG (Cc l hl _ (fun q=>nP q<=30) (fun _=>True) (fun i=>rfl) (fun x hx i=>v6 (E6 x (hp x hx)) (iA (fun _=>bH trivial) fun h=>bH ⟨rfl,by
  have:¬((nP x:Int)>30):=fun hc=>h (vbd hc)
  omega⟩))) (fun r hr=>?_)
 cases r with
 |inl _=>exact bH (.inl rfl)
 | inr _ =>
  refine bH ?_
  by_cases h:(l.length:Int)<=8
  ·exact .inr ⟨by omega,hr⟩
  ·exact .inl (by simp;omega)
theorem N7{t:ae}{c:Sb}(ht:wR (af t)<=1048576)(hn:(kN c).Nodup)(hc:nL (kB c)<=1048576):KS t c where
 nd:=hn
 sz:=by have:=DU t;omega
 w:=by have:=OM t;omega
 n:=GU (by omega) _ (Lf 1048576 t ht)
theorem LU{t:ae}{c:Sb}{M:Nat}(ht:wR (af t)<=1048576)(h1:1<=M)(h2:M<=1000)(hc:Lv M c):jG (ww t c) (ww t c)=some true:=by
 refine J1 _ (by rw[LE];have:=DU t;unfold cn;omega) (GV (fun p hp=>?_) _ (Lh 1048576 M h1 t c hc (Li 1048576 t ht)))
 have:1048576 * M<=1048576 * 1000:=vcF _ h2
 exact vaX hp (by unfold cn;omega)
theorem JS{l:List aa}{q:aa}(h:q∈l):nP q<=lB (l.map ac):=by
 have:=Ak (vaq.2 ⟨q,h,rfl⟩:ac q∈l.map ac)
 have:=N3 q
 omega
theorem y0(t:ae)(names:List ag)(m:List aa)(h:wR (af t)+(pm (sl cS names)+(pm (sl ac m)+0))<=1048576):lh t names m=some true:=by
 have e1:pm (sl cS names)=lB (names.map cS)+1:=by simp only[pm,sl]
 have e2:pm (sl ac m)=lB (m.map ac)+1:=by simp only[pm,sl]
 have l1:=Qb names
 have l2:=Qa m
 have ht:wR (af t)<=1048576:=by omega
 have hw:=OM t
 have hlt:=DU t
 have hb:cn=1073741824:=rfl
 have hP:jl (fun p=>nP p<=cn) [t]:=by rw[jl];exact⟨No cn t (by omega),trivial⟩
 have hm:∀q∈m,nP q<=cn:=fun q hq=>by have:=JS hq;omega
 have g:uq (ft names m t) (fun o=>o=true\/(m.length<=8/\∀q∈m,nP q<=30)):=by
  unfold ft
  refine eG (Pt [t] (by simp only[kE];omega) hP) fun b _=>iA (fun _=>bH (.inl rfl)) fun _=>eG (KU t (by omega)) fun b _=>iA (fun _=>bH (.inl rfl)) fun _=>iA (fun _=>bH (.inl rfl)) fun _=>eG (PO m (by omega) hm) fun r hr=>bH ?_
  rcases hr with hr|hr
  ·exact .inl hr
  ·exact .inr hr
 obtain⟨o,eo,ho⟩:=g
 unfold lh
 rw[eo]
 simp only[vaa]
 by_cases hc:o=true
 ·rw[vaj hc,Em];rfl
 obtain⟨h8,h30⟩:=ho.resolve_left hc
 rw[van hc]
 have hj:fu names m t=some false:=by
  unfold fu
  by_cases hn:0<names.length
  ·rw [vaj (by simp only [vai]; omega)]
   by_cases hm0:0<m.length
   ·rw[vaj (by simp only[vai];omega),show dv names (0:Int)=some names[0]from cd names 0 hn,show dv m (0:Int)=some m[0]from cd m 0 hm0]
    simp only[vaa]
    have hq:=JS (vaw hm0)
    have ok:KS t (oB names[0] m[0]):=N7 ht (K6 _ _) (by have:=Q0 names[0] m[0];omega)
    have hf:Lv 30 (oB names[0] m[0]):=fun e he=>by
     unfold oB at he
     split at he
     ·cases he
     ·rw[vaV.1 he];exact h30 _ (vaw hm0)
    rw[ME t _ _ ok,MQ t _ _ ok]
    simp only[vaa]
    rw[LU ht (by omega) (by omega) hf]
    rfl
   ·rw[van (by simp only[vai];omega)]
  ·rw[van (by simp only[vai];omega)]
 rw[hj]
 simp only[vaa,vaP,if_false]
 have hf:Lv 30 (sB names m):=OE h30
 have hlen:=OF names m
 have hn2:=P7 _ hf
 have ok:KS t (sB names m):=N7 ht (K7 _ _) (by
  have:(sB names m).length * 30<=m.length * 30:=vaM _ hlen
  omega)
 rw[Iw t names m (by omega) ok,IF t names m (by omega) ok]
 simp only[vaa]
 rw[LU ht (by omega) (by omega) hf]
 simp only[vaa,if_true]
 rw[Em]
 rfl
end Go.Proofs.YtggeppllafbidaaGreatDoor
