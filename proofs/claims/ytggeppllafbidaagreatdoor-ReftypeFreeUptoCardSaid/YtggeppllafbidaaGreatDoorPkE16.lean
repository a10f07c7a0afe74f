/- PROVED: a part of the proof. Conditions: none. -/
import Derived.Test.YtggeppllafbidaaGreatDoorPkE15
noncomputable section
namespace Go.Proofs.YtggeppllafbidaaGreatDoor
open Go
set_option linter.unusedVariables false
set_option linter.unusedSimpArgs false
theorem ND(t:ae):(⟨t.Op,t.Name,t.Args,t.Names,t.Pred,t.Preds⟩:ae)=t:=by cases t;rfl
theorem LR(t:ae):(⟨t.Op,t.Name,t.Args,t.Names,⟨t.Pred.Op,t.Pred.Name,t.Pred.N,t.Pred.Kids⟩,t.Preds⟩:ae)=t:=by rw[qR,ND]
mutual
def eG:ae->Nat
 |⟨_,_,xs,ns,_,ps⟩=>kq xs+ns.length+ps.length+1
def kq:List ae->Nat
 |[]=>0
 |a::xs=>eG a+kq xs
end
theorem sP(t:ae):eG t=kq t.Args+t.Names.length+t.Preds.length+1:=by obtain⟨o,n,xs,ns,p,ps⟩:=t;rw[eG];rfl
theorem Ky(t:ae):1<=eG t:=by rw[sP];omega
theorem wv:∀{l:List ae} {x:ae},x∈l->eG x<=kq l
 | y :: l,x,h => by
  rw[kq]
  rcases vaD.1 h with rfl|h
  ·omega
  ·have:=wv h;omega
theorem Bz:∀(l:List ae),l.length<=kq l
 |[]=>by simp[kq]
 |p::l=>by rw[kq];have:=Bz l;have:=Ky p;simp only[vaR];omega
theorem lG{t a:ae}(h:a∈t.Args):eG a<eG t:=by rw[sP t];have:=wv h;omega
theorem my(t:ae):t.Args.length<eG t:=by rw[sP];have:=Bz t.Args;omega
theorem wz(t:ae):t.Names.length<eG t:=by rw[sP];omega
theorem wF(t:ae):t.Preds.length<eG t:=by rw[sP];omega
mutual
def G9(Q:aa->Prop):ae->Prop
 |⟨_,_,xs,_,p,ps⟩=>Q p/\(∀q∈ps,Q q)/\tj Q xs
def tj(Q:aa->Prop):List ae->Prop
 |[]=>True
 |a::xs=>G9 Q a/\tj Q xs
end
theorem J9(Q:aa->Prop)(t:ae):G9 Q t↔Q t.Pred/\(∀q∈t.Preds,Q q)/\tj Q t.Args:=by obtain⟨o,n,xs,ns,p,ps⟩:=t;rw[G9];rfl
theorem Bq(Q:aa->Prop):∀(l:List ae),tj Q l↔∀t∈l,G9 Q t
 |[]=>by simp[tj]
 |a::l=>by rw[tj,Bq Q l];simp
theorem T3(l:List aa):l.length<=nK (l.map ac):=by
 have:=BE l
 have:=KD l
 omega
theorem T4(l:List ag):l.length<=nK (l.map cS):=by
 have h:=KL (l.map cS) (fun x hx=>by
  obtain⟨s,_,rfl⟩:=vai.1 hx
  simp only[cS,yY,pm];omega)
 rwa[vaU]at h
theorem FU(t:ae):yY (af t)=1+(pm (.str t.Name)+(pm (sl af t.Args)+(pm (sl cS t.Names)+(1+(pm (.str t.Pred.Name)+(1+(pm (sl ac t.Pred.Kids)+(pm (sl ac t.Preds)+0)))))))):=by
 rw[aU];rfl
mutual
theorem Jj:∀(t:ae),eG t<=yY (af t)
 |⟨o,n,xs,ns,p,ps⟩=>by
  have h1:=Kx xs
  have h2:=T3 ps
  have h3:=T4 ns
  rw[eG,FU]
  show _<=1+(pm (.str n)+(pm (sl af xs)+(pm (sl cS ns)+(1+(pm (.str p.Name)+(1+(pm (sl ac p.Kids)+(pm (sl ac ps)+0))))))))
  simp only[pm,sl]
  omega
theorem Kx:∀(l:List ae),kq l<=nK (l.map af)
 |[]=>by simp[kq]
 |a::l=>by
  have:=Jj a
  have:=Kx l
  rw[kq]
  simp only[vaB,nK]
  omega
end
theorem Id(a b:List ag)(ha:a.length<9223372036854775808):n9 a b=some (decide (a=b)):=by
 unfold n9
 by_cases hl:a.length=b.length
 ·rw[vat (by simp[hl])]
  unfold uj
  rw[HY hl ha (fun zz=>qo a b (a.length:Int) zz) (fun i x z=>if(!(x==z))=true then some (.inr (.inl ()))else some (.inl (bL (i+1)))) (fun x y=>decide (x=y)) (.inl ()) (.inr ()) (fun i=>rfl) (fun x _ z _ i=>by by_cases h:x=z<;>simp[h]),Ms]
  by_cases h:a=b<;>simp[h]
 ·rw[vap (by simp;omega),decide_eq_false (fun he=>hl (by rw[he]))]
section
variable{α β σ τ X Y:Type}
theorem ky{A:Type}(l:List α)(hl:l.length<9223372036854775808){body:Int->Option (Int⊕(A⊕Unit))}(k:Int->α->Option (Int⊕(A⊕Unit)))(P:α->Prop)(B:A->Prop)
  (hb:∀(i:Int),body i=if decide (i<(l.length:Int))=true then(dT l i).bind (k i)else some (.inr (.inr ())))
  (hk:∀x∈l,∀i,ga (k i x) (fun r=>r.elim (fun t=>t=bL (i+1)/\P x) (fun y=>y.elim B (fun _=>False)))):ga (loop body 0) (fun r=>r.elim B (fun _=>∀x∈l,P x)):=by
 refine Oh l hl k (.inr ()) (fun i=>∀j (h:j<l.length),j<i->P l[j]) hb (fun i hi hI=>(hk _ (vaw hi) i).mono fun r hr=>?_) (fun hI x hx=>?_) (fun j _ h=>absurd h (vaL _))
 ·cases r with
  | inl t =>
   refine⟨hr.1,fun j hj h=>?_⟩
   by_cases he:j=i
   ·subst he;exact hr.2
   ·exact hI j hj (by omega)
  |inr y=>cases y with
   |inl a=>exact hr
   |inr u=>exact hr.elim
 ·obtain⟨j,hj,rfl⟩:=vcB hx
  exact hI j hj hj
end
theorem ph{a b:List ag}{x:ag}:x∈tV a b↔x∈a\/x∈b:=(zf a b).2 x
theorem AQ(a b:List ag):Eg (tV a b):=(zf a b).1
theorem Gm{a b c d:List ag}(h:∀x,(x∈a\/x∈b)↔(x∈c\/x∈d)):tV a b=tV c d:=
 sO (AQ a b) (AQ c d) fun x=>by rw[ph,ph];exact h x
theorem Rd{l a b:List ag}(hl:Eg l)(h:∀x,x∈l↔x∈a\/x∈b):l=tV a b:=sO hl (AQ a b) fun x=>by rw[ph];exact h x
theorem Gn(a b:List ag):(tV a b).length<=a.length+b.length:=by
 have h1:=Cx (iN (a++b))
 have h2:=ls (a++b)
 rw[vaq]at h2
 unfold tV
 omega
theorem QW(x:ag):Eg [x]:=by simp[Eg]
theorem QV:Eg ([]:List ag):=by simp[Eg]
def xu{α σ:Type}(g:Nat->α->σ->σ):List α->Nat->σ->σ
 |[],_,s=>s
 |x::l,i,s=>xu g l (i+1) (g i x s)
theorem L1{α σ τ X:Type}(l:List α)(hl:l.length<9223372036854775808)(mk:Int->σ->τ)(body:τ->Option (τ⊕X))(k:Int->σ->α->Option (τ⊕X))(I:Nat->σ->Prop)(g:Nat->α->σ->σ)(e:σ->X)(s0:σ)(h0:I 0 s0)
  (hb:∀(i:Int) (s:σ),body (mk i s)=if decide (i<(l.length:Int))=true then(dT l i).bind (k i s)else some (.inr (e s)))
  (hin:∀(i:Nat) (h:i<l.length) s,I i s->k i s l[i]=some (.inl (mk (bL ((i:Int)+1)) (g i l[i] s)))/\I (i+1) (g i l[i] s)):loop body (mk 0 s0)=some (e (xu g l 0 s0)):=by
 have:=jQ l hl mk body I (fun i x s=>.inl (g i x s)) e (fun i h s hs=>⟨?_,fun s' hs'=>by cases hs';exact(hin i h s hs).2⟩) (fun s hs=>by rw[hb,vat (by simp)]) 0 s0 (vaI _) h0
 ·rw[vbk,show((0:Nat):Int)=0 from rfl]at this
  rw[this]
  have key:∀(l:List α) (i:Nat) (s:σ),lm (fun i x (s:σ)=>(Sum.inl (g i x s):σ⊕X)) e l i s=e (xu g l i s):=by
   intro l
   induction l with
   |nil=>intro i s;rfl
   |cons x l ih=>intro i s;unfold lm;simp only;rw[ih];rfl
  rw[key]
 ·rw[hb,vap (by simp;omega),cB l i h]
  simp only[vab]
  exact(hin i h s hs).1
mutual
def rD:aa->List ag
 |⟨o,n,k,ks⟩=>(if o=3 then[n]else[])++xa ks
def xa:List aa->List ag
 |[]=>[]
 |p::ps=>rD p++xa ps
end
theorem SQ(p:aa):rD p=(if p.Op=3 then[p.Name]else[])++xa p.Kids:=by obtain⟨o,n,k,ks⟩:=p;rw[rD];rfl
theorem JG{x:ag}:∀{l:List aa},x∈xa l↔∃p∈l,x∈rD p
 |[]=>by simp[xa]
 |p::l=>by rw[xa,vau,JG];simp
mutual
theorem Ec:∀(p:aa),(rD p).length<=nP p
 |⟨o,n,k,ks⟩=>by
  have:=JE ks
  rw[rD,nP,vaq]
  split<;>simp<;>omega
theorem JE:∀(l:List aa),(xa l).length<=nL l
 |[]=>by simp[xa]
 |p::l=>by
  have:=Ec p
  have:=JE l
  rw[xa,nL,vaq];omega
end
mutual
theorem K7:∀(p:aa) (s:List ag),nP p<=cm->s.length+(rD p).length<=1073741824->Hy mE p s=some (true,s++rD p)
 | ⟨o,n,k,ks⟩,s,hp,hs => by
  rw[nP]at hp
  rw[rD,vaq]at hs
  have hk:=BE ks
  have h1:mE s ⟨o,n,k,ks⟩=some (true,s++(if o=3 then[n]else[])):=by
   unfold mE
   show(if(o==3)=true then(app s [n]).bind fun l=>some (true,l)else some (true,s))=_
   by_cases h:o=3
   ·rw[vap (by simpa using h),vap h,ec (by rw[vap h]at hs;simp at hs ⊢;omega)]
    rfl
   ·rw[vat (by simpa using h),vat h,vbm]
  have h2:=Ik ks (s++(if o=3 then[n]else[])) (by omega) (by rw[vaq];omega)
  rw[Hy,h1]
  simp only[vab]
  rw[vap (by unfold cm at hp;omega),h2,rD,vbi]
theorem Ik:∀(l:List aa) (s:List ag),nL l<=cm->s.length+(xa l).length<=1073741824->JD mE l s=some (true,s++xa l)
 |[],s,_,_=>by rw[JD,xa,vbm]
 |p::l,s,hp,hs=>by
  rw[nL]at hp
  rw[xa,vaq]at hs
  rw[JD,K7 p s (by omega) (by omega)]
  simp only[vab]
  rw[Ik l _ (by omega) (by rw[vaq];omega),xa,vbi]
end
def fE(p:aa):List ag:=tV (rD p) []
theorem qS{p:aa}{x:ag}:x∈fE p↔x∈rD p:=by unfold fE;rw[ph];simp
theorem nV(p:aa):(fE p).length<=nP p:=by
 have h1:=Gn (rD p) []
 have h2:=Ec p
 unfold fE
 simp at h1
 omega
theorem KI(p:aa)(hp:nP p<=400000000):lP p=some (fE p):=by
 have h:=Ec p
 unfold lP
 rw[K7 p [] (by unfold cm;omega) (by simp;omega)]
 simp only[vab,va1]
 rw[vw _ _ (by simp;omega)]
 rfl
theorem CA{α:Type}(f:α->List ag):∀(l:List α) (s:List ag),Eg s->Eg (l.foldl (fun s x=>tV s (f x)) s)/\∀x,x∈l.foldl (fun s x=>tV s (f x)) s↔x∈s\/∃y∈l,x∈f y
 |[],s,h=>⟨h,by simp⟩
 |y::l,s,h=>by
  obtain⟨h1,h2⟩:=CA f l (tV s (f y)) (AQ _ _)
  refine⟨h1,fun x=>?_⟩
  rw[List.foldl_cons,h2,ph]
  simp only[vaD,exists_eq_or_imp,or_assoc]
theorem PR(p:aa)(hp:nP p<=200000000):Ev p=some (fE p):=by
 refine nH (F:=yo) nP (fun x=>nP x<=200000000) fE (fun R x hx ih=>?_) p hp (kb (by unfold cm;omega))
 show rY (fun p=>R p) x=_
 unfold rY ut
 rw[show(if(x.Op==3)=true then some ([x.Name]:List ag)else some ([]:List ag))=some (if x.Op=3 then[x.Name]else[]) by by_cases h:x.Op=3<;>simp[h]]
 simp only[vab]
 unfold uu
 have hlen:=oH x
 have hn:=H1 x
 have h0:(if x.Op=3 then[x.Name]else[]:List ag).length<=1:=by split<;>simp
 have hi0:Eg (if x.Op=3 then[x.Name]else[]:List ag):=by split;exact QW _;exact QV
 rw[lK x.Kids (by omega) (fun i s=>(s,i)) _ (fun i s y=>(R y).bind fun r=>(nR s r).bind fun r6=>some (.inl (r6,bL (i+1)))) (fun i s=>s.length<=1+nL (x.Kids.take i)) (fun y s=>tV s (fE y)) id (if x.Op=3 then[x.Name]else[]) (by simpa[nL]using h0) (fun i s=>rfl) (fun i hi s hs=>?_)]
 ·simp only[id,vab]
  obtain⟨f1,f2⟩:=CA fE x.Kids (if x.Op=3 then[x.Name]else[]) hi0
  congr 1
  refine Rd f1 fun y=>?_
  rw[f2,SQ,vau,JG]
  simp only[qS,vbv,or_false]
 ·have hm:=vaw hi
  have hk:=oG hm
  have h1:=zR x.Kids i hi
  have h2:=oJ x.Kids (i+1)
  have h3:=nV x.Kids[i]
  refine⟨?_,?_⟩
  ·rw[ih _ hk (by omega)]
   simp only[vab]
   rw[zq _ _ (by omega) (by omega)]
   rfl
  ·have:=Gn s (fE x.Kids[i])
   omega
def mA(o:Int)(ns:List ag)(i:Nat):List ag:=if o=6 then ns.take i else[]
mutual
def vT:ae->List ag
 |⟨o,n,xs,ns,p,ps⟩=>(rD p++xa ps).filter (fun s=>!(s==[118]))++On o ns 0 xs
def On(o:Int)(ns:List ag):Nat->List ae->List ag
 |_,[]=>[]
 |i,a::xs=>(vT a).filter (fun s=>!decide (s∈mA o ns i))++On o ns (i+1) xs
end
theorem RI(t:ae):vT t=(rD t.Pred++xa t.Preds).filter (fun s=>!(s==[118]))++On t.Op t.Names 0 t.Args:=by obtain⟨o,n,xs,ns,p,ps⟩:=t;rw[vT];rfl
mutual
def wT:ae->Nat
 |⟨_,_,xs,_,p,ps⟩=>nP p+nL ps+tg xs
def tg:List ae->Nat
 |[]=>0
 |a::xs=>wT a+tg xs
end
theorem M9(t:ae):wT t=nP t.Pred+nL t.Preds+tg t.Args:=by obtain⟨o,n,xs,ns,p,ps⟩:=t;rw[wT];rfl
theorem M8:∀{l:List ae} {x:ae},x∈l->wT x<=tg l
 | y :: l,x,h => by
  rw[tg]
  rcases vaD.1 h with rfl|h
  ·omega
  ·have:=M8 h;omega
theorem Ru{t a:ae}(h:a∈t.Args):wT a<=wT t:=by rw[M9 t];have:=M8 h;omega
theorem K9(l:List ae)(i:Nat)(h:i<l.length):tg (l.take (i+1))=tg (l.take i)+wT l[i]:=by
 have key:∀(a b:List ae),tg (a++b)=tg a+tg b:=by
  intro a b
  induction a with
  |nil=>simp[tg]
  |cons x a ih=>rw[vbu,tg,tg,ih];omega
 rw[va2 h,key]
 simp[tg]
theorem CW:∀(l:List ae) (i:Nat),tg (l.take i)<=tg l
 |[],i=>by simp
 |x::l,0=>by simp[tg]
 |x::l,i+1=>by rw[List.take_succ_cons,tg,tg];have:=CW l i;omega
mutual
theorem P0:∀(t:ae),(vT t).length<=wT t
 |⟨o,n,xs,ns,p,ps⟩=>by
  have h1:=M6 o ns 0 xs
  have h2:=Ec p
  have h3:=JE ps
  have h4:=vaQ (fun s=>!(s==[118])) (rD p++xa ps)
  rw[vT,wT,vaq]
  rw[vaq]at h4
  omega
theorem M6(o:Int)(ns:List ag):∀(i:Nat) (l:List ae),(On o ns i l).length<=tg l
 |i,[]=>by simp[On]
 |i,a::xs=>by
  have h1:=P0 a
  have h2:=M6 o ns (i+1) xs
  have h3:=vaQ (fun s=>!decide (s∈mA o ns i)) (vT a)
  rw[On,tg,vaq]
  omega
end
def freeT(t:ae):List ag:=tV (vT t) []
theorem wu{t:ae}{x:ag}:x∈freeT t↔x∈vT t:=by unfold freeT;rw[ph];simp
theorem lI(t:ae):(freeT t).length<=wT t:=by
 have h1:=Gn (vT t) []
 have h2:=P0 t
 unfold freeT
 simp at h1
 omega
theorem M7{o:Int}{ns:List ag}{x:ag}:∀{l:List ae} {i:Nat},x∈On o ns i l↔∃(j:Nat) (h:j<l.length),x∈vT l[j]/\x∉mA o ns (i+j)
 |[],i=>by simp[On]
 | a :: l,i => by
  rw[On,vau,M7]
  simp only[vaG,vaZ,vbh]
  constructor
  ·rintro(h|⟨j,hj,h1,h2⟩)
   ·exact⟨0,by simp,by simpa using h⟩
   ·exact⟨j+1,by simp;omega,by simpa using h1,by rw[show i+(j+1)=i+1+j by omega];exact h2⟩
  ·rintro⟨j,hj,h1,h2⟩
   cases j with
   |zero=>exact .inl ⟨by simpa using h1,by simpa using h2⟩
   |succ j=>exact .inr ⟨j,by simp at hj;omega,by simpa using h1,by rw[show i+1+j=i+(j+1) by omega];exact h2⟩
theorem Re{α:Type}(l:List α)(i:Nat)(hl:l.length<9223372036854775808):GA l none (some (if(l.length:Int)<(i:Int)then(l.length:Int)else(i:Int)))=some (l.take i):=by
 by_cases h:l.length<i
 ·rw[vap (by omega),PX l l.length (van _),vbe (van _),vbe (by omega)]
 ·rw[vat (by omega),PX l i (by omega)]
theorem No(t:ae)(i:Nat)(h:t.Names.length<9223372036854775808):iK t i=some (mA t.Op t.Names i):=by
 unfold iK mA
 by_cases ho:t.Op=6
 ·rw[vat (by simpa using ho),Re _ i h,vap ho]
  rfl
 ·rw[vap (by simpa using ho),vat ho]
theorem Bx(f:ag->Bool):∀(l a:List ag),l.foldl (fun s x=>if f x=true then s++[x]else s) a=a++l.filter f
 |[],a=>by simp
 |x::l,a=>by
  rw[List.foldl_cons,Bx f l]
  by_cases h:f x=true<;>simp[h]
theorem Ff{α:Type}(f:α->List ag):∀(l:List α) (a:List ag),l.foldl (fun s x=>s++f x) a=a++l.flatMap f
 |[],a=>by simp
 |x::l,a=>by rw[List.foldl_cons,Ff f l,vcg,vbi]
theorem HR{α:Type}(f:Nat->α->List ag):∀(l:List α) (i:Nat) (a:List ag) (x:ag),x∈xu (fun i y s=>s++f i y) l i a↔x∈a\/∃(j:Nat) (h:j<l.length),x∈f (i+j) l[j]
 |[],i,a,x=>by simp[xu]
 | y :: l,i,a,x => by
  rw[xu,HR f l (i+1),vau,or_assoc]
  refine or_congr_right ⟨?_,?_⟩
  ·rintro(h|⟨j,hj,h⟩)
   ·exact⟨0,by simp,by simpa using h⟩
   ·exact⟨j+1,by simp;omega,by rw[show i+(j+1)=i+1+j by omega];simpa using h⟩
  ·rintro⟨j,hj,h⟩
   cases j with
   |zero=>exact .inl (by simpa using h)
   |succ j=>exact .inr ⟨j,by simp at hj;omega,by rw[show i+1+j=i+(j+1) by omega];simpa using h⟩
theorem N5(l out:List ag)(h:out.length+l.length<=1073741824):gG l (l.length:Int) out 0=some (out++l.filter (fun s=>!(s==[118]))):=by
 unfold gG
 rw[lK l (by omega) (fun i s=>(s,i)) _ (fun i s x=>if(!(x==([118]:ag)))=true then(app s ([x]:List ag)).bind fun l8=>some (.inl (l8,bL (i+1)))else some (.inl (s,bL (i+1)))) (fun i s=>s.length<=out.length+i) (fun x s=>if(!(x==[118]))=true then s++[x]else s) id out (by simp) (fun i s=>rfl) (fun i hi s hs=>?_),Bx]
 ·rfl
 ·refine⟨?_,by split<;>(try rw[vaq,List.length_singleton])<;>omega⟩
  by_cases hx:(!(l[i]==([118]:ag)))=true
  ·rw[vap hx,vap hx,ec (by simp;omega)]
   rfl
  ·rw[vat hx,vat hx]
theorem N6(b l out:List ag)(hb:b.length<9223372036854775808)(h:out.length+l.length<=1073741824):gH b l (l.length:Int) out 0=some (out++l.filter (fun s=>!decide (s∈b))):=by
 unfold gH
 rw[lK l (by omega) (fun i s=>(s,i)) _ (fun i s x=>(dz b x).bind fun r17=>if(!r17)=true then(app s ([x]:List ag)).bind fun l8=>some (.inl (l8,bL (i+1)))else some (.inl (s,bL (i+1)))) (fun i s=>s.length<=out.length+i) (fun x s=>if(!decide (x∈b))=true then s++[x]else s) id out (by simp) (fun i s=>rfl) (fun i hi s hs=>?_),Bx]
 ·rfl
 ·refine⟨?_,by split<;>(try rw[vaq,List.length_singleton])<;>omega⟩
  rw[pM b _ hb]
  simp only[vab]
  by_cases hx:(!decide (l[i]∈b))=true
  ·rw[vap hx,vap hx,ec (by simp;omega)]
   rfl
  ·rw[vat hx,vat hx]
theorem Oa{p:aa}{ps:List aa}{x:ag}:(∃q∈[p]++ps,x∈rD q)↔x∈rD p++xa ps:=by
 rw[vau,JG]
 simp
theorem Sw(p:aa)(ps:List aa):nL ([p]++ps)=nP p+nL ps:=by
 rw[qW];simp[nL]
theorem BT(t:ae)(hw:wT t<=200000000)(hl:eG t<=200000000):ez t=some (freeT t):=by
 refine nH (F:=o0) eG (fun x=>wT x<=200000000/\eG x<=200000000) freeT (fun R x hx ih=>?_) t ⟨hw,hl⟩ (kb (by unfold cm;omega))
 obtain⟨hw,hl⟩:=hx
 show la (fun t=>R t) x=_
 have h1:=my x
 have h2:=wz x
 have h3:=wF x
 have hwe:=M9 x
 have hn1:=Sw x.Pred x.Preds
 unfold la
 rw[ec (by simp;omega)]
 simp only[vab]
 unfold mW
 rw[lK ([x.Pred]++x.Preds) (by simp;omega) (fun i s=>(s,i)) _ (fun i s y=>(lP y).bind fun r4=>(gG r4 (r4.length:Int) s 0).bind fun o9=>some (.inl (o9,bL (i+1)))) (fun i s=>s.length<=nL (([x.Pred]++x.Preds).take i)) (fun y s=>s++(fE y).filter (fun s=>!(s==[118]))) id [] (by simp[nL]) (fun i s=>rfl) (fun i hi s hs=>?_),Ff]
 ·simp only[id,vab,va1]
  have hlen0:∀(l:List aa),(l.flatMap fun y=>(fE y).filter (fun s=>!(s==[118]))).length<=nL l:=by
   intro l
   induction l with
   |nil=>simp[nL]
   |cons y l ih=>
    have g1:=vaQ (fun s=>!(s==[118])) (fE y)
    have g2:=nV y
    rw[vcg,vaq,nL]
    omega
  have hlen:=hlen0 ([x.Pred]++x.Preds)
  have hmem:∀z,z∈(([x.Pred]++x.Preds).flatMap fun y=>(fE y).filter (fun s=>!(s==[118])))↔z∈(rD x.Pred++xa x.Preds).filter (fun s=>!(s==[118])):=by
   intro z
   rw[vcm,vaG,<-Oa]
   simp only[vaG,qS]
   constructor
   ·rintro⟨y,hy,h,h'⟩;exact⟨⟨y,hy,h⟩,h'⟩
   ·rintro⟨⟨y,hy,h⟩,h'⟩;exact⟨y,hy,h,h'⟩
  generalize (([x.Pred]++x.Preds).flatMap fun y=>(fE y).filter (fun s=>!(s==[118])))=o10 at hlen hmem
  unfold mX
  have hI:∀(i:Nat) (h:i<x.Args.length) (s:List ag),s.length<=o10.length+tg (x.Args.take i)->(s++(freeT x.Args[i]).filter (fun z=>!decide (z∈mA x.Op x.Names i))).length<=o10.length+tg (x.Args.take (i+1)):=fun i h s hs=>by
   have g1:=vaQ (fun z=>!decide (z∈mA x.Op x.Names i)) (freeT x.Args[i])
   have g2:=lI x.Args[i]
   have g3:=K9 x.Args i h
   rw[vaq];omega
  rw[L1 x.Args (by omega) (fun i s=>(s,i)) _ (fun i s y=>(iK x i).bind fun r13=>(R y).bind fun r14=>(gH r13 r14 (r14.length:Int) s 0).bind fun o20=>some (.inl (o20,bL (i+1)))) (fun i s=>s.length<=o10.length+tg (x.Args.take i)) (fun i y s=>s++(freeT y).filter (fun z=>!decide (z∈mA x.Op x.Names i))) id o10 (by simp[tg]) (fun i s=>rfl) (fun i hi s hs=>⟨?_,hI i hi s hs⟩)]
  ·simp only[id,vab]
   have hlast:(xu (fun i y s=>s++(freeT y).filter (fun z=>!decide (z∈mA x.Op x.Names i))) x.Args 0 o10).length<=o10.length+tg x.Args:=by
    have key:∀(l:List ae) (i:Nat) (a:List ag),(xu (fun i y s=>s++(freeT y).filter (fun z=>!decide (z∈mA x.Op x.Names i))) l i a).length<=a.length+tg l:=by
     intro l
     induction l with
     |nil=>intro i a;simp[xu]
     |cons y l ih=>
      intro i a
      have g1:=vaQ (fun z=>!decide (z∈mA x.Op x.Names i)) (freeT y)
      have g2:=lI y
      have g3:=ih (i+1) (a++(freeT y).filter (fun z=>!decide (z∈mA x.Op x.Names i)))
      rw[xu,tg]
      rw[vaq]at g3
      omega
    exact key x.Args 0 o10
   rw[vw _ _ (by simp;exact vaV hlast (by omega))]
   simp only[vab]
   congr 1
   refine Gm fun z=>?_
   rw[HR,RI,vau,hmem,M7]
   simp only[vaG,wu,vaZ,vbh,vbv,or_false]
  ·have hm:=vaw hi
   have g2:=lI x.Args[i]
   have g3:=K9 x.Args i hi
   have g4:=CW x.Args (i+1)
   have g5:=lG hm
   have g6:=Ru hm
   rw[No x i (by omega)]
   simp only[vab]
   rw[ih _ g5 ⟨by omega,by omega⟩]
   simp only[vab]
   have hbl:(mA x.Op x.Names i).length<9223372036854775808:=by
    unfold mA
    split
    ·rw[va3];omega
    ·simp
   rw[N6 _ _ _ hbl (by omega)]
   rfl
 ·have hm:=vaw hi
  have g1:=zR ([x.Pred]++x.Preds) i hi
  have g2:=oJ ([x.Pred]++x.Preds) (i+1)
  have g3:=nV ([x.Pred]++x.Preds)[i]
  have g4:=vaQ (fun s=>!(s==[118])) (fE ([x.Pred]++x.Preds)[i])
  refine⟨?_,by rw[vaq];omega⟩
  rw[KI _ (by omega)]
  simp only[vab]
  rw[N5 _ _ (by omega)]
  rfl
theorem KC{σ τ X:Type}(n:Nat)(hn:n<9223372036854775808)(mk:Int->σ->τ)(body:τ->Option (τ⊕X))(F:Nat->σ)(y:X)
  (hin:∀i,i<n->body (mk (i:Int) (F i))=some (.inl (mk (bL ((i:Int)+1)) (F (i+1))))) (hend:body (mk (n:Int) (F n))=some (.inr y)):loop body (mk 0 (F 0))=some y:=by
 have key:∀k i,k+i=n->loop body (mk (i:Int) (F i))=some y:=by
  intro k
  induction k with
  |zero=>
   intro i hi
   have:i=n:=by omega
   subst this
   exact lJ hend
  |succ k ih=>
   intro i hi
   rw[nX (hin i (by omega)),kn (by omega) (by omega),show((i:Int)+1)=((i+1:Nat):Int) by omega]
   exact ih (i+1) (by omega)
 exact key n 0 (by omega)
abbrev Sb:Type:=List (ag×aa)
abbrev kN(c:Sb):List ag:=c.map (·.1)
abbrev kB(c:Sb):List aa:=c.map (·.2)
def Hx(x:ag):aa:=⟨3,x,0,[]⟩
def cR(x:ag)(c:Sb):Sb:=c.filter (fun e=>!(e.1==x))
def yH(x:ag)(c:Sb):Bool:=c.any (fun e=>decide (x∈rD e.2))
abbrev S3:Type:=List ag×Sb×List ag
def wo(o:Int)(ns:List ag)(i:Nat)(s:S3):S3:=
 if o=6/\i<ns.length then
  if yH (ns.getD i []) (cR (ns.getD i []) s.2.1)=true then
   (s.1++[oE s.1 (ns.getD i [])],cR (ns.getD i []) s.2.1++[(ns.getD i [],Hx (oE s.1 (ns.getD i [])))],s.2.2.set i (oE s.1 (ns.getD i [])))
  else(s.1,cR (ns.getD i []) s.2.1,s.2.2)
 else s
mutual
def vg:ae->Sb->ae
 |⟨o,n,xs,ns,p,ps⟩,c=>
  ⟨o,n,(HJ o ns 0 xs (((kB c).flatMap fE++freeT ⟨o,n,xs,ns,p,ps⟩)++ns,c,ns)).1,(HJ o ns 0 xs (((kB c).flatMap fE++freeT ⟨o,n,xs,ns,p,ps⟩)++ns,c,ns)).2,Ea (kC (kN c) (kB c)) p,ps.map (Ea (kC (kN c) (kB c)))⟩
def HJ(o:Int)(ns:List ag):Nat->List ae->S3->List ae×List ag
 |_,[],s=>([],s.2.2)
 |i,a::xs,s=>(vg a s.2.1::(HJ o ns (i+1) xs (wo o ns i s)).1,(HJ o ns (i+1) xs (wo o ns i s)).2)
end
def eV(o:Int)(ns:List ag)(s:S3):Nat->S3
 |0=>s
 |i+1=>wo o ns i (eV o ns s i)
def ba(t:ae)(c:Sb):S3:=(((kB c).flatMap fE++freeT t)++t.Names,c,t.Names)
theorem OR(o:Int)(ns:List ag)(s:S3):∀(xs:List ae) (i:Nat),HJ o ns i xs (eV o ns s i)=((xs.zipIdx i).map (fun y=>vg y.1 (eV o ns s y.2).2.1),(eV o ns s (i+xs.length)).2.2)
 |[],i=>by rw[HJ];rfl
 |a::xs,i=>by
  have ih:=OR o ns s xs (i+1)
  rw[HJ,show wo o ns i (eV o ns s i)=eV o ns s (i+1)from rfl,ih,List.zipIdx_cons,vaB,vaR,show i+1+xs.length=i+(xs.length+1) by omega]
theorem LC(t:ae)(c:Sb):vg t c=⟨t.Op,t.Name,(t.Args.zipIdx).map (fun y=>vg y.1 (eV t.Op t.Names (ba t c) y.2).2.1),(eV t.Op t.Names (ba t c) t.Args.length).2.2,Ea (kC (kN c) (kB c)) t.Pred,t.Preds.map (Ea (kC (kN c) (kB c)))⟩:=by
 obtain⟨o,n,xs,ns,p,ps⟩:=t
 have h:=OR o ns (ba ⟨o,n,xs,ns,p,ps⟩ c) xs 0
 rw[show eV o ns (ba ⟨o,n,xs,ns,p,ps⟩ c) 0=(((kB c).flatMap fE++freeT ⟨o,n,xs,ns,p,ps⟩)++ns,c,ns)from rfl,vaE]at h
 rw[vg,h]
 rfl
def OP(t:ae)(c:Sb)(i:Nat):List ae:=((t.Args.take i).zipIdx).map (fun y=>vg y.1 (eV t.Op t.Names (ba t c) y.2).2.1)
theorem OQ(t:ae)(c:Sb)(i:Nat)(h:i<t.Args.length):OP t c (i+1)=OP t c i++[vg t.Args[i] (eV t.Op t.Names (ba t c) i).2.1]:=by
 unfold OP
 rw[va2 h,List.zipIdx_append,vbP,va3]
 rw[show min i t.Args.length=i by omega]
 simp[List.zipIdx_cons]
theorem QG(t:ae)(c:Sb)(i:Nat)(h:i<=t.Args.length):(OP t c i).length=i:=by
 unfold OP
 rw[vaU,List.length_zipIdx,va3]
 omega
theorem QF(t:ae)(c:Sb):OP t c t.Args.length=(t.Args.zipIdx).map (fun y=>vg y.1 (eV t.Op t.Names (ba t c) y.2).2.1):=by
 unfold OP
 rw[vbe (van _)]
theorem Ji(x:ag):∀(c:Sb),kN (cR x c)=(kN c).filter (fun n=>!(n==x))
 |[]=>rfl
 | e :: c => by
  have ih:=Ji x c
  unfold cR kN at ih ⊢
  rw[vbc,vaB,vbc]
  split
  ·rw[vaB,ih]
  ·exact ih
theorem O0(x:ag)(c:Sb):x∉kN (cR x c):=by rw[Ji];simp
theorem yJ{x:ag}{c:Sb}(h:(kN c).Nodup):(kN (cR x c)).Nodup:=by rw[Ji];exact h.filter _
theorem LP(x:ag)(c:Sb):cR x (cR x c)=cR x c:=by
 unfold cR
 rw[vb4]
 congr 1
 funext e
 cases(e.1==x)<;>rfl
theorem Jl(x:ag):∀(c:Sb),nL (kB (cR x c))<=nL (kB c)
 |[]=>by simp[cR,kB]
 | e :: c => by
  have ih:=Jl x c
  unfold cR kB at ih ⊢
  rw[vbc]
  split
  ·rw[vaB,vaB,nL,nL];omega
  ·rw[vaB,nL];omega
theorem LY(c:Sb):c.length<=nL (kB c):=by
 have:=BE (kB c)
 rwa[vaU]at this
theorem Pt(x:ag):nP (Hx x)=1:=by simp[Hx,nP,nL]
theorem QZ(c:Sb)(e:ag×aa):nL (kB (c++[e]))=nL (kB c)+nP e.2:=by
 unfold kB
 rw[vbP,qW];simp[nL]
theorem Bu(o:Int)(ns:List ag)(s:S3)(h:(kN s.2.1).Nodup):∀i,(kN (eV o ns s i).2.1).Nodup
 |0=>h
 | i + 1 => by
  have ih:=Bu o ns s h i
  show(kN (wo o ns i (eV o ns s i)).2.1).Nodup
  unfold wo
  split
  ·split
   ·unfold kN
    rw[vbP]
    simp only[vaB,vb6]
    rw[List.nodup_append]
    refine⟨yJ ih,by simp,fun a ha b hb=>?_⟩
    rw[vaJ]at hb
    subst hb
    exact fun e=>O0 _ _ (e▸ha)
   ·exact yJ ih
  ·exact ih
theorem OS(o:Int)(ns:List ag)(s:S3):∀i,nL (kB (eV o ns s i).2.1)<=nL (kB s.2.1)+min i ns.length
 |0=>by simp[eV]
 | i + 1 => by
  have ih:=OS o ns s i
  show nL (kB (wo o ns i (eV o ns s i)).2.1)<=_
  have hd:=Jl (ns.getD i []) (eV o ns s i).2.1
  unfold wo
  split
  ·rename_i hc
   split
   ·show nL (kB (cR (ns.getD i []) (eV o ns s i).2.1++[(ns.getD i [],Hx (oE (eV o ns s i).1 (ns.getD i [])))]))<=_
    rw[QZ,Pt]
    omega
   ·show nL (kB (cR (ns.getD i []) (eV o ns s i).2.1))<=_
    omega
  ·omega
theorem OT(o:Int)(ns:List ag)(s:S3):∀i,(eV o ns s i).1.length<=s.1.length+i
 |0=>by simp[eV]
 | i + 1 => by
  have ih:=OT o ns s i
  show(wo o ns i (eV o ns s i)).1.length<=_
  unfold wo
  split
  ·split
   ·simp only[vaq,List.length_singleton];omega
   ·simp only;omega
  ·omega
theorem My(o:Int)(ns:List ag)(s:S3):∀i,(eV o ns s i).2.2.length=s.2.2.length
 |0=>rfl
 | i + 1 => by
  have ih:=My o ns s i
  show(wo o ns i (eV o ns s i)).2.2.length=_
  unfold wo
  split
  ·split
   ·simp only[vbF];exact ih
   ·exact ih
  ·exact ih
theorem wt:∀(l:List aa),(l.flatMap fE).length<=nL l
 |[]=>by simp[nL]
 |p::l=>by
  have:=wt l
  have:=nV p
  rw[vcg,vaq,nL];omega
theorem M4(t:ae)(c:Sb):(ba t c).1.length<=nL (kB c)+wT t+eG t:=by
 have h1:=wt (kB c)
 have h2:=lI t
 have h3:=wz t
 unfold ba
 simp only[vaq]
 omega
theorem LJ(x:ag)(c:Sb):decide (x∈(kB c).flatMap fE)=yH x c:=by
 unfold yH
 rw[Bool.eq_iff_iff,vaj,vbn,vcm]
 simp only[qS,vaj,kB,vai]
 constructor
 ·rintro⟨p,⟨e,he,rfl⟩,h⟩;exact⟨e,he,h⟩
 ·rintro⟨e,he,h⟩;exact⟨e.2,⟨e,he,rfl⟩,h⟩
theorem Pc{α:Type}(n:Nat)(l:List α)(i:Nat)(h:i<n)(h2:i<l.length):P9 n l (i:Int)=some l[i]:=by
 unfold P9
 rw[vap ⟨by omega,by omega⟩]
 simp[h2]
theorem SN{α:Type}(l:List α)(i:Nat)(x:α)(h:i<l.length):S2 l (i:Int) x=some (l.set i x):=by
 unfold S2
 rw[vap ⟨by omega,by omega⟩]
 rfl
theorem Sr{α:Type}(n:Nat)(l:List α)(h:n=l.length):S0 n l=some l:=vap h
theorem pQ(ns:List ag)(i:Nat)(h:i<ns.length):ns.getD i []=ns[i]:=by simp[h]
mutual
def Dr(L:Nat):ae->Prop
 |⟨_,_,xs,ns,_,_⟩=>(∀s∈ns,s.length<=L)/\va L xs
def va(L:Nat):List ae->Prop
 |[]=>True
 |a::xs=>Dr L a/\va L xs
end
theorem E1(L:Nat)(t:ae):Dr L t↔(∀s∈t.Names,s.length<=L)/\va L t.Args:=by obtain⟨o,n,xs,ns,p,ps⟩:=t;rw[Dr];rfl
theorem HC(L:Nat):∀(l:List ae),va L l↔∀t∈l,Dr L t
 |[]=>by simp[va]
 |a::l=>by rw[va,HC L l];simp
theorem OD{L:Nat}{t a:ae}(h:Dr L t)(ha:a∈t.Args):Dr L a:=(HC L _).1 ((E1 L t).1 h).2 a ha
mutual
theorem HD{L M:Nat}(h:L<=M):∀(t:ae),Dr L t->Dr M t
 |⟨_,_,xs,ns,_,_⟩,ht=>by
  rw[Dr]at ht ⊢
  exact⟨fun s hs=>vaV (ht.1 s hs) h,E0 h xs ht.2⟩
theorem E0{L M:Nat}(h:L<=M):∀(l:List ae),va L l->va M l
 |[],_=>trivial
 |a::xs,hl=>by
  rw[va]at hl ⊢
  exact⟨HD h a hl.1,E0 h xs hl.2⟩
end
theorem Rh{ns:List ag}{s:ag}(h:s∈ns):s.length<=nK (ns.map cS):=by
 have h2:=KM (vai.2 ⟨s,h,rfl⟩:cS s∈ns.map cS)
 simp only[cS,yY,pm]at h2
 omega
mutual
theorem Mt(B:Nat):∀(t:ae),yY (af t)<=B->Dr B t
 |⟨o,n,xs,ns,p,ps⟩,h=>by
  rw[FU]at h
  have h:1+(pm (.str n)+(pm (sl af xs)+(pm (sl cS ns)+(1+(pm (.str p.Name)+(1+(pm (sl ac p.Kids)+(pm (sl ac ps)+0))))))))<=B:=h
  simp only[pm,sl]at h
  rw[Dr]
  exact⟨fun s hs=>by have:=Rh hs;omega,J8 B xs (by omega)⟩
theorem J8(B:Nat):∀(l:List ae),nK (l.map af)<=B->va B l
 |[],_=>trivial
 |a::xs,h=>by
  simp only[vaB,nK]at h
  rw[va]
  exact⟨Mt B a (by omega),J8 B xs (by omega)⟩
end
mutual
theorem P4:∀(t:ae),wT t<=yY (af t)
 |⟨o,n,xs,ns,p,ps⟩=>by
  have h1:=P2 xs
  have h2:=KD ps
  have h3:=KD p.Kids
  have h4:=H1 p
  rw[wT,FU]
  show _<=1+(pm (.str n)+(pm (sl af xs)+(pm (sl cS ns)+(1+(pm (.str p.Name)+(1+(pm (sl ac p.Kids)+(pm (sl ac ps)+0))))))))
  simp only[pm,sl]
  omega
theorem P2:∀(l:List ae),tg l<=nK (l.map af)
 |[]=>by simp[tg]
 |a::l=>by
  have:=P4 a
  have:=P2 l
  rw[tg]
  simp only[vaB,nK]
  omega
end
theorem A7:∀(c:Sb),(kN c).zip (kB c)=c
 |[]=>rfl
 |e::c=>by
  have ih:=A7 c
  unfold kN kB at ih ⊢
  rw[vaB,vaB,List.zip_cons_cons,ih]
def A9(hid:List ag)(c:Sb):Sb:=c.foldl (fun o e=>if e.1∈hid\/e.1∈kN o then o else o++[e]) []
theorem P5(hid:List ag)(c:Sb)(i:Nat)(h:i<c.length):A9 hid (c.take (i+1))=if c[i].1∈hid\/c[i].1∈kN (A9 hid (c.take i))then A9 hid (c.take i)else A9 hid (c.take i)++[c[i]]:=by
 unfold A9
 rw[va2 h,vcd]
 rfl
theorem Rq(hid:List ag):∀(c:Sb),(A9 hid c).length<=c.length:=by
 have key:∀(c o:Sb),(c.foldl (fun o e=>if e.1∈hid\/e.1∈kN o then o else o++[e]) o).length<=o.length+c.length:=by
  intro c
  induction c with
  |nil=>intro o;simp
  | cons e c ih =>
   intro o
   rw[List.foldl_cons,vaR]
   refine vaV (ih _) ?_
   split
   ·omega
   ·rw[vaq,List.length_singleton];omega
 intro c
 have:=key c []
 simpa[A9]using this
theorem Rr{x:ag}{c:Sb}(h:(kN c).Nodup):A9 [x] c=cR x c:=by
 have key:∀(c o:Sb),(kN c).Nodup->(∀e∈c,e.1∉kN o)->c.foldl (fun o e=>if e.1∈[x]\/e.1∈kN o then o else o++[e]) o=o++cR x c:=by
  intro c
  induction c with
  |nil=>intro o _ _;simp[cR]
  | cons e c ih =>
   intro o hn ho
   unfold kN at hn
   rw[vaB,vbE]at hn
   have h1:=ho e (by simp)
   rw[List.foldl_cons]
   by_cases hx:e.1=x
   ·rw[vap (.inl (by simp[hx])),ih o hn.2 (fun e' he'=>ho e' (by simp[he']))]
    unfold cR
    rw[vbc,vat (by simp[hx])]
   ·rw[vat (by simp only[vaJ];rintro(h|h);exact hx h;exact h1 h)]
    rw[ih (o++[e]) hn.2 (fun e' he' hm=>by
     unfold kN at hm
     rw[vbP,vau]at hm
     rcases hm with hm|hm
     ·exact ho e' (by simp[he']) hm
     ·simp only[vaB,vb6,vaJ]at hm
      exact hn.1 (vai.2 ⟨e',he',hm⟩))]
    unfold cR
    rw[vbc,vap (by simpa using hx),vbi]
    rfl
 have:=key c [] h (fun e _=>by simp)
 simpa[A9]using this
theorem CQ(hid:List ag)(c:Sb)(hh:hid.length<9223372036854775808)(hc:c.length<=1000000000):bE ⟨kN c,kB c⟩ hid=some ⟨kN (A9 hid c),kB (A9 hid c)⟩:=by
 unfold bE dD
 have hl:(kN c).length=c.length:=vaU ..
 have:=KC c.length (by omega) (fun i (s:List ag×List aa)=>(i,s.1,s.2)) (fun(zz:Int×(List ag)×(List aa))=>bA hid ⟨kN c,kB c⟩ (kN c) ((kN c).length:Int) zz.1 zz.2.1 zz.2.2)
  (fun i=>(kN (A9 hid (c.take i)),kB (A9 hid (c.take i)))) (kN (A9 hid c),kB (A9 hid c)) (fun i hi=>?_) ?_
 ·rw[show(A9 hid (c.take 0))=[]from rfl]at this
  rw[show(((0:Int),([]:List ag),([]:List aa)):Int×(List ag)×(List aa))=(0,kN [],kB [])from rfl,this]
  rfl
 ·show bA hid ⟨kN c,kB c⟩ (kN c) ((kN c).length:Int) (i:Int) (kN (A9 hid (c.take i))) (kB (A9 hid (c.take i)))=_
  unfold bA dC
  have hw:=Rq hid (c.take i)
  rw[va3]at hw
  have hkl:(kN (A9 hid (c.take i))).length=(A9 hid (c.take i)).length:=vaU ..
  have hkb:(kB (A9 hid (c.take i))).length=(A9 hid (c.take i)).length:=vaU ..
  rw[vap (by simp;omega),cB (kN c) i (by omega)]
  simp only[vab]
  rw[pM hid _ hh,pM (kN (A9 hid (c.take i))) _ (by omega)]
  simp only[vab]
  have hg:(kN c)[i]'(by omega)=c[i].1:=by simp[kN]
  have hb:(kB c)[i]'(by simp[kB];omega)=c[i].2:=by simp[kB]
  rw[hg,P5 hid c i hi]
  by_cases h1:c[i].1∈hid
  ·simp only[h1,decide_true,vcj,va4,if_false,vab,true_or,if_true]
  ·by_cases h2:c[i].1∈kN (A9 hid (c.take i))
   ·simp only[h1,h2,decide_false,decide_true,vcy,vcj,va4,if_false,vab,or_true,if_true]
   ·simp only[h1,h2,decide_false,vcy,if_true,vab,or_self,if_false]
    rw[ec (by simp;omega)]
    simp only[vab]
    rw[cB (kB c) i (by simp[kB];omega)]
    simp only[vab,hb]
    rw[ec (by simp;omega)]
    simp[kN,kB]
 ·show bA hid ⟨kN c,kB c⟩ (kN c) ((kN c).length:Int) (c.length:Int) (kN (A9 hid (c.take c.length))) (kB (A9 hid (c.take c.length)))=_
  unfold bA
  rw[vat (by simp),vbe (van _)]
theorem PN(x:ag)(c:Sb)(hn:(kN c).Nodup)(hc:c.length<=1000000000):bE ⟨kN c,kB c⟩ [x]=some ⟨kN (cR x c),kB (cR x c)⟩:=by
 rw[CQ [x] c (by simp) hc,Rr hn]
theorem PM(x:ag)(q:aa)(c:Sb)(hn:(kN c).Nodup)(hc:c.length<=1000000000):cM ⟨kN (cR x c),kB (cR x c)⟩ x q=some ⟨kN (cR x c++[(x,q)]),kB (cR x c++[(x,q)])⟩:=by
 unfold cM
 have hd:(cR x c).length<=c.length:=vaQ ..
 rw[PN x _ (yJ hn) (by omega),LP]
 simp only[vab]
 have h1:(kN (cR x c)).length=(cR x c).length:=vaU ..
 have h2:(kB (cR x c)).length=(cR x c).length:=vaU ..
 rw[ec (by simp;omega)]
 simp only[vab]
 rw[ec (by simp;omega)]
 simp[kN,kB]
theorem Ib(ns:List ag)(bs:List aa)(h:nL bs<=400000000):cK ⟨ns,bs⟩=some (bs.flatMap fE):=by
 unfold cK eg
 have hl:=BE bs
 show(loop (fun(zz:(List ag)×Int)=>dM bs (bs.length:Int) zz.1 zz.2) ([],0)).bind _=_
 rw[lK bs (by omega) (fun i s=>(s,i)) _ (fun i s x=>(lP x).bind fun r3=>(app s r3).bind fun l4=>some (.inl (l4,bL (i+1)))) (fun i s=>s.length<=nL (bs.take i)) (fun x s=>s++fE x) id [] (by simp[nL]) (fun i s=>rfl) (fun i hi s hs=>?_),Ff]
 ·rfl
 ·have h1:=zR bs i hi
  have h2:=oJ bs (i+1)
  have h3:=nV bs[i]
  refine⟨?_,by rw[vaq];omega⟩
  rw[KI _ (by omega)]
  simp only[vab]
  rw[ec (by omega)]
  rfl
structure Pw(t:ae)(c:Sb):Prop where
 nd:(kN c).Nodup
 sz:nL (kB c)+eG t<=20000000
 w:wT t<=20000000
 n:Dr 1000000000000000 t
theorem Su{c:Sb}{q:aa}(h:q∈kB c):nP q<=nL (kB c):=FA h
theorem T5{t:ae}:nP t.Pred<=wT t:=by rw[M9];omega
theorem KQ{t:ae}{q:aa}(h:q∈t.Preds):nP q<=wT t:=by rw[M9];have:=FA h;omega
theorem Jn{t:ae}{c:Sb}(h:Pw t c)(i:Nat)(hi:i<t.Args.length):Pw t.Args[i] (eV t.Op t.Names (ba t c) i).2.1 where
 nd:=Bu _ _ _ h.nd i
 sz:=by
  have h1:=OS t.Op t.Names (ba t c) i
  have h2:=sP t
  have h3:=wv (vaw hi)
  have h4:=h.sz
  show nL (kB (eV t.Op t.Names (ba t c) i).2.1)+eG t.Args[i]<=20000000
  have h5:nL (kB (ba t c).2.1)=nL (kB c):=rfl
  omega
 w:=vaV (Ru (vaw hi)) h.w
 n:=OD h.n (vaw hi)
theorem B3(c:Sb)(p:aa)(hp:nP p<=cm)(hc:nL (kB c)<=cm):cj ⟨kN c,kB c⟩ p=some (Ea (kC (kN c) (kB c)) p):=by
 unfold cj
 have:=LY c
 have h1:(kN c).length=c.length:=vaU ..
 rw[Q8 p (kN c) (kB c) hp (by unfold cm at hc;omega) (fun q hq=>vaV (Su hq) hc)]
 rfl
theorem FW(c:Sb)(l:List aa)(hl:l.length<=1073741824)(hp:∀p∈l,nP p<=cm)(hc:nL (kB c)<=cm):iL l ⟨kN c,kB c⟩=some (l.map (Ea (kC (kN c) (kB c)))):=by
 unfold iL lj
 rw[BC l hl (fun i s=>(s,i)) _ (fun y=>cj ⟨kN c,kB c⟩ y) (Ea (kC (kN c) (kB c))) id (fun i s=>rfl) (fun y hy=>B3 c y (hp y hy) hc)]
 rfl
theorem LB{o:Int}(ho:o≠6)(ns:List ag)(s:S3):∀i,eV o ns s i=s
 |0=>rfl
 |i+1=>by
  show wo o ns i (eV o ns s i)=s
  rw[LB ho ns s i]
  unfold wo
  rw[vat (fun h=>ho h.1)]
theorem ye{α β:Type}(f:α->β):∀(l:List α) (i:Nat),(l.zipIdx i).map (fun y=>f y.1)=l.map f
 |[],i=>rfl
 |x::l,i=>by rw[List.zipIdx_cons,vaB,vaB,ye f l (i+1)]
theorem Q9(t:ae)(c:Sb)(h:Pw t c):fA ⟨kN c,kB c⟩ t=some (vg t c):=by
 have hbig:eG t<QD:=kb (by have:=h.sz;unfold cm;omega)
 refine(nH (F:=eT) (fun x=>eG x.2) (fun x=>∃c,x.1=⟨kN c,kB c⟩/\Pw x.2 c) (fun x=>vg x.2 (x.1.names.zip x.1.by_)) (fun R x hx ih=>?_) (⟨kN c,kB c⟩,t) ⟨c,rfl,h⟩ hbig).trans (by
  show some (vg t ((kN c).zip (kB c)))=_
  rw[A7])
 obtain⟨s,t⟩:=x
 obtain⟨c,hs,h⟩:=hx
 have hs:s=⟨kN c,kB c⟩:=hs
 have h:Pw t c:=h
 subst hs
 show dq (fun s t=>R (s,t)) ⟨kN c,kB c⟩ t=some (vg t ((kN c).zip (kB c)))
 rw[A7]
 have hR:∀(i:Nat) (hi:i<t.Args.length),R (⟨kN (eV t.Op t.Names (ba t c) i).2.1,kB (eV t.Op t.Names (ba t c) i).2.1⟩,t.Args[i])=some (vg t.Args[i] (eV t.Op t.Names (ba t c) i).2.1):=fun i hi=>by
  have:=ih (⟨kN (eV t.Op t.Names (ba t c) i).2.1,kB (eV t.Op t.Names (ba t c) i).2.1⟩,t.Args[i]) (lG (vaw hi)) ⟨_,rfl,Jn h i hi⟩
  rw[this]
  show some (vg t.Args[i] ((kN (eV t.Op t.Names (ba t c) i).2.1).zip (kB (eV t.Op t.Names (ba t c) i).2.1)))=_
  rw[A7]
 have l1:=my t
 have l2:=wz t
 have l3:=wF t
 have hsz:nL (kB c)+eG t<=20000000:=h.sz
 have hw:wT t<=20000000:=h.w
 have hnd:=h.nd
 have hp:=T5 (t:=t)
 have hcl:=LY c
 unfold dq
 by_cases ho:t.Op=6
 ·rw [vap (by simpa using ho)]
  unfold dW
  rw[HO _ (by omega),B3 c _ (by unfold cm;omega) (by unfold cm;omega),FW c _ (by omega) (fun q hq=>by have:=KQ hq;unfold cm;omega) (by unfold cm;omega),Ib _ _ (by omega),BT t (by omega) (by omega)]
  simp only[vab]
  have f1:=wt (kB c)
  have f2:=lI t
  rw[ec (by omega)]
  simp only[vab]
  rw[ec (by rw[vaq];omega)]
  simp only[vab]
  unfold dp
  have hloop:=KC t.Args.length (by omega) (fun i (s:List ag×List ag×List ae×List ag×List aa)=>(s.1,i,s.2.1,s.2.2.1,s.2.2.2.1,s.2.2.2.2)) (fun(zz:(List ag)×Int×List ag×(List ae)×(List ag)×(List aa))=>aW (fun s t=>R (s,t)) t t.Args (t.Args.length:Int) t.Names.length zz.1 zz.2.1 zz.2.2.1 zz.2.2.2.1 zz.2.2.2.2.1 zz.2.2.2.2.2)
   (fun i=>((eV t.Op t.Names (ba t c) i).1,(eV t.Op t.Names (ba t c) i).2.2,OP t c i,kN (eV t.Op t.Names (ba t c) i).2.1,kB (eV t.Op t.Names (ba t c) i).2.1))
   ((eV t.Op t.Names (ba t c) t.Args.length).2.2,OP t c t.Args.length,kN (eV t.Op t.Names (ba t c) t.Args.length).2.1,kB (eV t.Op t.Names (ba t c) t.Args.length).2.1) (fun i hi=>?_) ?_
  ·have hloop':loop (fun(zz:(List ag)×Int×List ag×(List ae)×(List ag)×(List aa))=>aW (fun s t=>R (s,t)) t t.Args (t.Args.length:Int) t.Names.length zz.1 zz.2.1 zz.2.2.1 zz.2.2.2.1 zz.2.2.2.2.1 zz.2.2.2.2.2) (((kB c).flatMap fE++freeT t)++t.Names,0,t.Names,[],kN c,kB c)=_:=hloop
   rw[hloop']
   simp only[vab]
   rw[Sr _ _ (by rw[My];rfl)]
   simp only[vab]
   rw[LC,QF]
  ·show aW (fun s t=>R (s,t)) t t.Args (t.Args.length:Int) t.Names.length (eV t.Op t.Names (ba t c) i).1 (i:Int) (eV t.Op t.Names (ba t c) i).2.2 (OP t c i) (kN (eV t.Op t.Names (ba t c) i).2.1) (kB (eV t.Op t.Names (ba t c) i).2.1)=_
   unfold aW
   rw[vap (by simp;omega),cB _ i hi]
   simp only[vab]
   rw[hR i hi]
   simp only[vab]
   have hal:=QG t c i (by omega)
   rw[ec (by simp;omega)]
   simp only[vab]
   rw[OQ t c i hi]
   have hq:eV t.Op t.Names (ba t c) (i+1)=wo t.Op t.Names i (eV t.Op t.Names (ba t c) i):=rfl
   have hQn:=OS t.Op t.Names (ba t c) i
   have hQu:=OT t.Op t.Names (ba t c) i
   have hQw:=My t.Op t.Names (ba t c) i
   have hQd:=Bu t.Op t.Names (ba t c) hnd i
   have hu0:=M4 t c
   have hn0:nL (kB (ba t c).2.1)=nL (kB c):=rfl
   have hw0:(ba t c).2.2=t.Names:=rfl
   rw[hw0]at hQw
   generalize eV t.Op t.Names (ba t c) i=S at hq hQn hQu hQw hQd ⊢
   obtain⟨u,cc,w⟩:=S
   simp only at hQn hQu hQw hQd ⊢
   have hccl:=LY cc
   by_cases hi2:i<t.Names.length
   ·rw[vat (by simp;omega),cB _ i hi2]
    simp only[vab]
    rw[PN _ cc hQd (by omega)]
    simp only[vab]
    have hd:=Jl t.Names[i] cc
    rw[Ib _ _ (by omega)]
    simp only[vab]
    have f3:=wt (kB (cR t.Names[i] cc))
    rw[pM _ _ (by omega),LJ]
    simp only[vab]
    have hnl:t.Names[i].length<=1000000000000000:=((E1 _ t).1 h.n).1 _ (vaw hi2)
    unfold wo at hq
    rw[vap ⟨ho,hi2⟩,pQ _ i hi2]at hq
    by_cases hcm:yH t.Names[i] (cR t.Names[i] cc)=true
    ·rw[vap hcm]at hq ⊢
     rw[(JQ u t.Names[i] (by omega) (by omega)).1]
     simp only[vab]
     rw[Pc _ w i (by omega) (by omega)]
     simp only[vab]
     rw[SN w i _ (by omega)]
     simp only[vab]
     rw[Pc _ (w.set i (oE u t.Names[i])) i (by omega) (by rw[vbF];omega),List.getElem_set_self]
     simp only[vab]
     rw[ec (by simp;omega)]
     simp only[vab]
     have hpw:=PM t.Names[i] (⟨3,oE u t.Names[i],0,[]⟩:aa) cc hQd (by omega)
     rw[hpw]
     simp only[vab]
     rw[hq]
     rfl
    ·rw[vat hcm]at hq ⊢
     rw[hq]
   ·rw[vap (by simp;omega),hq]
    unfold wo
    rw[vat (fun h=>hi2 h.2)]
  ·show aW (fun s t=>R (s,t)) t t.Args (t.Args.length:Int) t.Names.length (eV t.Op t.Names (ba t c) t.Args.length).1 (t.Args.length:Int) (eV t.Op t.Names (ba t c) t.Args.length).2.2 (OP t c t.Args.length) (kN (eV t.Op t.Names (ba t c) t.Args.length).2.1) (kB (eV t.Op t.Names (ba t c) t.Args.length).2.1)=_
   unfold aW
   rw[vat (by simp)]
 ·rw[vat (by simpa using ho),HO _ (by omega),B3 c _ (by unfold cm;omega) (by unfold cm;omega),FW c _ (by omega) (fun q hq=>by have:=KQ hq;unfold cm;omega) (by unfold cm;omega)]
  simp only[vab]
  have hQ:=LB ho t.Names (ba t c)
  unfold lT jd
  rw[BC t.Args (by omega) (fun i s=>(s,i)) _ (fun y=>R (⟨kN c,kB c⟩,y)) (fun y=>vg y c) id (fun i s=>rfl) (fun y hy=>by
   obtain⟨i,hi,rfl⟩:=vcB hy
   have:=hR i hi
   rw[hQ i]at this
   exact this)]
  simp only[vab,id]
  rw[LC]
  simp only[hQ]
  congr 2
  exact(ye (fun y=>vg y c) t.Args 0).symm
def qK(x:ag)(q:aa):Sb:=if x=[118]then[]else[(x,q)]
theorem Mk(x:ag)(q:aa):(kN (qK x q)).Nodup:=by unfold qK;split<;>simp[kN]
theorem SI(x:ag)(q:aa):nL (kB (qK x q))<=nP q:=by
 unfold qK
 split
 ·simp[kB,nL]
 ·simp[kB,nL]
theorem NY(t:ae)(x:ag)(q:aa)(h:Pw t (qK x q)):fy t x q=some (vg t (qK x q)):=by
 unfold fy iZ
 rw[show GA ([x]:List ag) none (some (if(([q]:List aa).length:Int)<(([x]:List ag).length:Int)then(([q]:List aa).length:Int)else(([x]:List ag).length:Int)))=some [x]from rfl,show GA ([q]:List aa) none (some (if(([q]:List aa).length:Int)<(([x]:List ag).length:Int)then(([q]:List aa).length:Int)else(([x]:List ag).length:Int)))=some [q]from rfl]
 simp only[vab]
 have hw:=CQ [([118]:ag)] [(x,q)] (by simp) (by simp)
 have he:A9 [([118]:ag)] [(x,q)]=qK x q:=by
  unfold A9 qK
  simp only[List.foldl_cons,List.foldl_nil,vaJ,kN,vb6,vbv,or_false,va1]
 rw[he]at hw
 have hw':bE ⟨[x],[q]⟩ [([118]:ag)]=some ⟨kN (qK x q),kB (qK x q)⟩:=hw
 rw[hw']
 simp only[vab]
 rw[Q9 t _ h]
 rfl
theorem TP(o:Int)(ns:List ag)(i:Nat)(s:S3):(wo o ns i s).2.2.length=s.2.2.length:=by
 unfold wo
 split
 ·split
  ·simp only[vbF]
  ·rfl
 ·rfl
mutual
theorem MP:∀(t:ae) (c:Sb),eG (vg t c)=eG t
 |⟨o,n,xs,ns,p,ps⟩,c=>by
  obtain⟨h1,h2⟩:=MO o ns xs 0 (((kB c).flatMap fE++freeT ⟨o,n,xs,ns,p,ps⟩)++ns,c,ns)
  rw[vg,eG,eG,h1,h2,vaU]
theorem MO(o:Int)(ns:List ag):∀(xs:List ae) (i:Nat) (s:S3),kq (HJ o ns i xs s).1=kq xs/\(HJ o ns i xs s).2.length=s.2.2.length
 |[],i,s=>by rw[HJ];exact⟨rfl,rfl⟩
 | a :: xs,i,s => by
  have h1:=MP a s.2.1
  obtain⟨h2,h3⟩:=MO o ns xs (i+1) (wo o ns i s)
  rw[HJ]
  refine⟨?_,?_⟩
  ·show kq (vg a s.2.1::(HJ o ns (i+1) xs (wo o ns i s)).1)=_
   rw[kq,kq,h1,h2]
  ·show(HJ o ns (i+1) xs (wo o ns i s)).2.length=_
   rw[h3,TP]
end
def P8(M:Nat)(c:Sb):Prop:=∀e∈c,nP e.2<=M
theorem Kj{M:Nat}{c:Sb}(h:P8 M c)(x:ag):P8 M (cR x c):=fun e he=>h e (vaG.1 he).1
theorem O1{M:Nat}{c:Sb}(hM:1<=M)(h:P8 M c)(x y:ag):P8 M (c++[(x,Hx y)]):=fun e he=>by
 rcases vau.1 he with he|he
 ·exact h e he
 ·rw[vaJ.1 he,Pt];exact hM
theorem QM{M:Nat}(hM:1<=M)(o:Int)(ns:List ag)(i:Nat)(s:S3)(h:P8 M s.2.1):P8 M (wo o ns i s).2.1:=by
 unfold wo
 split
 ·split
  ·exact O1 hM (Kj h _) _ _
  ·exact Kj h _
 ·exact h
theorem Kk{M:Nat}{c:Sb}(h:P8 M c){n:ag}{q:aa}(hq:kC (kN c) (kB c) n=some q):nP q<=M:=by
 have:=Po hq
 obtain⟨e,he,rfl⟩:=vai.1 this
 exact h e he
mutual
theorem OE(B:Nat):∀(t:ae),wT t<=B->G9 (fun p=>nP p<=B) t
 |⟨o,n,xs,ns,p,ps⟩,h=>by
  rw[wT]at h
  rw[G9]
  exact⟨by omega,fun q hq=>by have:=FA hq;omega,Mu B xs (by omega)⟩
theorem Mu(B:Nat):∀(l:List ae),tg l<=B->tj (fun p=>nP p<=B) l
 |[],_=>trivial
 |a::xs,h=>by
  rw[tg]at h
  rw[tj]
  exact⟨OE B a (by omega),Mu B xs (by omega)⟩
end
theorem yB:qN=some true:=by kernel_rfl
theorem Ny(t:ae)(ht:eG t<=cm):ga (Bn t) (fun _=>True):=by
 refine rx (F:=u7) eG (fun x=>eG x<=cm) (fun _ _=>True) (fun R x hx ih=>?_) t ht (kb ht)
 show ga (pL (fun t=>R t) x) _
 unfold pL sG
 have h1:=my x
 refine av (R:=fun _=>True) (Ce x.Args (by unfold cm at hx;omega) (fun i s=>(s,i)) (fun i s y=>(R y).bind fun r=>some (.inl (bL (s+r),bL (i+1)))) id (fun _ _=>True) (fun i s=>rfl) (fun i hi s _=>?_) (fun _ _=>trivial) 1 trivial) (fun a _=>ak trivial)
 exact av (ih _ (lG (vaw hi)) (by have:=lG (vaw hi);omega)) (fun a _=>ak ⟨_,rfl,trivial⟩)
theorem QN(l:List ae)(hl:kq l<=cm)(hp:tj (fun p=>nP p<=cm) l):ga (IQ l) (fun _=>True):=by
 refine rx (F:=Bp) kq (fun x=>kq x<=cm/\tj (fun p=>nP p<=cm) x) (fun _ _=>True) (fun R l hx ih=>?_) l ⟨hl,hp⟩ (kb hl)
 obtain⟨hl,hp⟩:=hx
 show ga (wk (fun a=>R a) l) _
 unfold wk yy
 have h1:=Bz l
 refine av (ky l (by unfold cm at hl;omega) _ (fun _=>True) (fun _=>True) (fun i=>rfl) (fun x hx i=>?_)) (fun a _=>by cases a<;>exact ak trivial)
 have hx1:=wv hx
 have hq:=(J9 _ _).1 ((Bq _ _).1 hp _ hx)
 have h2:=wF x
 have h3:=sP x
 refine av (R:=fun _=>True) ?_ (fun o _=>aF (fun _=>ak trivial) (fun _=>?_))
 ·unfold yx
  rw[LR]
  exact av (Ny x (by omega)) fun _ _=>aF (fun _=>ak trivial) fun _=>ck (a:=(nP x.Pred:Int)) (by rw[qR];exact Ab _ hq.1) (aF (fun _=>ak trivial) fun _=>aF (fun _=>ak trivial) fun _=>aF (fun _=>ak trivial) fun _=>av (ih x.Args (by omega) ⟨by omega,hq.2.2⟩) fun _ _=>ak trivial)
 ·unfold yz
  refine av (ky x.Preds (by unfold cm at hl;omega) _ (fun _=>True) (fun _=>True) (fun i=>rfl) (fun q hq' i=>?_)) (fun a _=>by
   cases a with
   |inl _=>exact ak trivial
   |inr _=>exact ak ⟨rfl,trivial⟩)
  exact ck (Ab q (hq.2.1 q hq')) (aF (fun _=>ak trivial) (fun _=>ak ⟨rfl,trivial⟩))
theorem Sz{t:ae}{c:Sb}(ht:yY (af t)<=1048576)(hn:(kN c).Nodup)(hc:nL (kB c)<=1048576):Pw t c where
 nd:=hn
 sz:=by have:=Jj t;omega
 w:=by have:=P4 t;omega
 n:=HD (by omega) _ (Mt 1048576 t ht)
theorem K3{X:Type}(n:Nat)(hn:n<9223372036854775808){body:Int->Option (Int⊕X)}(k:Int->Option (Int⊕X))(e:X)(hb:∀i:Int,body i=if decide (i<(n:Int))=true then k i else some (.inr e))
  (hk:∀i:Nat,i<n->ga (k (i:Int)) (fun r=>match r with|.inl t=>t=bL ((i:Int)+1)|.inr _=>True)):ga (loop body 0) (fun _=>True):=by
 have e1:(List.replicate n ()).length=n:=List.length_replicate
 refine wI (List.replicate n ()) (by omega) (fun i (_:Unit)=>i) (fun _ _=>True) (fun i hi s _=>?_) (fun s _=>?_) () trivial
 ·rw[e1]at hi
  rw[hb,vap (vbd (by omega))]
  exact(hk i hi).mono fun r hr=>by
   cases r with
   |inl t=>exact⟨(),hr,trivial⟩
   |inr _=>trivial
 ·rw[hb,vat (by rw[e1];simp)]
  exact ak trivial
theorem nY(c:Int):ga (iQ c) (fun _=>True):=by unfold iQ;exact aF (fun _=>ak trivial) (fun _=>ak trivial)
theorem ws(c:Int):ga (lD c) (fun _=>True):=by unfold lD;exact aF (fun _=>ak trivial) (fun _=>ak trivial)
theorem vd(c:Int):ga (ko c) (fun _=>True):=by unfold ko;exact aF (fun _=>ak trivial) (fun _=>ak trivial)
theorem fg{s:ag}{i:Nat}(h:i<s.length):ga (gk s (i:Int)) (fun _=>True):=Cd (Pd s i h) trivial
theorem qT{s:ag}(h:0<s.length):ga (gk s 0) (fun _=>True):=fg (i:=0) h
theorem Kv(s:ag):ga (px s) (fun _=>True):=by
 unfold px
 exact av (R:=fun l=>l.length<9223372036854775808) ⟨_,rfl,by decide⟩ (fun l hl=>ck (im l s hl) (ak trivial))
theorem LD{s:ag}{i:Nat}(h:i<s.length):ga (kF s i) (fun _=>True):=by
 unfold kF
 exact av (fg h) fun _ _=>av (nY _) fun _ _=>aF (fun _=>av (fg h) fun _ _=>av (ws _) fun _ _=>aF (fun _=>av (fg h) fun _ _=>ak trivial) fun _=>ak trivial) fun _=>ak trivial
theorem Hz(s:ag):ga (lC s) (fun _=>True):=by
 unfold lC
 refine av (R:=fun o=>o=true\/s.length<=24) ?_ fun o ho=>aF (fun _=>ak trivial) fun hn=>?_
 ·unfold rJ
  refine aF (fun _=>ak (.inl rfl)) fun h1=>aF (fun _=>ak (.inl rfl)) fun h2=>?_
  rw[vaj]at h1 h2
  exact av (qT (by omega)) fun _ _=>av (nY _) fun _ _=>aF (fun _=>ak (.inl rfl)) fun _=>av (Kv s) fun _ _=>ak (.inr (by omega))
 ·have hs:s.length<=24:=ho.resolve_left hn
  unfold rK
  refine av (K3 s.length (by omega) (fun i=>(kF s i).bind fun o=>if o=true then some (.inr (.inl ()))else some (.inl (bL (i+1)))) (.inr ()) (fun i=>rfl) fun i hi=>av (LD hi) fun _ _=>aF (fun _=>ak trivial) fun _=>ak rfl) fun o _=>?_
  cases o<;>exact ak trivial
theorem Ml{s:ag}{i:Nat}(h:i<s.length):ga (kH s i) (fun _=>True):=by
 unfold kH
 exact av (fg h) fun _ _=>av (nY _) fun _ _=>aF (fun _=>av (fg h) fun _ _=>av (vd _) fun _ _=>aF (fun _=>av (fg h) fun _ _=>av (ws _) fun _ _=>ak trivial) fun _=>ak trivial) fun _=>ak trivial
theorem Nj(s:ag):ga (wb s) (fun _=>True):=by
 unfold wb
 refine av (R:=fun o=>o=true\/s.length<=24) ?_ fun o ho=>aF (fun _=>ak trivial) fun hn=>?_
 ·unfold rL
  refine aF (fun _=>ak (.inl rfl)) fun h1=>aF (fun _=>ak (.inl rfl)) fun h2=>?_
  rw[vaj]at h1 h2
  have h3:s.length<=24:=by omega
  exact av (qT (by omega)) fun _ _=>av (vd _) fun _ _=>aF (fun _=>ak (.inl rfl)) fun _=>aF (fun _=>ak (.inl rfl)) fun _=>aF (fun _=>ak (.inl rfl)) fun _=>aF (fun _=>ak (.inl rfl)) fun _=>ak (.inr h3)
 ·have hs:s.length<=24:=ho.resolve_left hn
  unfold rM
  refine av (K3 s.length (by omega) (fun i=>(kH s i).bind fun o=>if o=true then some (.inr (.inl ()))else some (.inl (bL (i+1)))) (.inr ()) (fun i=>rfl) fun i hi=>av (Ml hi) fun _ _=>aF (fun _=>ak trivial) fun _=>ak rfl) fun o _=>?_
  cases o<;>exact ak trivial
theorem NZ{s:ag}(b:Bool){i:Nat}(h:i<s.length):ga (pz s b i) (fun _=>True):=by
 unfold pz
 exact aF (fun _=>av (fg h) fun _ _=>av (nY _) fun _ _=>aF (fun _=>ak trivial) fun _=>av (fg h) fun _ _=>av (vd _) fun _ _=>aF (fun _=>ak trivial) fun _=>av (fg h) fun _ _=>av (ws _) fun _ _=>ak trivial) fun _=>ak trivial
theorem Px(s:ag):ga (zu s) (fun _=>True):=by
 unfold zu
 refine av (R:=fun o=>o=true\/(0<s.length/\s.length<=24)) ?_ fun o ho=>aF (fun _=>ak trivial) fun hn=>?_
 ·unfold um
  refine aF (fun _=>ak (.inl rfl)) fun h1=>ak ?_
  rw[vaj]at h1
  by_cases h2:(s.length:Int)>24
  ·exact .inl (vbd h2)
  ·exact .inr ⟨by omega,by omega⟩
 ·obtain⟨h0,hs⟩:=ho.resolve_left hn
  refine av (qT h0) fun _ _=>av (nY _) fun r6 _=>?_
  unfold uo
  refine av (R:=fun _=>True) (wI s (by omega) (fun i (z:Bool×Bool)=>(z.1,z.2,i)) (fun _ _=>True) (fun i hi z _=>?_) (fun z _=>?_) (true,r6) trivial) fun o _=>aF (fun _=>ak trivial) fun _=>ak trivial
  ·show ga (gS s s.length z.1 z.2 i) _
   unfold gS
   rw[vap (vbd (by omega))]
   exact av (NZ _ hi) fun o _=>aF (fun _=>av (fg hi) fun _ _=>av (nY _) fun _ _=>aF (fun _=>ak ⟨(o,true),rfl,trivial⟩) fun _=>av (fg hi) fun _ _=>av (ws _) fun _ _=>aF (fun _=>ak ⟨(o,true),rfl,trivial⟩) fun _=>av (fg hi) fun c _=>ak ⟨(o,c==95),rfl,trivial⟩) fun _=>ak ⟨(o,false),rfl,trivial⟩
  ·show ga (gS s s.length z.1 z.2 s.length) _
   unfold gS
   rw[vat (by simp)]
   exact ak trivial
theorem K1{α:Type}(l:List α)(a b:Nat)(h:a<=b)(h2:b<=l.length):GA l (some (a:Int)) (some (b:Int))=some ((l.take b).drop a):=by
 simp[GA,bd,h,h2]
theorem N0(s:ag)(hs:s.length<=120):ga (wc s) (fun l=>l≠[]/\l.length<=121):=by
 unfold wc rQ
 refine av (R:=fun o=>o.1.length<=s.length/\∃b:Nat,o.2=(b:Int)/\b<=s.length) (wI s (by omega) (fun i (z:List ag×Int)=>(z.1,z.2,i)) (fun i z=>z.1.length<=i/\∃b:Nat,z.2=(b:Int)/\b<=i) (fun i hi z hz=>?_) (fun z hz=>?_) ([],0) ⟨van _,0,rfl,van _⟩) fun o ho=>?_
 ·obtain⟨out,bg⟩:=z
  obtain⟨h1,b,hb,hbi⟩:=hz
  simp only at h1 hb
  subst hb
  show ga (fL s s.length out b i) _
  unfold fL
  rw[vap (vbd (by omega))]
  refine av (fg hi) fun c _=>aF (fun _=>?_) fun _=>ak ⟨(out,b),rfl,by simp only;omega,b,rfl,by omega⟩
  refine ck (K1 s b i hbi (by omega)) (ck (ec (by simp;omega)) (ak ⟨(_,bL ((i:Int)+1)),rfl,by simp;omega,i+1,?_,van _⟩))
  simp only
  rw[kn (by omega) (by omega)]
  omega
 ·obtain⟨out,bg⟩:=z
  show ga (fL s s.length out bg s.length) _
  unfold fL
  rw[vat (by simp)]
  exact ak hz
 ·obtain⟨h1,b,hb,hbi⟩:=ho
  rw[hb]
  exact ck (Gp s b hbi) (ck (ec (by simp;omega)) (ak ⟨by simp,by simp;omega⟩))
theorem Nx{v:List ag}(h:v≠[]):ga (pw v) (fun _=>True):=by
 obtain⟨x,r,rfl⟩:=List.exists_cons_of_ne_nil h
 unfold pw
 exact ck (Fl x r) (av (Hz x) fun _ _=>aF (fun _=>ck (Fl x r) (av (Nj x) fun _ _=>aF (fun _=>ck (Fl x r) (aF (fun _=>ak trivial) fun _=>ak trivial)) fun _=>ak trivial)) fun _=>ak trivial)
theorem OV:mr []=some 3:=by kernel_rfl
theorem JP(s:ag):ga (mr s) (fun r=>(r==0)=true->0<s.length):=by
 by_cases hs:s=[]
 ·subst hs
  exact Cd OV fun h=>by simp at h
 have hp:0<s.length:=vcC.2 hs
 unfold mr
 refine aF (fun _=>ak fun _=>hp) fun h1=>?_
 rw[vaj]at h1
 refine av (N0 s (by omega)) fun l hl=>av (Nx hl.1) fun _ _=>aF (fun _=>ak fun _=>hp) fun _=>?_
 have h2:1<=l.length:=vcC.2 hl.1
 refine ck (Gp l 1 h2) ?_
 unfold ue
 refine av (ky (l.drop 1) (by simp;omega) _ (fun _=>True) (fun _=>True) (fun i=>rfl) (fun x hx i=>av (Px x) fun _ _=>aF (fun _=>ak trivial) fun _=>ak ⟨rfl,trivial⟩)) fun o _=>?_
 cases o<;>exact ak fun _=>hp
theorem OU(s:ag)(b:Bool):ga (qL s b) (fun _=>True):=by
 unfold qL
 exact av (JP s) fun r hr=>aF (fun h=>av (qT (hr h)) fun _ _=>aF (fun _=>av (qT (hr h)) fun _ _=>ak trivial) fun _=>ak trivial) fun _=>ak trivial
theorem LL(t:ae)(ht:eG t<=cm):ga (Bk t) (fun _=>True):=by
 refine rx (F:=uG) eG (fun x=>eG x<=cm) (fun _ _=>True) (fun R x hx ih=>?_) t ht (kb ht)
 show ga (pF (fun t=>R t) x) _
 unfold pF si
 have h1:=my x
 refine av (R:=fun _=>True) (Ce x.Args (by unfold cm at hx;omega) (fun i s=>(s,i)) (fun i s y=>(R y).bind fun r=>some (.inl ((if r>s then r else s),bL (i+1)))) id (fun _ _=>True) (fun i s=>rfl) (fun i hi s _=>?_) (fun _ _=>trivial) 0 trivial) (fun a _=>ak trivial)
 exact av (ih _ (lG (vaw hi)) (by have:=lG (vaw hi);omega)) (fun a _=>ak ⟨_,rfl,trivial⟩)
theorem L5(t:ae):ga (zx t) (fun _=>True):=by
 unfold zx
 refine av (R:=fun _=>True) ?_ fun _ _=>aF (fun _=>ak trivial) fun _=>av (R:=fun _=>True) ?_ fun _ _=>aF (fun _=>ak trivial) fun _=>av (R:=fun _=>True) ?_ fun _ _=>aF (fun _=>ak trivial) fun _=>av (R:=fun _=>True) ?_ fun _ _=>aF (fun _=>ak trivial) fun _=>ak trivial
 ·unfold uO
  repeat' first|exact ak trivial|refine aF (fun _=>?_) (fun _=>?_)
 ·unfold uP
  repeat' first|exact ak trivial|refine aF (fun _=>?_) (fun _=>?_)
 ·unfold uQ
  repeat' first|exact ak trivial|refine aF (fun _=>?_) (fun _=>?_)
 ·unfold uR
  repeat' first|exact ak trivial|refine aF (fun _=>?_) (fun _=>?_)|refine av (OU _ _) fun _ _=>?_
theorem LT(t:ae)(ht:eG t<=cm):ga (EK t) (fun _=>True):=by
 refine rx (F:=yt) eG (fun x=>eG x<=cm) (fun _ _=>True) (fun R x hx ih=>?_) t ht (kb ht)
 show ga (sk (fun t=>R t) x) _
 unfold sk uM
 have h1:=my x
 refine av (L5 x) fun _ _=>aF (fun _=>ak trivial) fun _=>av (ky x.Args (by unfold cm at hx;omega) _ (fun _=>True) (fun _=>True) (fun i=>rfl) (fun y hy i=>av (ih _ (lG hy) (by have:=lG hy;omega)) fun _ _=>aF (fun _=>ak trivial) fun _=>ak ⟨rfl,trivial⟩)) fun o _=>?_
 cases o<;>exact ak trivial
theorem JO(t:ae)(ht:eG t<=cm):ga (wh t) (fun _=>True):=by
 unfold wh
 exact av (LL t ht) fun _ _=>aF (fun _=>ak trivial) fun _=>av (LT t ht) fun _ _=>ak trivial
theorem Kw(op n:Int):ga (iz op n) (fun r=>r=true->op=8->n=2):=by
 by_cases h:op=8
 ·subst h
  refine Cd (a:=n==2) ?_ fun h _=>by simpa using h
  simp[iz,mt,pC,pD]
 ·unfold iz
  refine av (R:=fun _=>True) ?_ fun _ _=>aF (fun _=>ak fun _ e=>absurd e h) fun _=>av (R:=fun _=>True) ?_ fun _ _=>aF (fun _=>aF (fun _=>ak fun _ e=>absurd e h) fun _=>ak fun _ e=>absurd e h) fun _=>av (R:=fun _=>True) ?_ fun _ _=>aF (fun _=>ak fun _ e=>absurd e h) fun _=>ak fun _ e=>absurd e h
  ·unfold mt
   repeat' first|exact ak trivial|refine aF (fun _=>?_) (fun _=>?_)
  ·unfold pC
   repeat' first|exact ak trivial|refine aF (fun _=>?_) (fun _=>?_)
  ·unfold pD
   repeat' first|exact ak trivial|refine aF (fun _=>?_) (fun _=>?_)
theorem LA(p:aa):ga (sd p) (fun _=>True):=by
 unfold sd
 have hc:=fun s=>(JP s).mono (R:=fun _=>True) fun _ _=>trivial
 repeat' first|exact ak trivial|refine aF (fun _=>?_) (fun _=>?_)|refine av (hc _) fun _ _=>?_
theorem Im(p:aa):u5 p=some (decide (p=Gz)):=by
 unfold u5
 have h1:jr p (⟨0,([]:ag),0,([]:List aa)⟩:aa)=some (decide (p=Gz)):=PT p Gz Q0
 rw[h1];rfl
mutual
def AO:ae->ae->Bool
 |⟨o,n,xs,ns,p,ps⟩,⟨o',n',xs',ns',p',ps'⟩=>decide (o=o')&&(decide (n=n')&&tG xs xs')
def tG:List ae->List ae->Bool
 |[],[]=>true
 |a::xs,b::bs=>AO a b&&tG xs bs
 |_,_=>false
end
theorem Ih:∀(a b:List ae),tG a b=pn AO a b
 |[],[]=>by rw[tG,pn]
 |a::xs,b::bs=>by rw[tG,pn,Ih xs bs]
 |[],b::bs=>by simp[tG,pn]
 |a::xs,[]=>by simp[tG,pn]
theorem Rc(a b:ae):AO a b=(decide (a.Op=b.Op)&&(decide (a.Name=b.Name)&&pn AO a.Args b.Args)):=by
 obtain⟨o,n,xs,ns,p,ps⟩:=a
 obtain⟨o',n',xs',ns',p',ps'⟩:=b
 rw[AO,Ih];rfl
theorem Oc(a b:ae)(ht:eG a<=cm):EI a b=some (AO a b):=by
 refine nH (F:=yr) (fun x=>eG x.1) (fun x=>eG x.1<=cm) (fun x=>AO x.1 x.2) (fun R x hx ih=>?_) (a,b) ht (kb ht)
 obtain⟨a,b⟩:=x
 have hl:eG a<=cm:=hx
 show sj (fun a a2=>R (a,a2)) a b=some (AO a b)
 unfold sj uI uJ
 have h1:=my a
 rw[Rc]
 by_cases e1:a.Op=b.Op
 ·by_cases e2:a.Name=b.Name
  ·by_cases e3:a.Args.length=b.Args.length
   ·rw[vat (by simp[e1]),vat (by simp[e2])]
    simp only[vab]
    rw[vat (by simp[e3]),HY (X:=Unit⊕Unit) e3 (by unfold cm at hl;omega) (fun zz=>qz (fun a a2=>R (a,a2)) a b (a.Args.length:Int) zz) (fun i y z=>(R (y,z)).bind fun r11=>if(!r11)=true then some (.inr (.inl ()))else some (.inl (bL (i+1)))) AO (.inl ()) (.inr ()) (fun i=>rfl) (fun y hy z hz i=>by
     have he:=ih (y,z) (lG hy) (by have:=lG hy;show eG y<=cm;omega)
     rw[he]
     show(if(!AO y z)=true then _ else _)=_
     cases AO y z<;>rfl)]
    simp only[vab,e1,e2,decide_true,Bool.true_and]
    cases pn AO a.Args b.Args<;>rfl
   ·rw[vat (by simp[e1]),vat (by simp[e2])]
    simp only[vab]
    rw[vap (by simp;omega),Qp e3]
    simp
  ·rw[vat (by simp[e1]),vap (by simp[e2])]
   simp[e2]
 ·rw[vap (by simp[e1])]
  simp[e1]
mutual
def Q5:ae->ae
 |⟨o,n,xs,_,_,_⟩=>⟨o,n,Ae xs,[],Gz,[]⟩
def Ae:List ae->List ae
 |[]=>[]
 |t::l=>Q5 t::Ae l
end
mutual
def JL:aa->Prop
 |⟨o,_,_,ks⟩=>(o=3->ks=[])/\Oo ks
def Oo:List aa->Prop
 |[]=>True
 |p::ps=>JL p/\Oo ps
end
theorem Na(p:aa):JL p↔(p.Op=3->p.Kids=[])/\Oo p.Kids:=by obtain⟨o,n,k,ks⟩:=p;rw[JL];exact Iff.rfl
theorem JH:∀(l:List aa),Oo l↔∀p∈l,JL p
 |[]=>by simp[Oo]
 |p::l=>by rw[Oo,JH l];simp
mutual
theorem RJ(f:ag->Option aa)(x:ag):∀(p:aa),JL p->(x∈rD (Ea f p)↔(x∈rD p/\f x=none)\/∃n q,n∈rD p/\f n=some q/\x∈rD q)
 | ⟨o,n,k,ks⟩,h => by
  rw[JL]at h
  have ih:=Mo f x ks h.2
  rw[Ea,rD]
  by_cases h3:o=3
  ·have hk:=h.1 h3
   subst hk
   rw[vap h3,vap h3]
   simp only[xa,vbm,vaJ]
   cases hf:f n with
   | none =>
    simp only[Option.getD_none]
    rw[rD,vap h3,Om,xa]
    simp only[vbm,vaJ]
    constructor
    ·rintro rfl;exact .inl ⟨rfl,hf⟩
    ·rintro(⟨rfl,_⟩|⟨n',q,rfl,hq,_⟩)
     ·rfl
     ·rw[hf]at hq;cases hq
   | some q =>
    simp only[Option.getD_some]
    constructor
    ·intro hx;exact .inr ⟨n,q,rfl,hf,hx⟩
    ·rintro(⟨rfl,hn⟩|⟨n',q',rfl,hq,hx⟩)
     ·rw[hf]at hn;cases hn
     ·rw[hf]at hq;cases hq;exact hx
  ·rw[vat h3,vat h3]
   simp only[Option.getD_none,va1]
   rw[rD,vat h3,va1]
   exact ih
theorem Mo(f:ag->Option aa)(x:ag):∀(l:List aa),Oo l->(x∈xa (Om f l)↔(x∈xa l/\f x=none)\/∃n q,n∈xa l/\f n=some q/\x∈rD q)
 |[],_=>by simp[Om,xa]
 | p :: l,h => by
  rw[Oo]at h
  rw[Om,xa,xa,vau,RJ f x p h.1,Mo f x l h.2]
  simp only[vau]
  constructor
  ·rintro((⟨h1,h2⟩|⟨n,q,h1,h2,h3⟩)|(⟨h1,h2⟩|⟨n,q,h1,h2,h3⟩))
   ·exact .inl ⟨.inl h1,h2⟩
   ·exact .inr ⟨n,q,.inl h1,h2,h3⟩
   ·exact .inl ⟨.inr h1,h2⟩
   ·exact .inr ⟨n,q,.inr h1,h2,h3⟩
  ·rintro(⟨h1|h1,h2⟩|⟨n,q,h1|h1,h2,h3⟩)
   ·exact .inl (.inl ⟨h1,h2⟩)
   ·exact .inr (.inl ⟨h1,h2⟩)
   ·exact .inl (.inr ⟨n,q,h1,h2,h3⟩)
   ·exact .inr (.inr ⟨n,q,h1,h2,h3⟩)
end
mutual
def O9:ae->Prop
 |⟨_,_,xs,ns,p,ps⟩=>((∀s∈ns,s≠[118])/\ns.Nodup)/\JL p/\Oo ps/\NI xs
def NI:List ae->Prop
 |[]=>True
 |a::xs=>O9 a/\NI xs
end
theorem MJ(t:ae):O9 t↔((∀s∈t.Names,s≠[118])/\t.Names.Nodup)/\JL t.Pred/\Oo t.Preds/\NI t.Args:=by obtain⟨o,n,xs,ns,p,ps⟩:=t;rw[O9];exact Iff.rfl
theorem zL:∀(l:List ae),NI l↔∀t∈l,O9 t
 |[]=>by simp[NI]
 |a::l=>by rw[NI,zL l];simp
theorem K5(o:Int)(ns:List ag)(x:ag):∀(l:List ae) (i:Nat),x∈On o ns i l↔∃k a,l[k]? =some a/\x∈vT a/\x∉mA o ns (i+k)
 |[],i=>by simp[On]
 | a :: l,i => by
  rw[On,vau,vaG,K5 o ns x l (i+1)]
  constructor
  ·rintro(⟨h1,h2⟩|⟨k,b,h1,h2,h3⟩)
   ·exact⟨0,a,rfl,h1,by simpa using h2⟩
   ·exact⟨k+1,b,h1,h2,by rw[show i+(k+1)=i+1+k by omega];exact h3⟩
  ·rintro⟨k,b,h1,h2,h3⟩
   cases k with
   |zero=>
    have:a=b:=by simpa using h1
    subst this
    exact .inl ⟨h2,by simpa using h3⟩
   |succ k=>exact .inr ⟨k,b,by simpa using h1,h2,by rw[show i+1+k=i+(k+1) by omega];exact h3⟩
theorem v8(t:ae)(x:ag):x∈vT t↔((x∈rD t.Pred\/x∈xa t.Preds)/\x≠[118])\/∃k a,t.Args[k]? =some a/\x∈vT a/\x∉mA t.Op t.Names k:=by
 rw[RI,vau,vaG,K5,vau]
 simp
theorem Nv(x:ag)(c:Sb):yH x c=true↔∃e∈c,x∈rD e.2:=by
 unfold yH
 rw[vbn]
 simp
theorem Ki(x:ag)(c:Sb)(e:ag×aa):e∈cR x c↔e∈c/\e.1≠x:=by
 unfold cR
 rw[vaG]
 simp
section
variable(t:ae)(c:Sb)
def Mi(i:Nat):Prop:=t.Op=6/\i<t.Names.length/\yH (t.Names.getD i []) (cR (t.Names.getD i []) (eV t.Op t.Names (ba t c) i).2.1)=true
def nm(i:Nat):ag:=oE (eV t.Op t.Names (ba t c) i).1 (t.Names.getD i [])
theorem Mx(i:Nat)(h:Mi t c i):eV t.Op t.Names (ba t c) (i+1)=((eV t.Op t.Names (ba t c) i).1++[nm t c i],cR (t.Names.getD i []) (eV t.Op t.Names (ba t c) i).2.1++[(t.Names.getD i [],Hx (nm t c i))],(eV t.Op t.Names (ba t c) i).2.2.set i (nm t c i)):=by
 show wo t.Op t.Names i (eV t.Op t.Names (ba t c) i)=_
 unfold wo
 rw[vap ⟨h.1,h.2.1⟩,vap h.2.2]
 rfl
theorem Mw(i:Nat)(h6:t.Op=6)(hi:i<t.Names.length)(h:¬Mi t c i):eV t.Op t.Names (ba t c) (i+1)=((eV t.Op t.Names (ba t c) i).1,cR (t.Names.getD i []) (eV t.Op t.Names (ba t c) i).2.1,(eV t.Op t.Names (ba t c) i).2.2):=by
 show wo t.Op t.Names i (eV t.Op t.Names (ba t c) i)=_
 unfold wo
 rw[vap ⟨h6,hi⟩,vat (fun hc=>h ⟨h6,hi,hc⟩)]
theorem Ke(i:Nat)(h:¬(t.Op=6/\i<t.Names.length)):eV t.Op t.Names (ba t c) (i+1)=eV t.Op t.Names (ba t c) i:=by
 show wo t.Op t.Names i (eV t.Op t.Names (ba t c) i)=_
 unfold wo
 rw[vat h]
theorem IZ(h6:t.Op=6)(hd:t.Names.Nodup):∀(i:Nat),∀e,e∈(eV t.Op t.Names (ba t c) i).2.1↔(e∈c/\e.1∉t.Names.take i)\/∃j,j<i/\Mi t c j/\e=(t.Names.getD j [],Hx (nm t c j))
 |0,e=>by
  show e∈c↔_
  simp
 | i + 1,e => by
  have ih:=IZ h6 hd i
  by_cases hi:i<t.Names.length
  ·have hg:=pQ t.Names i hi
   have htk:t.Names.take (i+1)=t.Names.take i++[t.Names.getD i []]:=by rw[va2 hi,hg]
   have hne:∀j,j<i->t.Names.getD j []≠t.Names.getD i []:=fun j hj=>by
    rw[pQ t.Names j (by omega),hg]
    unfold List.Nodup at hd
    rw[vbz]at hd
    exact hd j i (by omega) hi hj
   have core:e∈cR (t.Names.getD i []) (eV t.Op t.Names (ba t c) i).2.1↔(e∈c/\e.1∉t.Names.take (i+1))\/∃j,j<i/\Mi t c j/\e=(t.Names.getD j [],Hx (nm t c j)):=by
    rw[Ki,ih,htk]
    simp only[vau,vaJ,not_or]
    constructor
    ·rintro⟨⟨h1,h2⟩|⟨j,h1,h2,h3⟩,h4⟩
     ·exact .inl ⟨h1,h2,h4⟩
     ·exact .inr ⟨j,h1,h2,h3⟩
    ·rintro(⟨h1,h2,h3⟩|⟨j,h1,h2,h3⟩)
     ·exact⟨.inl ⟨h1,h2⟩,h3⟩
     ·exact⟨.inr ⟨j,h1,h2,h3⟩,by rw[h3];exact hne j h1⟩
   by_cases hr:Mi t c i
   ·rw [Mx t c i hr]
    show e∈cR (t.Names.getD i []) (eV t.Op t.Names (ba t c) i).2.1++_↔_
    rw[vau,core,vaJ]
    constructor
    ·rintro((h|⟨j,h1,h2,h3⟩)|h)
     ·exact .inl h
     ·exact .inr ⟨j,by omega,h2,h3⟩
     ·exact .inr ⟨i,by omega,hr,h⟩
    ·rintro(h|⟨j,h1,h2,h3⟩)
     ·exact .inl (.inl h)
     ·by_cases hj:j=i
      ·subst hj;exact .inr h3
      ·exact .inl (.inr ⟨j,by omega,h2,h3⟩)
   ·rw [Mw t c i h6 hi hr]
    show e∈cR (t.Names.getD i []) (eV t.Op t.Names (ba t c) i).2.1↔_
    rw[core]
    constructor
    ·rintro(h|⟨j,h1,h2,h3⟩)
     ·exact .inl h
     ·exact .inr ⟨j,by omega,h2,h3⟩
    ·rintro(h|⟨j,h1,h2,h3⟩)
     ·exact .inl h
     ·by_cases hj:j=i
      ·subst hj;exact absurd h2 hr
      ·exact .inr ⟨j,by omega,h2,h3⟩
  ·rw[Ke t c i (fun h=>hi h.2),ih,vbe (by omega:t.Names.length<=i),vbe (by omega:t.Names.length<=i+1)]
   constructor
   ·rintro(h|⟨j,h1,h2,h3⟩)
    ·exact .inl h
    ·exact .inr ⟨j,by omega,h2,h3⟩
   ·rintro(h|⟨j,h1,h2,h3⟩)
    ·exact .inl h
    ·exact .inr ⟨j,by have:=h2.2.1;omega,h2,h3⟩
theorem wn(h6:t.Op=6):∀(i j:Nat),(Mi t c j/\j<i->(eV t.Op t.Names (ba t c) i).2.2[j]? =some (nm t c j))/\(¬(Mi t c j/\j<i)->(eV t.Op t.Names (ba t c) i).2.2[j]? =t.Names[j]?)
 |0,j=>⟨fun h=>by omega,fun _=>rfl⟩
 | i + 1,j => by
  have ih:=wn h6 i j
  have hw:(eV t.Op t.Names (ba t c) i).2.2.length=t.Names.length:=My _ _ _ i
  by_cases hi:i<t.Names.length
  ·by_cases hr:Mi t c i
   ·rw[Mx t c i hr]
    show(Mi t c j/\j<i+1->((eV t.Op t.Names (ba t c) i).2.2.set i (nm t c i))[j]? =_)/\(_->((eV t.Op t.Names (ba t c) i).2.2.set i (nm t c i))[j]? =_)
    by_cases hj:j=i
    ·subst hj
     rw[vae (by omega)]
     exact⟨fun _=>rfl,fun h=>absurd ⟨hr,by omega⟩ h⟩
    ·rw[vam (by omega)]
     exact⟨fun h=>ih.1 ⟨h.1,by omega⟩,fun h=>ih.2 (fun h'=>h ⟨h'.1,by omega⟩)⟩
   ·rw[Mw t c i h6 hi hr]
    refine⟨fun h=>?_,fun h=>ih.2 (fun h'=>h ⟨h'.1,by omega⟩)⟩
    by_cases hj:j=i
    ·subst hj;exact absurd h.1 hr
    ·exact ih.1 ⟨h.1,by omega⟩
  ·rw[Ke t c i (fun h=>hi h.2)]
   exact⟨fun h=>ih.1 ⟨h.1,by have:=h.1.2.1;omega⟩,fun h=>ih.2 (fun h'=>h ⟨h'.1,by omega⟩)⟩
theorem Kf:∀(i:Nat) (x:ag),x∈(ba t c).1->x∈(eV t.Op t.Names (ba t c) i).1
 |0,x,h=>h
 | i + 1,x,h => by
  have ih:=Kf i x h
  show x∈(wo t.Op t.Names i (eV t.Op t.Names (ba t c) i)).1
  unfold wo
  split
  ·split
   ·exact vaS _ ih
   ·exact ih
  ·exact ih
end
theorem Sy{t:ae}{c:Sb}(h:Pw t c)(i:Nat)(hi:i<t.Args.length)(hn:i<t.Names.length):nm t c i∉(ba t c).1:=fun hm=>by
 have h1:=OT t.Op t.Names (ba t c) i
 have h2:=M4 t c
 have h3:=h.sz
 have h4:=h.w
 have h5:=my t
 have hb:=((E1 _ _).1 h.n).1 _ (vaw hn)
 exact(JQ _ (t.Names.getD i []) (by omega) (by rw[pQ _ i hn];omega)).2.2 (Kf t c i _ hm)
theorem NN(e:ag×aa)(c:Sb)(n:ag):kC (kN (e::c)) (kB (e::c)) n=if e.1=n then some e.2 else kC (kN c) (kB c) n:=by
 unfold kC kN kB
 rw[vaB,vaB,vcF]
 by_cases h:e.1=n
 ·have:(e.1==n)=true:=by simpa using h
  rw[this,vap h];rfl
 ·have:(e.1==n)=false:=by simpa using h
  rw[this,vat h]
  simp only[va4,if_false]
  cases(c.map (·.1)).findIdx? (fun x=>x==n)<;>rfl
theorem oI:∀(c:Sb),(kN c).Nodup->∀n q,kC (kN c) (kB c) n=some q↔(n,q)∈c
 |[],_,n,q=>by simp[kC,kN,kB]
 | e :: c,h,n,q => by
  have hn:e.1∉kN c/\(kN c).Nodup:=vbE.1 h
  rw[NN,vaD]
  by_cases he:e.1=n
  ·rw[vap he]
   constructor
   ·intro hq
    left
    rw[<-he,<-va0 hq]
   ·rintro(hq|hq)
    ·rw[<-hq]
    ·exact absurd (vai.2 ⟨(n,q),hq,he.symm⟩:e.1∈kN c) hn.1
  ·rw[vat he,oI c hn.2]
   constructor
   ·exact .inr
   ·rintro(hq|hq)
    ·exact absurd (by rw[<-hq]) he
    ·exact hq
theorem NO{c:Sb}(h:(kN c).Nodup)(n:ag):kC (kN c) (kB c) n=none↔n∉kN c:=by
 constructor
 ·intro hl hm
  obtain⟨e,he,rfl⟩:=vai.1 hm
  have:=(oI c h e.1 e.2).2 he
  rw[hl]at this;cases this
 ·intro hn
  cases hl:kC (kN c) (kB c) n with
  |none=>rfl
  |some q=>exact absurd (vai.2 ⟨(n,q),(oI c h n q).1 hl,rfl⟩) hn
theorem QY{c:Sb}(h:(kN c).Nodup)(p:aa)(ps:List aa)(hp:JL p)(hps:Oo ps)(x:ag):(x∈rD (Ea (kC (kN c) (kB c)) p)\/x∈xa (ps.map (Ea (kC (kN c) (kB c)))))↔((x∈rD p\/x∈xa ps)/\x∉kN c)\/∃e∈c,(e.1∈rD p\/e.1∈xa ps)/\x∈rD e.2:=by
 rw[<-D9,RJ _ x p hp,Mo _ x ps hps,NO h]
 constructor
 ·rintro((⟨h1,h2⟩|⟨n,q,h1,h2,h3⟩)|(⟨h1,h2⟩|⟨n,q,h1,h2,h3⟩))
  ·exact .inl ⟨.inl h1,h2⟩
  ·exact .inr ⟨(n,q),(oI c h n q).1 h2,.inl h1,h3⟩
  ·exact .inl ⟨.inr h1,h2⟩
  ·exact .inr ⟨(n,q),(oI c h n q).1 h2,.inr h1,h3⟩
 ·rintro(⟨h1|h1,h2⟩|⟨e,h1,h2|h2,h3⟩)
  ·exact .inl (.inl ⟨h1,h2⟩)
  ·exact .inr (.inl ⟨h1,h2⟩)
  ·exact .inl (.inr ⟨e.1,e.2,h2,(oI c h e.1 e.2).2 h1,h3⟩)
  ·exact .inr (.inr ⟨e.1,e.2,h2,(oI c h e.1 e.2).2 h1,h3⟩)
theorem gg{l:List ag}{k:Nat}{x:ag}:x∈l.take k↔∃j,j<k/\l[j]? =some x:=by
 rw[vba]
 constructor
 ·rintro⟨j,hj⟩
  rw[vb7]at hj
  split at hj
  ·exact⟨j,by assumption,hj⟩
  ·cases hj
 ·rintro⟨j,h1,h2⟩
  exact⟨j,by rw[vb7,vap h1];exact h2⟩
theorem Sm(t:ae)(c:Sb)(h6:t.Op=6)(k:Nat)(hk:k<=t.Args.length)(x:ag):x∈(eV t.Op t.Names (ba t c) t.Args.length).2.2.take k↔∃j,j<k/\((Mi t c j/\x=nm t c j)\/(¬Mi t c j/\t.Names[j]? =some x)):=by
 rw[gg]
 constructor
 ·rintro⟨j,h1,h2⟩
  have hn:=wn t c h6 t.Args.length j
  by_cases hr:Mi t c j
  ·rw[hn.1 ⟨hr,by omega⟩]at h2
   exact⟨j,h1,.inl ⟨hr,(va0 h2).symm⟩⟩
  ·rw[hn.2 (fun h=>hr h.1)]at h2
   exact⟨j,h1,.inr ⟨hr,h2⟩⟩
 ·rintro⟨j,h1,(⟨hr,h2⟩|⟨hr,h2⟩)⟩
  ·exact⟨j,h1,by rw[(wn t c h6 t.Args.length j).1 ⟨hr,by omega⟩,h2]⟩
  ·exact⟨j,h1,by rw[(wn t c h6 t.Args.length j).2 (fun h=>hr h.1)];exact h2⟩
theorem IU(t:ae)(c:Sb)(k:Nat)(a':ae):((t.Args.zipIdx).map (fun y=>vg y.1 (eV t.Op t.Names (ba t c) y.2).2.1))[k]? =some a'↔∃a,t.Args[k]? =some a/\a'=vg a (eV t.Op t.Names (ba t c) k).2.1:=by
 rw[vav,List.getElem?_zipIdx]
 cases t.Args[k]? with
 |none=>simp
 | some a =>
  simp only[vad,vas,vaE]
  constructor
  ·intro h;exact⟨a,rfl,h.symm⟩
  ·rintro⟨b,rfl,h⟩;exact h.symm
theorem Ja:∀(n:Nat) (t:ae) (c:Sb),eG t<=n->Pw t c->O9 t->[118]∉kN c->∀x,(x∈vT (vg t c)↔(x∈vT t/\x∉kN c)\/∃e∈c,e.1∈vT t/\x∈rD e.2/\x≠[118])
 |0,t,c,hn,_,_,_,_=>by have:=Ky t;omega
 | n + 1,t,c,hn,ok,gd,hv,x => by
  obtain⟨⟨g1,g2⟩,g3,g4,g5⟩:=(MJ t).1 gd
  have hnd:=ok.nd
  have arg:∀k a,t.Args[k]? =some a->(x∈vT (vg a (eV t.Op t.Names (ba t c) k).2.1)/\x∉mA t.Op (eV t.Op t.Names (ba t c) t.Args.length).2.2 k↔(x∈vT a/\x∉mA t.Op t.Names k/\x∉kN c)\/∃e∈c,(e.1∈vT a/\e.1∉mA t.Op t.Names k)/\x∈rD e.2/\x≠[118]):=fun k a hk=>by
   have hkl:k<t.Args.length:=by
    by_cases hc:k<t.Args.length
    ·exact hc
    ·rw[vaz (by omega)]at hk;cases hk
   have ha:a=t.Args[k]:=by rw[vaa hkl]at hk;exact(va0 hk).symm
   subst ha
   have hm:=vaw hkl
   have hlt:=lG hm
   by_cases h6:t.Op=6
   ·have hq:=IZ t c h6 g2 k
    have hvk:[118]∉kN (eV t.Op t.Names (ba t c) k).2.1:=fun hc=>by
     obtain⟨e,he,h1⟩:=vai.1 hc
     rcases(hq e).1 he with⟨h2,_⟩|⟨j,h2,h3,h4⟩
     ·exact hv (vai.2 ⟨e,h2,h1⟩)
     ·rw[h4]at h1
      have hj:=h3.2.1
      have h1:t.Names.getD j []=[118]:=h1
      rw[pQ _ j hj]at h1
      exact g1 _ (vaw hj) h1
    have ih:=Ja n t.Args[k] _ (by omega) (Jn ok k hkl) ((zL _).1 g5 _ hm) hvk x
    have hkey:∀y,y∈kN (eV t.Op t.Names (ba t c) k).2.1↔(y∈kN c/\y∉t.Names.take k)\/∃j,j<k/\Mi t c j/\y=t.Names.getD j []:=fun y=>by
     constructor
     ·intro hy
      obtain⟨e,he,rfl⟩:=vai.1 hy
      rcases(hq e).1 he with⟨h2,h3⟩|⟨j,h2,h3,h4⟩
      ·exact .inl ⟨vai.2 ⟨e,h2,rfl⟩,h3⟩
      ·exact .inr ⟨j,h2,h3,by rw[h4]⟩
     ·rintro(⟨h1,h2⟩|⟨j,h1,h2,h3⟩)
      ·obtain⟨e,he,rfl⟩:=vai.1 h1
       exact vai.2 ⟨e,(hq e).2 (.inl ⟨he,h2⟩),rfl⟩
      ·exact vai.2 ⟨_,(hq _).2 (.inr ⟨j,h1,h2,rfl⟩),h3.symm⟩
    have hb1:mA t.Op t.Names k=t.Names.take k:=by unfold mA;rw[vap h6]
    have hb2:mA t.Op (eV t.Op t.Names (ba t c) t.Args.length).2.2 k=(eV t.Op t.Names (ba t c) t.Args.length).2.2.take k:=by unfold mA;rw[vap h6]
    rw[hb1,hb2,Sm t c h6 k (by omega),ih,hkey]
    have new:∀j,j<k->Mi t c j->nm t c j∉(ba t c).1:=fun j hj hr=>Sy ok j (by omega) hr.2.1
    have inT:∀y,y∈vT t.Args[k]->y∉t.Names.take k->y∈(ba t c).1:=fun y h1 h2=>by
     unfold ba
     refine vaS _ (va6 _ (wu.2 ?_))
     exact(v8 t y).2 (.inr ⟨k,_,vaa hkl,h1,by rw[hb1];exact h2⟩)
    have inC:∀e∈c,∀y,y∈rD e.2->y∈(ba t c).1:=fun e he y hy=>by
     unfold ba
     refine vaS _ (vaS _ (vcm.2 ⟨e.2,vai.2 ⟨e,he,rfl⟩,qS.2 hy⟩))
    constructor
    ·rintro⟨(⟨h1,h2⟩|⟨e,h1,h2,h3,h4⟩),h5⟩
     ·have hx:x∉t.Names.take k:=fun hc=>by
       obtain⟨j,hj,hjn⟩:=gg.1 hc
       have hjl:j<t.Names.length:=by
        by_cases hc:j<t.Names.length
        ·exact hc
        ·rw[vaz (by omega)]at hjn;cases hjn
       by_cases hr:Mi t c j
       ·exact h2 (.inr ⟨j,hj,hr,by rw[pQ _ j hjl];rw[vaa hjl]at hjn;exact(va0 hjn).symm⟩)
       ·exact h5 ⟨j,hj,.inr ⟨hr,hjn⟩⟩
      exact .inl ⟨h1,hx,fun hc=>h2 (.inl ⟨hc,hx⟩)⟩
     ·rcases(hq e).1 h1 with⟨h6',h7⟩|⟨j,h6',h7,h8⟩
      ·exact .inr ⟨e,h6',⟨h2,h7⟩,h3,h4⟩
      ·rw[h8]at h3
       have:x=nm t c j:=by
        have h3:x∈rD (Hx (nm t c j)):=h3
        simpa[Hx,rD,xa]using h3
       exact absurd ⟨j,h6',.inl ⟨h7,this⟩⟩ h5
    ·rintro(⟨h1,h2,h3⟩|⟨e,h1,⟨h2,h3⟩,h4,h5⟩)
     ·refine⟨.inl ⟨h1,?_⟩,?_⟩
      ·rintro(⟨h4,_⟩|⟨j,h4,h5,h6'⟩)
       ·exact h3 h4
       ·rw[pQ _ j h5.2.1]at h6'
        exact h2 (gg.2 ⟨j,h4,by rw[vaa h5.2.1,h6']⟩)
      ·rintro⟨j,h4,(⟨h5,h6'⟩|⟨h5,h6'⟩)⟩
       ·exact new j h4 h5 (h6'▸inT x h1 h2)
       ·exact h2 (gg.2 ⟨j,h4,h6'⟩)
     ·refine⟨.inr ⟨e,(hq e).2 (.inl ⟨h1,h3⟩),h2,h4,h5⟩,?_⟩
      rintro⟨j,h7,(⟨h8,h9⟩|⟨h8,h9⟩)⟩
      ·exact new j h7 h8 (h9▸inC e h1 x h4)
      ·have hjl:j<t.Names.length:=by
        by_cases hc:j<t.Names.length
        ·exact hc
        ·rw[vaz (by omega)]at h9;cases h9
       have hxj:t.Names.getD j []=x:=by rw[pQ _ j hjl];rw[vaa hjl]at h9;exact va0 h9
       refine h8 ⟨h6,hjl,(Nv _ _).2 ⟨e,(Ki _ _ _).2 ⟨(IZ t c h6 g2 j e).2 (.inl ⟨h1,fun hc=>?_⟩),fun hc=>?_⟩,by rw[hxj];exact h4⟩⟩
       ·obtain⟨i,hi,hin⟩:=gg.1 hc
        exact h3 (gg.2 ⟨i,by omega,hin⟩)
       ·exact h3 (gg.2 ⟨j,h7,by rw[h9,<-hxj,hc]⟩)
   ·have hb1:∀ns:List ag,mA t.Op ns k=[]:=fun ns=>by unfold mA;rw[vat h6]
    have hc:(eV t.Op t.Names (ba t c) k).2.1=c:=by rw[LB h6];rfl
    rw[hb1,hb1,hc]
    have ih:=Ja n t.Args[k] c (by omega) (by have:=Jn ok k hkl;rwa[hc]at this) ((zL _).1 g5 _ hm) hv x
    rw[ih]
    simp
  rw[v8 (vg t c),LC]
  show((x∈rD (Ea (kC (kN c) (kB c)) t.Pred)\/x∈xa (t.Preds.map (Ea (kC (kN c) (kB c)))))/\x≠[118])\/(∃k a',((t.Args.zipIdx).map (fun y=>vg y.1 (eV t.Op t.Names (ba t c) y.2).2.1))[k]? =some a'/\x∈vT a'/\x∉mA t.Op (eV t.Op t.Names (ba t c) t.Args.length).2.2 k)↔_
  rw[QY hnd t.Pred t.Preds g3 g4]
  constructor
  ·rintro(⟨(⟨h1,h2⟩|⟨e,h1,h2,h3⟩),h4⟩|⟨k,a',h1,h2,h3⟩)
   ·exact .inl ⟨(v8 t x).2 (.inl ⟨h1,h4⟩),h2⟩
   ·refine .inr ⟨e,h1,(v8 t e.1).2 (.inl ⟨h2,fun hc=>hv (vai.2 ⟨e,h1,hc⟩)⟩),h3,h4⟩
   ·obtain⟨a,ha,rfl⟩:=(IU t c k a').1 h1
    rcases(arg k a ha).1 ⟨h2,h3⟩with⟨h4,h5,h6⟩|⟨e,h4,⟨h5,h6⟩,h7,h8⟩
    ·exact .inl ⟨(v8 t x).2 (.inr ⟨k,a,ha,h4,h5⟩),h6⟩
    ·exact .inr ⟨e,h4,(v8 t e.1).2 (.inr ⟨k,a,ha,h5,h6⟩),h7,h8⟩
  ·rintro(⟨h1,h2⟩|⟨e,h1,h2,h3,h4⟩)
   ·rcases(v8 t x).1 h1 with⟨h5,h6⟩|⟨k,a,h5,h6,h7⟩
    ·exact .inl ⟨.inl ⟨h5,h2⟩,h6⟩
    ·have:=(arg k a h5).2 (.inl ⟨h6,h7,h2⟩)
     exact .inr ⟨k,_,(IU t c k _).2 ⟨a,h5,rfl⟩,this.1,this.2⟩
   ·rcases(v8 t e.1).1 h2 with⟨h5,h6⟩|⟨k,a,h5,h6,h7⟩
    ·exact .inl ⟨.inr ⟨e,h1,h5,h3⟩,h4⟩
    ·have:=(arg k a h5).2 (.inr ⟨e,h1,⟨h6,h7⟩,h3,h4⟩)
     exact .inr ⟨k,_,(IU t c k _).2 ⟨a,h5,rfl⟩,this.1,this.2⟩
end Go.Proofs.YtggeppllafbidaaGreatDoor
