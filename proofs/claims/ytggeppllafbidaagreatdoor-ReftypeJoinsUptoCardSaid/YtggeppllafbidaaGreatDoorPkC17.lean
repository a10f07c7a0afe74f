/- PROVED: a part of the proof. Conditions: none. -/
import Derived.Test.YtggeppllafbidaaGreatDoorPkC16
import Derived.Test.YtggeppllafbidaaGreatDoorPkC15
noncomputable section
namespace Go.Proofs.YtggeppllafbidaaGreatDoor
open Go
set_option linter.unusedVariables false
set_option linter.unusedSimpArgs false
def NF(M:Nat)(c:Sb):Prop:=∀e∈c,nP e.2<=M
theorem KH{M:Nat}{c:Sb}(h:NF M c)(x:ag):NF M (bY x c):=fun e he=>h e (vaL.1 he).1
theorem O5{M:Nat}{c:Sb}(hM:1<=M)(h:NF M c)(x y:ag):NF M (c++[(x,Ou y)]):=fun e he=>by
 rcases vaA.1 he with he|he
 ·exact h e he
 ·rw[va4.1 he,Pw];exact hM
theorem QU{M:Nat}(hM:1<=M)(o:Int)(ns:List ag)(i:Nat)(s:S3)(h:NF M s.2.1):NF M (wv o ns i s).2.1:=by
 unfold wv
 split
 ·split
  ·exact O5 hM (KH h _) _ _
  ·exact KH h _
 ·exact h
theorem O4{M:Nat}{c:Sb}(h:NF M c){n:ag}{q:aa}(hq:g9 (kN c) (kB c) n=some q):nP q<=M:=by
 have:=Pq hq
 obtain⟨e,he,rfl⟩:=vak.1 this
 exact h e he
mutual
theorem Mv(B M:Nat)(hM:1<=M):∀(t:ae) (c:Sb),NF M c->mR (fun p=>nP p<=B) t->mR (fun p=>nP p<=B * M) (ww t c)
 |⟨o,n,xs,ns,p,ps⟩,c,h,ht=>by
  rw[mR]at ht
  have hs:∀q,nP q<=B->nP (Cg (g9 (kN c) (kB c)) q)<=B * M:=fun q hq=>vaR (P2 _ M hM (fun n r hr=>O4 h hr) q) (vaM M hq)
  rw[ww,mR]
  refine⟨hs p ht.1,fun q hq=>?_,Ks B M hM o ns xs 0 _ h ht.2.2⟩
  obtain⟨q',hq',rfl⟩:=vak.1 hq
  exact hs q' (ht.2.1 q' hq')
theorem Ks(B M:Nat)(hM:1<=M)(o:Int)(ns:List ag):∀(xs:List ae) (i:Nat) (s:S3),NF M s.2.1->jP (fun p=>nP p<=B) xs->jP (fun p=>nP p<=B * M) (FD o ns i xs s).1
 |[],i,s,_,_=>by rw[FD];trivial
 |a::xs,i,s,h,ht=>by
  rw[jP]at ht
  rw[FD]
  show jP (fun p=>nP p<=B * M) (ww a s.2.1::(FD o ns (i+1) xs (wv o ns i s)).1)
  rw[jP]
  exact⟨Mv B M hM a s.2.1 h ht.1,Ks B M hM o ns xs (i+1) (wv o ns i s) (QU hM o ns i s h) ht.2⟩
end
def Ab(l:List ag)(by_:List aa):Sb:=xO [([118]:ag)] (l.zip by_)
theorem RE{M:Nat}:∀(c:Sb),NF M c->nL (kB c)<=c.length * M
 |[],_=>by simp[kB,nL]
 |e::c,h=>by
  have h1:=h e vbJ
  have h2:=RE c (fun x hx=>h x (vaU _ hx))
  show nL (e.2::kB c)<=_
  rw[nL,vaT,va0];omega
theorem Oy{α β:Type}(l:List α)(m:List β):(l.take (min l.length m.length)).zip (m.take (min l.length m.length))=l.zip m:=by
 exact List.zip_eq_zip_take_min.symm
theorem Sw(l:List ag)(m:List aa):kN (l.zip m)=l.take (min l.length m.length)/\kB (l.zip m)=m.take (min l.length m.length):=by
 rw[<-Oy l m]
 unfold kN kB
 have h:(l.take (min l.length m.length)).length=(m.take (min l.length m.length)).length:=by simp only[vaP];omega
 exact⟨vcW (by omega),List.map_snd_zip (by omega)⟩
theorem JI(t:ae)(l:List ag)(m:List aa)(hl:l.length<=1000000000)(h:PA t (Ab l m)):gu t l m=some (ww t (Ab l m)):=by
 unfold gu
 have e:(if(m.length:Int)<(l.length:Int)then(m.length:Int)else(l.length:Int))=((min l.length m.length:Nat):Int):=by split<;>omega
 rw[e,JX l _ (Nat.min_le_left _ _),JX m _ (Nat.min_le_right _ _)]
 simp only[vaa]
 have hk:=Sw l m
 have hw:=DG [([118]:ag)] (l.zip m) (by simp) (by rw[va8];omega)
 rw[hk.1,hk.2]at hw
 rw[hw]
 simp only[vaa]
 rw[show(⟨kN (xO [([118]:ag)] (l.zip m)),kB (xO [([118]:ag)] (l.zip m))⟩:ai)=⟨kN (Ab l m),kB (Ab l m)⟩from rfl,Rd t _ h]
 rfl
theorem JR(t:ae)(l:List ag)(m:List aa)(hl:l.length<=1000000000)(h:PA t (Ab l m)):pb t l m=some (ww t (Ab l m)):=by
 unfold pb oq
 have e:=zF l (by omega) (fun i (s:Sb)=>(i,kN s,kB s)) (fun(zz:Int×List ag×List aa)=>iP m l (l.length:Int) zz.1 zz.2.1 zz.2.2) (fun i s x=>(gO m i x (kN s)).bind fun o7=>if o7=true then(app (kN s) ([x]:List ag)).bind fun l10=>(dz m i).bind fun x11=>(app (kB s) ([x11]:List aa)).bind fun l12=>some (.inl (bC (i+1),l10,l12))else some (.inl (bC (i+1),kN s,kB s)))
  (fun i s=>s=xO [([118]:ag)] ((l.zip m).take i)) (fun i x s=>if h:i<m.length then(if x∈[([118]:ag)]\/x∈kN s then s else s++[(x,m[i])])else s) (fun s=>(kN s,kB s)) [] (by simp[xO]) (fun i s=>rfl) (fun i hi s hs=>?_)
 ·have key:∀(r:List ag) (k:Nat) (s:Sb),k+r.length=l.length->l.drop k=r->s=xO [([118]:ag)] ((l.zip m).take k)->nT (fun i x s=>if h:i<m.length then(if x∈[([118]:ag)]\/x∈kN s then s else s++[(x,m[i])])else s) r k s=Ab l m:=by
   intro r
   induction r with
   |nil=>
    intro k s hk _ hs
    rw[nT,hs,vaQ (by rw[va8];simp at hk;omega)]
    rfl
   | cons x r ih =>
    intro k s hk hd hs
    have hkl:k<l.length:=by simp at hk;omega
    rw[vbh hkl]at hd
    obtain⟨hx,hr⟩:=List.cons.inj hd
    rw[nT]
    refine ih (k+1) _ (by simp at hk;omega) hr ?_
    by_cases hm:k<m.length
    ·rw[dif_pos hm,Hg _ _ _ (by rw[va8];omega),<-hs,vb6]
     simp only[hx]
    ·rw[dif_neg hm,hs,vaQ (by rw[va8];omega),vaQ (by rw[va8];omega)]
  rw[key l 0 [] (by omega) rfl (by simp[xO])]at e
  rw[show loop (fun(zz:Int×List ag×List aa)=>iP m l (l.length:Int) zz.1 zz.2.1 zz.2.2) (0,[],[])=some (kN (Ab l m),kB (Ab l m))from e]
  simp only[vaa]
  rw[show(⟨kN (Ab l m),kB (Ab l m)⟩:aj)=⟨kN (Ab l m),kB (Ab l m)⟩from rfl,Lf t _ h]
  rfl
 ·have hsl:s.length<=i:=by
   rw[hs]
   have:=Ni [([118]:ag)] ((l.zip m).take i)
   rw[vaP]at this
   omega
  have hkn:(kN s).length=s.length:=by unfold kN;rw[vaB]
  have hkb:(kB s).length=s.length:=by unfold kB;rw[vaB]
  by_cases hm:i<m.length
  ·have hz:i<(l.zip m).length:=by rw[va8];omega
   have ht:=Hg [([118]:ag)] (l.zip m) i hz
   rw[<-hs,vb6]at ht
   rw[dif_pos hm]
   refine⟨?_,by rw[ht]⟩
   unfold gO
   rw[vad (by simp;omega)]
   by_cases hv:l[i]=[118]
   ·rw[vag (by simp[hv]),vad (.inl (by simp[hv]))]
    rfl
   ·rw[vad (by simpa using hv),nG _ _ (by rw[hkn];omega)]
    simp only[vaa]
    rw[NH]
    by_cases hin:l[i]∈kN s
    ·have:((kN s).any fun k=>k==l[i])=true:=vbr.2 ⟨_,hin,by simp⟩
     rw[this]
     simp only[vbV,vaH,if_false]
     rw[vad (.inr hin)]
    ·have:((kN s).any fun k=>k==l[i])=false:=by
      rw[vbm]
      intro y hy hc
      exact hin (by rw[<-eq_of_beq hc];exact hy)
     rw[this]
     simp only[vbG,if_true]
     rw[vag (by rw[not_or];exact⟨by simpa using hv,hin⟩)]
     rw[cX (by simp;omega),bD m i hm]
     simp only[vaa]
     rw[cX (by simp;omega)]
     simp[kN,kB]
  ·rw[dif_neg hm]
   refine⟨?_,by rw[hs,vaQ (by rw[va8];omega),vaQ (by rw[va8];omega)]⟩
   unfold gO
   rw[vag (by simp;omega)]
   rfl
mutual
theorem LF(B:Nat):∀(t:ae),wT t<=B->mR (fun p=>nP p<=B) t
 |⟨o,n,xs,ns,p,ps⟩,h=>by
  rw[wT]at h
  rw[mR]
  exact⟨by omega,fun q hq=>by have:=CJ hq;omega,Mu B xs (by omega)⟩
theorem Mu(B:Nat):∀(l:List ae),vM l<=B->jP (fun p=>nP p<=B) l
 |[],_=>trivial
 |a::xs,h=>by
  rw[vM]at h
  rw[jP]
  exact⟨LF B a (by omega),Mu B xs (by omega)⟩
end
theorem Fq:xq=some true:=by kernel_rfl
theorem Nz(t:ae)(ht:eb t<=bj):vK (Cr t) (fun _=>True):=by
 refine G4 (F:=wq) eb (fun x=>eb x<=bj) (fun _ _=>True) (fun R x hx ih=>?_) t ht (jm ht)
 show vK (rh (fun t=>R t) x) _
 unfold rh um
 have h1:=nM x
 refine eK (R:=fun _=>True) (IJ x.Args (by unfold bj at hx;omega) (fun i s=>(s,i)) (fun i s y=>(R y).bind fun r=>some (.inl (bC (s+r),bC (i+1)))) id (fun _ _=>True) (fun i s=>rfl) (fun i hi s _=>?_) (fun _ _=>trivial) 1 trivial) (fun a _=>bM trivial)
 exact eK (ih _ (lK (vau hi)) (by have:=lK (vau hi);omega)) (fun a _=>bM ⟨_,rfl,trivial⟩)
theorem QV(l:List ae)(hl:ke l<=bj)(hp:jP (fun p=>nP p<=bj) l):vK (I8 l) (fun _=>True):=by
 refine G4 (F:=Ct) ke (fun x=>ke x<=bj/\jP (fun p=>nP p<=bj) x) (fun _ _=>True) (fun R l hx ih=>?_) l ⟨hl,hp⟩ (jm hl)
 obtain⟨hl,hp⟩:=hx
 show vK (xr (fun a=>R a) l) _
 unfold xr zo
 have h1:=CD l
 refine eK (Da l (by unfold bj at hl;omega) _ (fun _=>True) (fun _=>True) (fun i=>rfl) (fun x hx i=>?_)) (fun a _=>by cases a<;>exact bM trivial)
 have hx1:=xB hx
 have hq:=(nK _ _).1 ((te _ _).1 hp _ hx)
 have h2:=nc x
 have h3:=rt x
 refine eK (R:=fun _=>True) ?_ (fun o _=>iV (fun _=>bM trivial) (fun _=>?_))
 ·unfold zn
  rw[FI]
  exact eK (Nz x (by omega)) fun _ _=>iV (fun _=>bM trivial) fun _=>rO (a:=(nP x.Pred:Int)) (by rw[jG];exact Bg _ hq.1) (iV (fun _=>bM trivial) fun _=>iV (fun _=>bM trivial) fun _=>iV (fun _=>bM trivial) fun _=>eK (ih x.Args (by omega) ⟨by omega,hq.2.2⟩) fun _ _=>bM trivial)
 ·unfold zp
  refine eK (Da x.Preds (by unfold bj at hl;omega) _ (fun _=>True) (fun _=>True) (fun i=>rfl) (fun q hq' i=>?_)) (fun a _=>by
   cases a with
   |inl _=>exact bM trivial
   |inr _=>exact bM ⟨rfl,trivial⟩)
  exact rO (Bg q (hq.2.1 q hq')) (iV (fun _=>bM trivial) (fun _=>bM ⟨rfl,trivial⟩))
theorem Rj(l:List aa)(hl:l.length<9223372036854775808)(hp:∀q∈l,nP q<=bj):vK (xt l) (fun r=>(!r)=true\/(l.length<=8/\∀q∈l,nP q<=30)):=by
 unfold xt uq
 refine eK (Da l hl _ (fun q=>nP q<=30) (fun _=>True) (fun i=>rfl) (fun x hx i=>rO (Bg x (hp x hx)) (iV (fun _=>bM trivial) fun h=>bM ⟨rfl,by
  have:¬((nP x:Int)>30):=fun hc=>h (vaX hc)
  omega⟩))) (fun r hr=>?_)
 cases r with
 |inl _=>exact bM (.inl rfl)
 | inr _ =>
  refine bM ?_
  by_cases h:(l.length:Int)<=8
  ·exact .inr ⟨by omega,hr⟩
  ·exact .inl (by simp;omega)
theorem PR{l:List aa}{q:aa}(h:q∈l):nP q<=mw (l.map ac):=by
 have:=Bk (vak.2 ⟨q,h,rfl⟩:ac q∈l.map ac)
 have:=MV q
 omega
theorem NN(e:ag×aa)(c:Sb)(n:ag):g9 (kN (e::c)) (kB (e::c)) n=if e.1=n then some e.2 else g9 (kN c) (kB c) n:=by
 unfold g9 kN kB
 rw[vay,vay,vck]
 by_cases h:e.1=n
 ·have:(e.1==n)=true:=by simpa using h
  rw[this,vad h];rfl
 ·have:(e.1==n)=false:=by simpa using h
  rw[this,vag h]
  simp only[vaH,if_false]
  cases(c.map (·.1)).findIdx? (fun x=>x==n)<;>rfl
theorem wA:∀(c:Sb),(kN c).Nodup->∀n q,g9 (kN c) (kB c) n=some q↔(n,q)∈c
 |[],_,n,q=>by simp[g9,kN,kB]
 | e :: c,h,n,q => by
  have hn:e.1∉kN c/\(kN c).Nodup:=vbM.1 h
  rw[NN,vaE]
  by_cases he:e.1=n
  ·rw[vad he]
   constructor
   ·intro hq
    left
    rw[<-he,<-vbk hq]
   ·rintro(hq|hq)
    ·rw[<-hq]
    ·exact absurd (vak.2 ⟨(n,q),hq,he.symm⟩:e.1∈kN c) hn.1
  ·rw[vag he,wA c hn.2]
   constructor
   ·exact .inr
   ·rintro(hq|hq)
    ·exact absurd (by rw[<-hq]) he
    ·exact hq
theorem NO{c c':Sb}(hp:c.Perm c')(h:(kN c).Nodup):g9 (kN c) (kB c)=g9 (kN c') (kB c'):=by
 have h':(kN c').Nodup:=((hp.map (·.1)).nodup_iff).1 h
 funext n
 cases hl:g9 (kN c) (kB c) n with
 |some q=>exact((wA c' h' n q).2 (hp.mem_iff.1 ((wA c h n q).1 hl))).symm
 | none =>
  cases hl':g9 (kN c') (kB c') n with
  |none=>rfl
  |some q=>
   have:=(wA c h n q).2 (hp.mem_iff.2 ((wA c' h' n q).1 hl'))
   rw[hl]at this;cases this
theorem LV{c c':Sb}(hp:c.Perm c')(x:ag):mS x c=mS x c':=by
 rw[<-zx,<-zx]
 have:(x∈(kB c).flatMap cH)↔(x∈(kB c').flatMap cH):=by
  rw[vbA,vbA]
  have hb:=hp.map (·.2)
  exact⟨fun⟨q,h1,h2⟩=>⟨q,hb.mem_iff.1 h1,h2⟩,fun⟨q,h1,h2⟩=>⟨q,hb.mem_iff.2 h1,h2⟩⟩
 simp only[this]
structure Rg(s s':S3):Prop where
 u:∀x,x∈s.1↔x∈s'.1
 p:s.2.1.Perm s'.2.1
 n:(kN s.2.1).Nodup
 w:s.2.2=s'.2.2
theorem Rg.step{s s':S3}(h:Rg s s')(o:Int)(ns:List ag)(i:Nat):Rg (wv o ns i s) (wv o ns i s'):=by
 have hd:(bY (ns.getD i []) s.2.1).Perm (bY (ns.getD i []) s'.2.1):=h.p.filter _
 have hf:gK s.1 (ns.getD i [])=gK s'.1 (ns.getD i []):=AR h.u _
 unfold wv
 by_cases hc:o=6/\i<ns.length
 ·rw[vad hc,vad hc,<-LV hd]
  split
  ·refine⟨fun x=>?_,?_,?_,?_⟩
   ·simp only[vaA,h.u x,hf]
   ·simp only[hf]
    exact hd.append (.refl _)
   ·show(kN (bY (ns.getD i []) s.2.1++[(ns.getD i [],_)])).Nodup
    unfold kN
    rw[vbv,vcw]
    refine⟨qj h.n,by simp,fun a ha b hb=>?_⟩
    simp only[vay,vcj,va4]at hb
    rw[hb]
    intro he
    exact KF _ _ (he▸ha)
   ·simp only[hf,h.w]
  ·exact⟨h.u,hd,qj h.n,h.w⟩
 ·rw[vag hc,vag hc]
  exact h
theorem NI{c c':Sb}(hp:c.Perm c')(x:ag):x∈(kB c).flatMap cH↔x∈(kB c').flatMap cH:=by
 rw[vbA,vbA]
 have hb:=hp.map (·.2)
 exact⟨fun⟨q,h1,h2⟩=>⟨q,hb.mem_iff.1 h1,h2⟩,fun⟨q,h1,h2⟩=>⟨q,hb.mem_iff.2 h1,h2⟩⟩
mutual
theorem KC:∀(t:ae) (c c':Sb),c.Perm c'->(kN c).Nodup->ww t c=ww t c'
 |⟨o,n,xs,ns,p,ps⟩,c,c',hp,hn=>by
  have h:=KA o ns xs 0 (((kB c).flatMap cH++freeT ⟨o,n,xs,ns,p,ps⟩)++ns,c,ns) (((kB c').flatMap cH++freeT ⟨o,n,xs,ns,p,ps⟩)++ns,c',ns) ⟨fun x=>by simp only[vaA,NI hp x],hp,hn,rfl⟩
  rw[ww,ww,h,NO hp hn]
theorem KA(o:Int)(ns:List ag):∀(xs:List ae) (i:Nat) (s s':S3),Rg s s'->FD o ns i xs s=FD o ns i xs s'
 |[],i,s,s',h=>by rw[FD,FD,h.w]
 |a::xs,i,s,s',h=>by
  rw[FD,FD,KC a s.2.1 s'.2.1 h.p h.n,KA o ns xs (i+1) _ _ (h.step o ns i)]
end
theorem Lq(p:aa)(hp:nP p<=bj):kW p=some p:=by
 refine iQ (F:=uU) nP (fun p=>nP p<=bj) id (fun R p hp ih=>?_) p hp (jm hp)
 show pC (fun p=>R p) p=some p
 unfold pC sS
 have hlen:=nV p
 rw[lb p.Kids (by unfold bj at hp;omega) (fun i s=>(i,s)) _ R id id (fun i s=>rfl) (fun y hy=>ih y (lS hy) (by have:=lS hy;omega)),vcZ]
 simp only[vaa,id]
 rw[jG]
theorem P9(t:ae)(ht:eb t<=bj)(hp:mR (fun p=>nP p<=bj) t):xe t [] []=some t:=by
 refine iQ (F:=sR) (fun x=>eb x.1) (fun x=>eb x.1<=bj/\mR (fun p=>nP p<=bj) x.1/\x.2=([],[])) (fun x=>x.1) (fun R x hx ih=>?_) (t,[],[]) ⟨ht,hp,rfl⟩ (jm ht)
 obtain⟨t,l,m⟩:=x
 obtain⟨hx,hq,he⟩:=hx
 cases he
 have hx:eb t<=bj:=hx
 have hq':=(nK _ _).1 (show mR (fun p=>nP p<=bj) t from hq)
 have h1:=nM t
 have h2:=nc t
 have h3:=li t
 unfold bj at hx
 show nE (fun t a a2=>R (t,a,a2)) t [] []=some t
 have hj:mq (fun t a a2=>R (t,a,a2)) [] [] t=some (.inr ()):=by
  unfold mq
  split
  ·rfl
  ·rfl
 unfold nE
 rw[hj]
 simp only[vaa]
 rw[cX (by simp;omega),va3,Lq _ hq'.1]
 simp only[vaa]
 unfold qL qM
 rw[lb t.Args (by omega) (fun i s=>(i,s)) _ (fun y=>R (y,[],[])) id id (fun i s=>rfl) (fun y hy=>ih (y,[],[]) (lK hy) ⟨by have:=lK hy;show eb y<=bj;unfold bj;omega,(te _ _).1 hq'.2.2 y hy,rfl⟩),vcZ]
 simp only[vaa,id]
 rw[lb t.Preds (by omega) (fun i s=>(i,s)) _ kW id id (fun i s=>rfl) (fun y hy=>Lq y (hq'.2.1 y hy)),vcZ]
 simp only[vaa,id]
 rw[Ig]
theorem GR(t:ae)(ht:eb t<=bj)(hp:mR (fun p=>nP p<=bj) t):jt t=some t:=by
 unfold jt
 rw[P9 t ht hp];rfl
def Ku(t:ae)(p:aa):ae:=if t.Op=6 then t else⟨t.Op,t.Name,t.Args,t.Names,Cw [t.Pred,p] none,t.Preds⟩
theorem M2(t:ae)(p:aa)(ht:eb t<=bj)(hp:mR (fun p=>nP p<=bj) t)(hq:nP p<=bj):n8 t p=some (Ku t p):=by
 unfold n8 Ku
 have hq':=(nK _ _).1 hp
 rw[GR t ht hp]
 simp only[vaa]
 by_cases h6:t.Op=6
 ·rw[vag (by simp[h6]),vad h6]
 ·rw[vad (by simpa using h6),vag h6,Sa [t.Pred,p] (fun x hx=>by
   rcases vaE.1 hx with rfl|hx
   ·exact hq'.1
   ·rw[va4.1 hx];exact hq) (by simp)]
  rfl
theorem M8(t:ae)(p:aa):Aq t p=some (Ku t p):=by
 unfold Aq Ku
 by_cases h6:t.Op=6
 ·rw[vag (by simp[h6]),vad h6]
 ·rw[vad (by simpa using h6),vag h6,Rf [t.Pred,p] (by simp)]
  rfl
def DJ(t:ae)(name:ag):aa:=⟨if t.Op=2 then 18 else 10,[],0,[⟨3,[118],0,[]⟩,⟨3,name,0,[]⟩]⟩
def G1(t:ae)(name:ag):ae:=if 1<=t.Op/\t.Op<=4 then Ku t (DJ t name)else t
theorem Nb(t:ae)(name:ag):nP (DJ t name)=3:=rfl
theorem PC(t:ae)(name:ag)(ht:eb t<=bj)(hp:mR (fun p=>nP p<=bj) t):mf t name=some (G1 t name):=by
 have hb:bj=1073741824:=rfl
 have ha:=M2 t (DJ t name) ht hp (by rw[Nb];omega)
 unfold mf oH oI G1
 by_cases h2:t.Op=2
 ·rw[vad (by simpa using h2),vad (by omega),<-ha]
  have e:DJ t name=⟨18,[],0,[⟨3,[118],0,[]⟩,⟨3,name,0,[]⟩]⟩:=by unfold DJ;rw[vad h2]
  rw[e]at ha ⊢
  simp only[vaa]
  rw[ha]
  rfl
 ·rw [vag (by simpa using h2)]
  have e:DJ t name=⟨10,[],0,[⟨3,[118],0,[]⟩,⟨3,name,0,[]⟩]⟩:=by unfold DJ;rw[vag h2]
  rw[e]at ha
  by_cases h1:t.Op=1
  ·rw[vad (by simpa using h1),vad (by omega),e,<-ha]
   simp[h1]
  ·rw[vag (by simpa using h1)]
   by_cases h3:t.Op=3
   ·rw[vad (by simpa using h3),vad (by omega),e,<-ha]
    simp[h3]
   ·rw[vag (by simpa using h3)]
    by_cases h4:t.Op=4
    ·rw[vad (by omega),e,<-ha]
     simp[h4]
    ·rw[vag (by omega)]
     have:(t.Op==4)=false:=by simpa using h4
     rw[this]
     simp only[vaa,vaH,if_false]
     rw[GR t ht hp]
     simp only[vaa]
     rw[FI]
theorem PW(t:ae)(name:ag):As t name=some (G1 t name):=by
 have hb:Ar t=some (decide (1<=t.Op/\t.Op<=4)):=by
  unfold Ar
  by_cases h1:1<=t.Op
  ·rw[vad (vaX (by omega))]
   by_cases h4:t.Op<=4
   ·rw[vaX h4,vaX (⟨h1,h4⟩:1<=t.Op/\t.Op<=4)]
   ·rw[decide_eq_false h4,decide_eq_false (fun h=>h4 h.2)]
  ·rw[vag (by simp;omega),decide_eq_false (fun h=>h1 h.1)]
 have hj:qZ t=some (if t.Op=2 then 18 else 10):=by
  unfold qZ
  by_cases h2:t.Op=2
  ·rw[vad (by simpa using h2),vad h2]
  ·rw[vag (by simpa using h2),vag h2]
 unfold As
 rw[hb,hj]
 simp only[vaa]
 unfold G1
 by_cases h:1<=t.Op/\t.Op<=4
 ·rw[vaX h,vad h,show(⟨if t.Op=2 then 18 else 10,[],0,[⟨3,[118],0,[]⟩,⟨3,name,0,[]⟩]⟩:aa)=DJ t name from rfl,M8]
  rfl
 ·rw[decide_eq_false h,vag h]
  rfl
theorem Ow(p:aa):Az p=some (decide (p=gC)):=by
 unfold Az
 have h1:fA p (⟨0,([]:ag),0,([]:List aa)⟩:aa)=some (decide (p=gC)):=tD p gC MW
 rw[h1];rfl
def SU(t:ae)(q:aa):aa:=if t.Op=6\/t.Pred=gC then d5 else Cg (DH [118] q) t.Pred
theorem Sy(t:ae)(q:aa)(h:nP t.Pred<=bj)(hq:nP q<=bj):qD t q=some (SU t q):=by
 unfold qD sP mj SU
 by_cases h6:t.Op=6
 ·rw[vad (by simpa using h6),vad (.inl h6)];rfl
 ·rw[vag (by simpa using h6),show jI t.Pred (⟨0,[],0,[]⟩:aa)=some (decide (t.Pred=gC))from EU t.Pred gC h]
  simp only[vaa]
  by_cases hz:t.Pred=gC
  ·rw[vad (by simpa using hz),vad (.inr hz)];rfl
  ·rw[vag (by simpa using hz),vag (by simp[h6,hz]),N9 _ _ _ h hq];rfl
theorem SB(t:ae)(q:aa)(h:nP t.Pred<=bj):I1 t q=some (SU t q):=by
 unfold I1 Cn SU
 by_cases h6:t.Op=6
 ·rw[vad (by simpa using h6),vad (.inl h6)];rfl
 ·rw[vag (by simpa using h6),Ow]
  simp only[vaa]
  by_cases hz:t.Pred=gC
  ·rw[vad (by simpa using hz),vad (.inr hz)];rfl
  ·rw[vag (by simpa using hz),vag (by simp[h6,hz]),Oh _ _ _ h];rfl
theorem Ga{σ X:Type}(n:Nat)(body:σ->Option (σ⊕X))(S:Nat->σ)(e:X)(hin:∀i,i<n->body (S i)=some (.inl (S (i+1))))(hend:body (S n)=some (.inr e)):loop body (S 0)=some e:=by
 have key:∀k i,k+i=n->loop body (S i)=some e:=by
  intro k
  induction k with
  |zero=>
   intro i hi
   have:i=n:=by omega
   subst this
   exact mT hend
  |succ k ih=>
   intro i hi
   rw[pH (hin i (by omega))]
   exact ih (i+1) (by omega)
 exact key n 0 (by omega)
theorem LG:∀(l:List aa) (s:Option aa),nP (Cw l s)<=2 * nL l+(s.elim 1 nP)
 |[],none=>by simp[Cw,nP,nL,d5]
 |[],some q=>by simp[Cw,nL]
 | p :: l,s => by
  rw[Cw,nL]
  have h1:=LG l s
  have h2:=LG l (some (HA s p))
  have h3:=L8 p
  have h4:(s.elim 1 nP)>=1:=by cases s with|none=>simp|some q=>exact L8 q
  split
  ·omega
  ·split
   ·simp[lP,nP,nL];omega
   ·refine vaR h2 ?_
    cases s with
    |none=>simp[HA];omega
    |some q=>simp[HA,nP,nL];omega
theorem Ad{A:Type}(n:Nat)(hn:n<9223372036854775808){body:Int->Option (Int⊕(A⊕Unit))}(P:Nat->Prop)(B:A->Prop)
  (hin:∀i:Nat,i<n->vK (body (i:Int)) (fun r=>r.elim (fun t=>t=bC ((i:Int)+1)/\P i) (fun y=>y.elim B (fun _=>False)))) (hend:body (n:Int)=some (.inr (.inr ()))):vK (loop body 0) (fun r=>r.elim B (fun _=>∀i,i<n->P i)):=by
 have key:∀k i,k+i=n->(∀j,j<i->P j)->vK (loop body (i:Int)) (fun r=>r.elim B (fun _=>∀i,i<n->P i)):=by
  intro k
  induction k with
  |zero=>
   intro i hi hP
   have:i=n:=by omega
   subst this
   rw[mT hend]
   exact bM hP
  | succ k ih =>
   intro i hi hP
   obtain⟨r,e,hr⟩:=hin i (by omega)
   rw[lT,e]
   cases r with
   | inl t =>
    obtain⟨rfl,hp⟩:=hr
    simp only
    rw[gA (by omega) (by omega),show((i:Int)+1)=((i+1:Nat):Int) by omega]
    exact ih (i+1) (by omega) fun j hj=>by
     by_cases he:j=i
     ·subst he;exact hp
     ·exact hP j (by omega)
   |inr y=>
    cases y with
    |inl a=>exact⟨_,rfl,hr⟩
    |inr u=>exact hr.elim
 exact key n 0 (by omega) fun j hj=>absurd hj (vaN _)
theorem Py{l:List ag}(h:∀i (hi:i<l.length),∀k (hk:k<l.length),k<i->l[i]≠l[k]):l.Nodup:=by
 unfold List.Nodup
 rw[vbC]
 intro i j hi hj hij he
 exact h j hj i hi hij he.symm
theorem PD(t:ae)(ht:eb t<=bj):vK (uo t) (fun r=>r=true->t.Op=6->t.Names.Nodup/\t.Names.length+1<=max t.Args.length 1):=by
 have hF:uo t=(nS pk) t:=rfl
 rw[hF]
 refine G4 (F:=pk) eb (fun x=>eb x<=bj) (fun t r=>r=true->t.Op=6->t.Names.Nodup/\t.Names.length+1<=max t.Args.length 1) (fun R x hx ih=>?_) t ht (jm ht)
 show vK (pj (fun t=>R t) x) _
 have h1:=nM x
 have h2:=li x
 unfold bj at hx
 unfold pj sA
 refine eK (R:=fun o=>o.elim (fun _=>True) (fun _=>x.Op=6->x.Names.Nodup/\x.Names.length+1<=max x.Args.length 1)) (iV (fun h6=>iV (fun _=>bM trivial) (fun hl=>?_)) (fun h6=>bM (fun h=>absurd (by simpa using h) h6))) (fun o ho=>?_)
 ·unfold sB
  have hlen:x.Names.length+1<=max x.Args.length 1:=by
   have hl':¬((x.Names.length:Int)>(if 0>(bC ((x.Args.length:Int) - 1))then 0 else bC ((x.Args.length:Int) - 1))):=fun hc=>hl (vaX hc)
   rw[gA (by omega) (by omega)]at hl'
   split at hl'<;>omega
  refine eK (Ad x.Names.length (by omega) (fun i=>∀(hi:i<x.Names.length),∀k (hk:k<x.Names.length),k<i->x.Names[i]≠x.Names[k]) (fun _=>True) (fun i hi=>?_) ?_) (fun o ho=>?_)
  ·unfold kw
   rw[vad (vaX (by omega))]
   unfold sC
   refine eK (Ad i (by omega) (fun k=>∀(hk:k<x.Names.length),x.Names[i]≠x.Names[k]) (fun _=>True) (fun k hk=>?_) ?_) (fun o ho=>?_)
   ·unfold ky
    rw[vad (vaX (by omega)),bD _ i hi]
    simp only[vaa]
    rw[bD _ k (by omega)]
    simp only[vaa]
    exact iV (fun _=>bM trivial) (fun hne=>bM ⟨rfl,fun _=>by simpa using hne⟩)
   ·unfold ky
    rw[vag (by simp)]
   ·cases o with
    |inl _=>exact bM trivial
    |inr _=>
     have ho:∀k,k<i->∀(hk:k<x.Names.length),x.Names[i]≠x.Names[k]:=ho
     exact bM ⟨rfl,fun _ k hk hki=>ho k hki hk⟩
  ·unfold kw
   rw[vag (by simp)]
  ·cases o with
   |inl _=>exact bM trivial
   |inr _=>
    have ho:∀i,i<x.Names.length->∀(hi:i<x.Names.length),∀k (hk:k<x.Names.length),k<i->x.Names[i]≠x.Names[k]:=ho
    exact bM (fun _=>⟨Py (fun i hi k hk hki=>ho i hi hi k hk hki),hlen⟩)
 ·cases o with
  |inl _=>exact bM (fun h=>by cases h)
  | inr _ =>
   have ho:x.Op=6->x.Names.Nodup/\x.Names.length+1<=max x.Args.length 1:=ho
   simp only
   unfold sD
   refine eK (Ad x.Args.length (by omega) (fun _=>True) (fun _=>True) (fun i hi=>?_) ?_) (fun r _=>?_)
   ·unfold kz
    rw[vad (vaX (by omega)),bD _ i hi]
    simp only[vaa]
    exact eK (ih _ (lK (vau hi)) (by have:=lK (vau hi);unfold bj;omega)) (fun b _=>iV (fun _=>bM trivial) (fun _=>bM ⟨rfl,trivial⟩))
   ·unfold kz
    rw[vag (by simp)]
   ·cases r with
    |inl _=>exact bM (fun h=>by cases h)
    |inr _=>exact bM (fun _=>ho)
def d6(t:ae)(args:List aa):Sb:=t.Names.zip args
theorem Ox{l:List ag}{m:List aa}(i:Nat)(hi:i<l.length)(hm:i<m.length):(l.zip m).take (i+1)=(l.zip m).take i++[(l[i],m[i])]:=by
 rw[va5 (by rw[va8];omega),vb6]
theorem MP(l:List ag)(m:List aa)(h:l.length<=m.length)(i:Nat):kN ((l.zip m).take i)=l.take i:=by
 unfold kN
 rw[List.map_take,vcW h]
theorem NE{x:ag}{c:Sb}(h:x∉kN c):bY x c=c:=by
 unfold bY
 rw[vca]
 intro e he
 have:e.1≠x:=fun hc=>h (vak.2 ⟨e,he,hc⟩)
 simpa using this
theorem NX(t:ae)(args:List aa)(hn:t.Names.Nodup)(hl:t.Names.length<=args.length)(ha:args.length<=1000000):jL args t.Names (t.Names.length:Int) 0 [] []=some (kN (d6 t args),kB (d6 t args)):=by
 unfold jL
 have e:=Ga t.Names.length (fun(zz:Int×List ag×List aa)=>dl args t.Names (t.Names.length:Int) zz.1 zz.2.1 zz.2.2) (fun i=>((i:Int),kN ((d6 t args).take i),kB ((d6 t args).take i))) (kN (d6 t args),kB (d6 t args)) (fun i hi=>?_) ?_
 ·exact e
 ·show dl args t.Names (t.Names.length:Int) (i:Int) (kN ((d6 t args).take i)) (kB ((d6 t args).take i))=_
  unfold dl
  rw[vad (by simp;omega),bD _ i hi]
  simp only[vaa]
  rw[vad (by simp;omega),bD args i (by omega)]
  simp only[vaa]
  have hk:=MP t.Names args hl i
  have hkn:(kN ((d6 t args).take i)).Nodup:=by
   unfold d6;rw[hk];exact(vcR _ _).nodup hn
  have hnot:t.Names[i]∉kN ((d6 t args).take i):=by
   unfold d6;rw[hk]
   intro hm
   obtain⟨k,hk1,hk2⟩:=vcK.1 hm
   rw[vaP]at hk1
   rw[List.getElem_take]at hk2
   have hp:=hn
   unfold List.Nodup at hp
   rw[vbC]at hp
   exact hp k i (by omega) hi (by omega) hk2
  have hw:=Lb t.Names[i] args[i] ((d6 t args).take i) hkn (by
   have:((d6 t args).take i).length<=i:=List.length_take_le _ _
   have h3:t.Names.length<=1000000:=by omega
   omega)
  rw[NE hnot]at hw
  rw[hw]
  simp only[vaa]
  have ht:(d6 t args).take (i+1)=(d6 t args).take i++[(t.Names[i],args[i])]:=Ox i hi (by omega)
  rw[ht,gA (by omega) (by omega),show((i:Int)+1)=((i+1:Nat):Int) by omega]
 ·show dl args t.Names (t.Names.length:Int) (t.Names.length:Int) (kN ((d6 t args).take t.Names.length)) (kB ((d6 t args).take t.Names.length))=_
  unfold dl
  rw[vag (by simp),vaQ (by unfold d6;rw[va8];omega)]
theorem Oa(t:ae)(args:List aa)(hl:t.Names.length<=args.length)(ha:args.length<=1000000):o0 args t [] [] (bC ((args.length:Int) - 1))=some (kN (d6 t args).reverse,kB (d6 t args).reverse):=by
 unfold o0
 rw[gA (by omega) (by omega)]
 have e:=Ga args.length (fun(zz:List ag×List aa×Int)=>eU args t zz.1 zz.2.1 zz.2.2) (fun k=>(kN ((d6 t args).drop (args.length - k)).reverse,kB ((d6 t args).drop (args.length - k)).reverse,(args.length:Int) - 1 - (k:Int))) (kN (d6 t args).reverse,kB (d6 t args).reverse) (fun k hk=>?_) ?_
 ·have e0:(d6 t args).drop (args.length - 0)=[]:=vbx (by unfold d6;rw[va8];omega)
  rw[e0,show(args.length:Int) - 1 - ((0:Nat):Int)=(args.length:Int) - 1 by omega]at e
  exact e
 ·obtain⟨i,hi⟩:∃i,i=args.length - (k+1):=⟨_,rfl⟩
  have ei:(args.length:Int) - 1 - (k:Int)=(i:Int):=by omega
  show eU args t (kN ((d6 t args).drop (args.length - k)).reverse) (kB ((d6 t args).drop (args.length - k)).reverse) ((args.length:Int) - 1 - (k:Int))=_
  rw[ei,show args.length - k=i+1 by omega,<-hi,show(args.length:Int) - 1 - ((k+1:Nat):Int)=(i:Int) - 1 by omega]
  unfold eU uc
  rw[vad (by simp)]
  have hzl:(d6 t args).length=t.Names.length:=by unfold d6;rw[va8];omega
  by_cases hn:i<t.Names.length
  ·have hd:(d6 t args).drop i=(t.Names[i],args[i]'(by omega))::(d6 t args).drop (i+1):=by
    rw[vbh (by omega)]
    congr 1
    unfold d6
    rw[vb6]
   have hlen:((d6 t args).drop (i+1)).length<=1000000:=by rw[vbF];omega
   rw[vad (by simp;omega),bD _ i hn]
   simp only[vaa]
   rw[cX (by unfold kN;rw[vaB,vbR];simp;omega),bD args i (by omega)]
   simp only[vaa]
   rw[cX (by unfold kB;rw[vaB,vbR];simp;omega)]
   simp only[vaa]
   rw[hd,vcr,gA (by omega) (by omega)]
   simp[kN,kB]
  ·rw[vag (by simp;omega)]
   simp only[vaa]
   rw[vbx (by omega),vbx (by omega),gA (by omega) (by omega)]
 ·show eU args t (kN ((d6 t args).drop (args.length - args.length)).reverse) (kB ((d6 t args).drop (args.length - args.length)).reverse) ((args.length:Int) - 1 - (args.length:Int))=_
  unfold eU
  rw[vag (by simp;omega),vbL,vba]
theorem SO:∀(c:Sb),(kN c).zip (kB c)=c:=od
theorem Hf(hid:List ag):∀(c o:Sb),(kN (o++c)).Nodup->c.foldl (fun o e=>if e.1∈hid\/e.1∈kN o then o else o++[e]) o=o++c.filter (fun e=>decide (e.1∉hid))
 |[],o,_=>by simp
 | e :: c,o,h => by
  have hne:e.1∉kN o:=by
   unfold kN at h ⊢
   rw[vbv,vcw]at h
   intro hm
   exact h.2.2 _ hm _ (vak.2 ⟨e,vbJ,rfl⟩) rfl
  rw[List.foldl_cons]
  by_cases hh:e.1∈hid
  ·rw[vad (.inl hh),va1,vag (by simpa using hh)]
   refine Hf hid c o ?_
   unfold kN at h ⊢
   rw[vbv]at h ⊢
   exact(List.Sublist.append_left (List.sublist_cons_self _ _) _).nodup h
  ·rw[vag (by rw[not_or];exact⟨hh,hne⟩),va1,vad (by simpa using hh)]
   rw[Hf hid c (o++[e]) (by rw[vbf];exact h),vbf]
   rfl
theorem IH(c:Sb)(h:(kN c).Nodup):Ab (kN c) (kB c)=c.filter (fun e=>decide (e.1∉[([118]:ag)])):=by
 unfold Ab xO
 rw[SO,Hf _ c [] (by simpa using h),va3]
def OO(t:ae)(args:List aa):ae:=ww (t.Args.getD args.length ⟨0,[],[],[],gC,[]⟩) ((d6 t args).filter (fun e=>decide (e.1∉[([118]:ag)])))
theorem uv{c:Sb}(f:ag×aa->Bool)(h:(kN c).Nodup):(kN (c.filter f)).Nodup:=List.Sublist.nodup (List.Sublist.map (fun e:ag×aa=>e.1) vce) h
theorem KZ{t x:ae}(hx:x∈t.Args)(ht:wL (af t)<=1048576){c:Sb}(hn:(kN c).Nodup)(hc:nL (kB c)<=1048576):PA x c where
 nd:=hn
 sz:=by have:=ER t;have:=lK hx;omega
 w:=by have h1:=Nh t;have h2:=J4 hx;have h3:=Hd t;omega
 n:=H1 (by omega) _ (Kr (Mt 1048576 t ht) hx)
theorem Kw{t:ae}{args:List aa}(hq:∀q∈args,nP q<=30):NF 30 (d6 t args):=fun e he=>hq _ (List.of_mem_zip he).2
theorem QD(t:ae)(args:List aa)(ht:wL (af t)<=1048576)(ha:args.length<=8)(hq:∀q∈args,nP q<=30)(h6:t.Op=6)(hl:t.Args.length=args.length+1)(hn:t.Names.Nodup)(hnl:t.Names.length<=args.length):eP t args=some (OO t args,0)/\mI t args=some (OO t args,0):=by
 have hi:args.length<t.Args.length:=by omega
 have hkk:(kN (d6 t args)).Nodup:=by
  have:=MP t.Names args hnl (d6 t args).length
  have e:(d6 t args).take (d6 t args).length=d6 t args:=vbQ
  unfold d6 at this e ⊢
  rw[e]at this
  rw[this]
  exact(vcR _ _).nodup hn
 have hkr:(kN (d6 t args).reverse).Nodup:=by
  unfold kN at hkk ⊢
  rw[List.map_reverse]
  exact((vcS _).nodup_iff).2 hkk
 have hlen:(d6 t args).length<=8:=by unfold d6;rw[va8];omega
 have hf:=Kw (t:=t) hq
 have small:∀c:Sb,c.Sublist (d6 t args)\/c.Sublist (d6 t args).reverse->nL (kB c)<=1048576:=fun c hc=>by
  have h1:NF 30 c:=fun e he=>by
   rcases hc with hc|hc
   ·exact hf e (hc.subset he)
   ·exact hf e (by have:=hc.subset he;simpa using this)
  have h2:c.length<=8:=by
   rcases hc with hc|hc
   ·have:=hc.length_le;omega
   ·have:=hc.length_le;rw[vbR]at this;omega
  have h3:=RE c h1
  have:c.length * 30<=8 * 30:=vaM _ h2
  omega
 have hx:=vau hi
 have hg:t.Args.getD args.length ⟨0,[],[],[],gC,[]⟩=t.Args[args.length]:=by rw[vai,vab hi];rfl
 have hnl2:∀c:Sb,c.length<=8->(kN c).length<=1000000000:=fun c h=>by unfold kN;rw[vaB];omega
 constructor
 ·unfold eP gr
  rw[vag (by simp[h6])]
  simp only[vaa]
  rw[gA (by omega) (by omega),vag (by simp;omega),NX t args hn hnl (by omega),bD _ _ hi]
  simp only[vaa]
  have e:=IH (d6 t args) hkk
  rw[JI _ _ _ (hnl2 _ hlen) (by rw[e];exact KZ hx ht (uv _ hkk) (small _ (.inl vce))),e]
  unfold OO
  rw[hg]
  rfl
 ·unfold mI oZ
  rw[vag (by simp[h6])]
  simp only[vaa]
  rw[gA (n:=(args.length:Int)+1) (by omega) (by omega),vag (by simp;omega),Oa t args hnl (by omega),bD _ _ hi]
  simp only[vaa]
  have e:=IH (d6 t args).reverse hkr
  rw[JR _ _ _ (hnl2 _ (by rw[vbR];exact hlen)) (by rw[e];exact KZ hx ht (uv _ hkr) (small _ (.inr vce))),e]
  simp only[vaa]
  unfold OO
  rw[hg,KC _ _ ((d6 t args).filter (fun e=>decide (e.1∉[([118]:ag)]))) ((vcS _).filter _) (uv _ hkr)]
theorem Q5(t:ae)(args:List aa)(h:t.Op≠6\/t.Args.length≠args.length+1)(ha:args.length<=8):eP t args=some (⟨0,[],[],[],gC,[]⟩,13)/\mI t args=some (⟨0,[],[],[],gC,[]⟩,13):=by
 have hj:gr args t=some true:=by
  unfold gr
  by_cases h6:t.Op=6
  ·rw[vag (by simp[h6]),gA (by omega) (by omega)]
   have:=h.resolve_left (fun hc=>hc h6)
   congr 1
   have h2:¬((t.Args.length:Int)=(args.length:Int)+1):=by omega
   simpa using h2
  ·rw[vad (by simpa using h6)]
 constructor
 ·unfold eP
  rw[hj];rfl
 ·unfold mI
  rw[show oZ args t=some true from hj];rfl
theorem H5{t:ae}{p:aa}(ht:wL (af t)<=1048576)(hp:nP p<=1048576):f7 (Ku t p) (Ku t p)=some true:=by
 have hb:bj=1073741824:=rfl
 have hw:=Nh t
 have hl:=ER t
 have hA:=LF 1048576 t (by omega)
 have hA':=(nK _ _).1 hA
 unfold Ku
 split
 ·exact oc t (by omega) (Cv (fun p h=>by omega) t hA)
 ·refine oc _ (by rw[rt]at hl ⊢;show ke t.Args+t.Names.length+t.Preds.length+1<=bj;omega) ((nK _ _).2 ⟨?_,fun q hq=>?_,zr (fun p h=>by omega) _ hA'.2.2⟩)
  ·have:=LG [t.Pred,p] none
   have h1:=hA'.1
   simp only[nL,Option.elim]at this
   show nP (Cw [t.Pred,p] none)<=bj
   omega
  ·have:=hA'.2.1 q hq
   omega
theorem Bj(t:ae)(p:aa)(name:ag)(args:List aa)(h:wL (af t)+(wL (ac p)+(pm (.str name)+(pm (sl ac args)+0)))<=1048576):mN t p name args=some true:=by
 have e2:pm (sl ac args)=mw (args.map ac)+1:=by simp only[pm,sl]
 have l2:=RH args
 have ht:wL (af t)<=1048576:=by omega
 have hb:bj=1073741824:=rfl
 have hw:=Nh t
 have hlt:=ER t
 have hP:mR (fun p=>nP p<=bj) t:=LF bj t (by omega)
 have hPL:jP (fun p=>nP p<=bj) [t]:=by rw[jP];exact⟨hP,trivial⟩
 have hm:∀q∈args,nP q<=bj:=fun q hq=>by have:=PR hq;omega
 have hp0:=MV p
 have hp1:nP p<=bj:=by omega
 have g:vK (fY args t p) (fun o=>o=true\/((t.Op=6->t.Names.Nodup/\t.Names.length+1<=max t.Args.length 1)/\(args.length<=8/\∀q∈args,nP q<=30)/\nP p<=30)):=by
  unfold fY
  refine eK (QV [t] (by simp only[ke];omega) hPL) fun b _=>iV (fun _=>bM (.inl rfl)) fun _=>eK (PD t (by omega)) fun b hb1=>iV (fun _=>bM (.inl rfl)) fun nb=>eK (Rj args (by omega) hm) fun r hr=>iV (fun _=>bM (.inl rfl)) fun nr=>rO (Bg p hp1) (bM ?_)
  by_cases h30:(nP p:Int)>30
  ·exact .inl (vaX h30)
  ·exact .inr ⟨hb1 (by simpa using nb),hr.resolve_left nr,by omega⟩
 obtain⟨o,eo,ho⟩:=g
 unfold mN
 rw[eo]
 simp only[vaa]
 by_cases hc:o=true
 ·rw[vad hc,Fq];rfl
 obtain⟨hpt,⟨h8,h30⟩,hp30⟩:=ho.resolve_left hc
 rw[vag hc]
 have happ:∃u e,eP t args=some (u,e)/\mI t args=some (u,e)/\f7 u u=some true:=by
  by_cases hc:t.Op=6/\t.Args.length=args.length+1
  ·obtain⟨h6,hl⟩:=hc
   obtain⟨hn,hnl⟩:=hpt h6
   obtain⟨q1,q2⟩:=QD t args ht h8 h30 h6 hl hn (by omega)
   refine⟨_,_,q1,q2,?_⟩
   have hi:args.length<t.Args.length:=by omega
   unfold OO
   rw[vai,vab hi]
   have hx:=vau hi
   have hf:NF 30 ((d6 t args).filter (fun e=>decide (e.1∉[([118]:ag)]))):=fun e he=>Kw (t:=t) h30 e (vaL.1 he).1
   have hA:=(te _ _).1 ((nK _ _).1 (Mw 1048576 t ht)).2.2 _ hx
   exact oc _ (by rw[MS];have:=lK hx;show eb t.Args[args.length]<=bj;omega) (Cv (fun p hp=>vaR hp (by omega)) _ (Mv 1048576 30 (by omega) t.Args[args.length] _ hf hA))
  ·obtain⟨q1,q2⟩:=Q5 t args (by omega) h8
   exact⟨_,_,q1,q2,oc _ (by decide) (by rw[mR];exact⟨by decide,(fun q hq=>absurd hq vbz),trivial⟩)⟩
 obtain⟨u,e,a1,a2,a3⟩:=happ
 rw[a1,a2]
 simp only[vaa]
 rw[M2 t p (by omega) hP hp1,M8]
 simp only[vaa]
 rw[H5 ht (by omega)]
 simp only[vaa,if_true]
 have hP1:=(nK _ _).1 hP
 rw[Sy t p hP1.1 hp1,SB t p hP1.1]
 simp only[vaa]
 have hat:nP (SU t p)<=bj:=by
  unfold SU
  split
  ·decide
  ·have h1:=P2 (DH [118] p) 30 (by omega) (fun n q hq=>vaR (Rh hq) hp30) t.Pred
   have h2:=Hd t
   have h3:nP t.Pred<=1048576:=by omega
   have:=vaM 30 h3
   omega
 rw[tD _ _ hat]
 simp only[vaa,decide_true,if_true]
 rw[PC t name (by omega) hP,PW]
 simp only[vaa]
 have hself:f7 (G1 t name) (G1 t name)=some true:=by
  unfold G1
  split
  ·exact H5 ht (by rw[Nb];omega)
  ·exact oc t (by omega) hP
 rw[hself]
 simp only[vaa,if_true]
 rw[a3]
 simp only[vaa,if_true]
 rw[vad (by simp),Fq]
 rfl
end Go.Proofs.YtggeppllafbidaaGreatDoor
