/- PROVED: a part of the proof. Conditions: none. -/
import Derived.Test.YtggeppllafbidaaGreatDoorPkB18
noncomputable section
namespace Go.Proofs.YtggeppllafbidaaGreatDoor
open Go
set_option linter.unusedVariables false
set_option linter.unusedSimpArgs false
mutual
theorem JW(g:ai->List aa->aa)(M:Nat)(hM:1<=M)(hg:∀n ks K,1<=K->(∀q∈ks,nP q<=K)->nP (g n ks)<=M * K):∀(p:aa),nP (wJ g p)<=nP p * M ^ dP p
 | ⟨o,n,k,ks⟩ => by
  have h:=L2 g M hM hg ks
  have hp1:1<=M ^ dL ks:=Nat.one_le_pow _ _ hM
  have hp2:M ^ (dL ks+1)=M ^ dL ks * M:=Nat.pow_succ ..
  have hp3:M ^ dL ks<=M ^ dL ks * M:=vb8 _ hM
  rw[wJ]
  split
  ·have hk:=hg n (KN g ks) ((nL ks+1) * M ^ dL ks) (vaI hp1 (Nat.le_mul_of_pos_left _ (by omega))) (fun q hq=>by
    have:=Fi hq
    rw[vaN,vbi];omega)
   rw[nP,dP,hp2]
   have:M * ((nL ks+1) * M ^ dL ks)=(nL ks+1) * (M ^ dL ks * M):=by rw[vce M,Nat.mul_assoc]
   omega
  ·rw[nP,nP,dP,hp2,vaN,vbi]
   have:nL ks * M ^ dL ks<=nL ks * (M ^ dL ks * M):=vbB _ hp3
   omega
theorem L2(g:ai->List aa->aa)(M:Nat)(hM:1<=M)(hg:∀n ks K,1<=K->(∀q∈ks,nP q<=K)->nP (g n ks)<=M * K):∀(l:List aa),nL (KN g l)<=nL l * M ^ dL l
 |[]=>by rw[KN,nL];omega
 |p::l=>by
  have h1:=JW g M hM hg p
  have h2:=L2 g M hM hg l
  rw[KN,nL,nL,dL,vaN]
  have g1:nP p * M ^ dP p<=nP p * M ^ max (dP p) (dL l):=vbB _ (vbx hM (by omega))
  have g2:nL l * M ^ dL l<=nL l * M ^ max (dP p) (dL l):=vbB _ (vbx hM (by omega))
  omega
end
theorem KE(holes:List aU)(l:List cc)(M:Nat)(hM:1<=M)(hs:∀s∈l,nP s.Pred<=M)(n:ai)(ks:List aa)(K:Nat)(hK:1<=K)(hk:∀q∈ks,nP q<=K):nP (jQ holes l n ks)<=M * K:=by
 have h1:1<=M * K:=vcq hM hK
 have ht:nP jX<=M * K:=h1
 unfold jQ HK
 cases holes.findIdx? (fun x=>x.Name==n)with
 |none=>exact ht
 | some j =>
  simp only[Option.elim]
  cases l.findIdx? (fun x=>x.Name==n)with
  |none=>exact ht
  | some i =>
   simp only[vad,Option.getD_some]
   cases hi:l[i]? with
   |none=>exact ht
   | some s =>
    simp only
    split
    ·exact ht
    ·have hsm:=hs s (vaw hi)
     exact vaI (Mb _ K hK (fun n q hq=>hk q (Ke hq)) _) (vaG K hsm)
theorem IS(l:List xn)(hl:l.length<=1073741824):kp l (l.length:Int) [] 0=some (l.map (·.Name)):=by
 unfold kp
 exact gY l hl (fun i s=>(s,i)) _ (fun y=>some y.Name) (·.Name) id (fun i s=>rfl) (fun _ _=>rfl)
theorem Hh:dO true=some jX:=rfl
theorem IR(p q:aa)(holes:List aU)(hh:holes.length<9223372036854775808)(hn:∀h∈holes,h.Params.length<=1073741824)(hq:nP q<=bC)(hk:∀x∈p.Kids,nP x<=bC)(m:Int)(m2:ai)(m3:Int)(m4:List aa):ko p holes (holes.length:Int) q.Op q.Name q.N q.Kids 0 m m2 m3 m4=some ((holes.findIdx? (fun x=>x.Name==p.Name)).elim (.inr (m,m2,m3,m4)) (fun j=>.inl (Jf (D1 (pE (((holes[j]?).elim [] (·.Params)).map (·.Name)) p.Kids) q)))):=by
 unfold ko
 rw[rr holes hh (fun i=>(i,m,m2,m3,m4)) (fun(zz:Int×Int×ai×Int×(List aa))=>fQ p holes (holes.length:Int) q.Op q.Name q.N q.Kids zz.1 zz.2.1 zz.2.2.1 zz.2.2.2.1 zz.2.2.2.2) (fun x=>x.Name==p.Name) (fun j=>.inl (Jf (D1 (pE (((holes[j]?).elim [] (·.Params)).map (·.Name)) p.Kids) q))) (.inr (m,m2,m3,m4)) (fun i hi=>?_) ?_]
 ·simp only
  unfold fQ
  rw[vav (by simp)]
 ·simp only
  unfold fQ
  rw[var (va1 (by omega)),dX holes i hi,vaa hi]
  simp only[vab,Option.elim]
  have h:=hn _ (vaC hi)
  generalize holes[i]=s at h
  by_cases he:(s.Name==p.Name)=true
  ·rw[vav (by simp[he]),var he,IS s.Params h,iw]
   simp only[vab]
   rw[Lz q _ p.Kids hq (by simp;omega) hk]
   rfl
  ·rw[var (by simpa using he),vav he]
def Lk(holes:List aU)(p:aa)(s:cc):aa:=if s.Pred=wn then jX else(holes.findIdx? (fun x=>x.Name==p.Name)).elim jX (fun j=>D1 (pE (((holes[j]?).elim [] (·.Params)).map (·.Name)) p.Kids) s.Pred)
theorem IT(p:aa)(holes:List aU)(l:List cc)(hh:holes.length<9223372036854775808)(hl:l.length<9223372036854775808)(hq:∀s∈l,nP s.Pred<=bC)(hn:∀h∈holes,h.Params.length<=1073741824)(hk:∀x∈p.Kids,nP x<=bC):oV p holes l=some (jQ holes l p.Name p.Kids):=by
 unfold oV nN
 rw[rr l hl (fun i=>(i,0,[],0,[])) (fun(zz:Int×Int×ai×Int×(List aa))=>fO holes p l (l.length:Int) zz.1 zz.2.1 zz.2.2.1 zz.2.2.2.1 zz.2.2.2.2) (fun x=>x.Name==p.Name) (fun i=>.inl (Jf ((l[i]?).elim jX (Lk holes p)))) (.inr (0,[],0,[])) (fun i hi=>?_) ?_]
 ·unfold jQ HK
  cases hf:l.findIdx? (fun x=>x.Name==p.Name)with
  |none=>
   simp only[Option.map_none,Option.getD_none]
   cases holes.findIdx? (fun x=>x.Name==p.Name)<;>rfl
  | some i =>
   simp only[vab,Option.elim]
   refine(vbe some (iw _)).trans (vbe some ?_)
   cases hi:l[i]? with
   | none =>
    cases holes.findIdx? (fun x=>x.Name==p.Name)with
    |none=>rfl
    |some j=>
     simp only[Option.elim,vad,Option.getD_some]
     rw[hi]
   | some s =>
    show Lk holes p s=_
    unfold Lk
    by_cases hz:s.Pred=wn
    ·rw[var hz]
     have hv:qI s.Pred=true:=by unfold qI;rw[hz];simp
     cases holes.findIdx? (fun x=>x.Name==p.Name)with
     |none=>rfl
     |some j=>
      simp only[Option.elim,vad,Option.getD_some]
      rw[hi]
      simp only
      rw[var hv]
    ·rw [vav hz]
     cases holes.findIdx? (fun x=>x.Name==p.Name)with
     |none=>rfl
     | some j =>
      simp only[Option.elim,vad,Option.getD_some]
      rw[hi]
      simp only
      by_cases hv:qI s.Pred=true
      ·rw[var hv]
       have:s.Pred=jX:=by
        unfold qI at hv
        simpa[hz]using hv
       rw[this,LE]
      ·rw[vav hv]
 ·simp only
  unfold fO
  rw[vav (by simp)]
 ·simp only
  unfold fO
  rw[var (va1 (by omega)),dX l i hi,vaa hi]
  simp only[vab,Option.elim]
  have hs:=hq _ (vaC hi)
  by_cases he:(l[i].Name==p.Name)=true
  ·rw[vav (by simp[he]),var he,show jV l[i].Pred (⟨0,[],0,[]⟩:aa)=some (decide (l[i].Pred=wn))from LD _ wn hs]
   simp only[vab]
   unfold Lk
   by_cases hz:l[i].Pred=wn
   ·rw[var (by simpa using hz),var hz,Hh]
    rfl
   ·rw[vav (by simpa using hz),vav hz,IR p _ holes hh hn hs hk]
    simp only[vab]
    cases holes.findIdx? (fun x=>x.Name==p.Name)<;>rfl
  ·rw[var (by simpa using he),vav he]
theorem Kr(p:aa)(holes:List aU)(l:List cc)(M:Nat)(hM:1<=M)(hM2:M<=bC)(hs:∀s∈l,nP s.Pred<=M)(hp:nP p * M ^ dP p<=bC)(hh:holes.length<9223372036854775808)(hl:l.length<9223372036854775808)(hn:∀h∈holes,h.Params.length<=1073741824):zO p holes l=some (wJ (jQ holes l) p):=by
 have hp0:nP p<=bC:=vaI (Kc hM p) hp
 refine jx (F:=tP) (fun x=>nP x.1) (fun x=>nP x.1 * M ^ dP x.1<=bC/\x.2=(holes,l)) (fun x=>wJ (jQ x.2.1 x.2.2) x.1) (fun R x hx ih=>?_) (p,holes,l) ⟨hp,rfl⟩ (jG hp0)
 obtain⟨p,h',l'⟩:=x
 obtain⟨hx,he⟩:=hx
 cases he
 have hx:nP p * M ^ dP p<=bC:=hx
 have hx0:nP p<=bC:=vaI (Kc hM p) hx
 have hq:∀s∈l,nP s.Pred<=bC:=fun s h=>vaI (hs s h) hM2
 show oT (fun p holes a=>R (p,holes,a)) p holes l=some (wJ (jQ holes l) p)
 unfold oT rD
 have hlen:=kk p
 rw[gY p.Kids (by unfold bC at hx0;omega) (fun i s=>(i,s)) _ (fun y=>R (y,holes,l)) (wJ (jQ holes l)) id (fun i s=>rfl) (fun y hy=>ih (y,holes,l) (iG hy) ⟨vaI (H7 hM hy) hx,rfl⟩)]
 simp only[vab,id]
 rw[JV]
 by_cases h5:p.Op=5
 ·rw[var (by simpa using h5),var h5,IT _ holes l hh hl hq hn (fun x hxk=>by
   obtain⟨y,hy,rfl⟩:=van.1 (show x∈p.Kids.map (wJ (jQ holes l))from hxk)
   exact vaI (JW (jQ holes l) M hM (KE holes l M hM hs) y) (vaI (H7 hM hy) hx))]
  rfl
 ·rw[vav (by simpa using h5),vav h5]
theorem KG(t:ae)(holes:List aU)(l:List cc)(M:Nat)(hM:1<=M)(hM2:M<=bC)(hs:∀s∈l,nP s.Pred<=M)(ht:gf t<=bC)(hp:jc (JX M) t)(hh:holes.length<9223372036854775808)(hl:l.length<9223372036854775808)(hn:∀h∈holes,h.Params.length<=1073741824):rJ t holes l=some (qa (wJ (jQ holes l)) t):=by
 refine jx (F:=nX) (fun x=>gf x.1) (fun x=>gf x.1<=bC/\jc (JX M) x.1/\x.2=(holes,l)) (fun x=>qa (wJ (jQ x.2.1 x.2.2)) x.1) (fun R x hx ih=>?_) (t,holes,l) ⟨ht,hp,rfl⟩ (jG ht)
 obtain⟨t,h',l'⟩:=x
 obtain⟨hx,ha,he⟩:=hx
 cases he
 have hx:gf t<=bC:=hx
 have ha:=(pV _ _).1 (show jc (JX M) t from ha)
 show kw (fun t holes a=>R (t,holes,a)) t holes l=some (qa (wJ (jQ holes l)) t)
 have h1:=tw t
 have h2:=qp t
 have h3:=Er t
 unfold bC at hx
 have fp:∀q,JX M q->fU q holes l=some (wJ (jQ holes l) q):=fun q hq=>by
  unfold fU
  rw[Kr q holes l M hM hM2 hs hq hh hl hn];rfl
 unfold kw lu lw iH iI
 rw[IF _ (by omega),fp _ ha.1]
 simp only[vab]
 rw[gY t.Preds (by omega) (fun i s=>(s,i)) _ (fun y=>fU y holes l) (wJ (jQ holes l)) id (fun i s=>rfl) (fun y hy=>fp y (ha.2.1 y hy))]
 simp only[vab,id]
 rw[gY t.Args (by omega) (fun i s=>(s,i)) _ (fun y=>kv (fun t holes a=>R (t,holes,a)) y holes l) (qa (wJ (jQ holes l))) id (fun i s=>rfl) (fun y hy=>by
  unfold kv
  show(R (y,holes,l)).bind _=_
  rw[show R (y,holes,l)=some (qa (wJ (jQ holes l)) y)from ih (y,holes,l) (pC hy) ⟨by have:=pC hy;show gf y<=bC;unfold bC;omega,(kX _ _).1 ha.2.2 y hy,rfl⟩];rfl)]
 simp only[vab,id]
 rw[Ic]
theorem MI(t:ae)(ht:gf t<=bC)(hp:jc (fun p=>nP p<=bC) t):uL (B3 t) (fun r=>(!r)=true\/jc (fun p=>nP p<=30/\dP p<=4) t):=by
 refine Dm (F:=wD) gf (fun x=>gf x<=bC/\jc (fun p=>nP p<=bC) x) (fun x r=>(!r)=true\/jc (fun p=>nP p<=30/\dP p<=4) x) (fun R x hx ih=>?_) t ⟨ht,hp⟩ (jG ht)
 obtain⟨hx,hq⟩:=hx
 show uL (re (fun t=>R t) x) _
 unfold re tt tu
 have h1:=tw x
 have h2:=qp x
 have hq':=(pV _ _).1 hq
 have hb:bC=1073741824:=rfl
 refine da (G1 (by simp;omega)) ?_
 refine er (ni ([x.Pred]++x.Preds) (by simp;omega) _ (fun p=>nP p<=30/\dP p<=4) (fun _=>True) (fun i=>rfl) (fun p hp i=>?_)) fun o ho=>?_
 ·have hn:nP p<=bC:=by
   rcases vaR.1 hp with h|h
   ·rw[vbh.1 h];exact hq'.1
   ·exact hq'.2.1 p h
  refine er (R:=fun b=>b=true\/(nP p<=30/\dP p<=4)) ?_ fun b hb=>gk (fun _=>bO trivial) fun h=>bO ⟨rfl,hb.resolve_left h⟩
  unfold tr
  rw[iw]
  refine da (ye p hn) (gk (fun _=>bO (.inl rfl)) fun h=>da (JS p hn) (bO ?_))
  have h30:¬((nP p:Int)>30):=fun hc=>h (va1 hc)
  by_cases h4:(dP p:Int)>4
  ·exact .inl (va1 h4)
  ·exact .inr ⟨by omega,by omega⟩
 ·cases o with
  |inl _=>exact bO (.inl rfl)
  |inr _=>
   have ho:∀p∈[x.Pred]++x.Preds,nP p<=30/\dP p<=4:=ho
   refine er (ni x.Args (by omega) _ (jc (fun p=>nP p<=30/\dP p<=4)) (fun _=>True) (fun i=>rfl) (fun y hy i=>er (ih _ (pC hy) ⟨by have:=pC hy;omega,(kX _ _).1 hq'.2.2 y hy⟩) fun r hr=>gk (fun _=>bO trivial) fun h=>bO ⟨rfl,hr.resolve_left h⟩)) fun o ho2=>?_
   cases o with
   |inl _=>exact bO (.inl rfl)
   |inr _=>exact bO (.inr ((pV _ _).2 ⟨ho _ (by simp),fun q hq=>ho q (by simp[hq]),(kX _ _).2 ho2⟩))
theorem LG{l:List cc}{s:cc}(h:s∈l):nP s.Pred<=mY (l.map aS):=by
 have h1:=Gw (van.2 ⟨s,h,rfl⟩:aS s∈l.map aS)
 have h2:=L6 s.Pred
 have h3:vQ (ac s.Pred)<=vQ (aS s):=by unfold aS;simp only[rA,vQ,pm];omega
 omega
theorem yh(t:ae)(holes:List aU)(l:List cc)(h:vQ (af t)+(pm (sl aN holes)+(pm (sl aS l)+0))<=1048576):kU t holes l=some true:=by
 have e1:pm (sl aN holes)=mY (holes.map aN)+1:=by simp only[pm,sl]
 have e2:pm (sl aS l)=mY (l.map aS)+1:=by simp only[pm,sl]
 have hb:bC=1073741824:=rfl
 have ht:vQ (af t)<=1048576:=by omega
 have hw:=Me t
 have hlt:=H9 t
 have hP:jc (fun p=>nP p<=bC) t:=JE bC t (by omega)
 have hPL:kc (fun p=>nP p<=bC) [t]:=by rw[kc];exact⟨hP,trivial⟩
 have lh:holes.length<9223372036854775808:=by
  have h1:=yi (holes.map aN) (fun x hx=>by
   obtain⟨s,_,rfl⟩:=van.1 hx
   rw[tB];simp only[vQ,pm];omega)
  rw[va8]at h1;omega
 have ll:l.length<9223372036854775808:=by
  have h1:=yi (l.map aS) (fun x hx=>by
   obtain⟨s,_,rfl⟩:=van.1 hx
   unfold aS;simp only[rA,vQ,pm];omega)
  rw[va8]at h1;omega
 have hs:∀s∈l,nP s.Pred<=bC:=fun s hm=>by have:=LG hm;omega
 have g:uL (fE holes l t) (fun o=>o=true\/jc (fun p=>nP p<=30/\dP p<=4) t):=by
  unfold fE
  exact er (Lj [t] (by simp only[kl];omega) hPL) fun b _=>gk (fun _=>bO (.inl rfl)) fun _=>gk (fun _=>bO (.inl rfl)) fun _=>gk (fun _=>bO (.inl rfl)) fun _=>er (MI t (by omega) hP) fun r hr=>bO hr
 refine LJ.1 ?_
 unfold kU
 refine er g fun o ho=>gk (fun _=>da rf (bO rfl)) fun hc=>?_
 have hf:=ho.resolve_left hc
 unfold iE
 refine er (ni holes lh _ (fun h=>h.Params.length<=10) (fun b=>b=true) (fun i=>rfl) (fun x hx i=>gk (fun _=>da rf (bO rfl)) fun h=>bO ⟨rfl,Nat.not_lt.1 fun e=>h (va1 (show((x.Params.length:Nat):Int)>10 by omega))⟩)) fun o ho=>?_
 cases o with
 |inl b=>exact bO ho
 | inr _ =>
  have hpar:∀h∈holes,h.Params.length<=10:=ho
  unfold iF
  refine er (ni l ll _ (fun s=>nP s.Pred<=10) (fun b=>b=true) (fun i=>rfl) (fun x hx i=>da (ye _ (hs x hx)) (gk (fun _=>da rf (bO rfl)) fun h=>bO ⟨rfl,Nat.not_lt.1 fun e=>h (va1 (show((nP x.Pred:Nat):Int)>10 by omega))⟩))) fun o ho=>?_
  cases o with
  |inl b=>exact bO ho
  | inr _ =>
   have h10:∀s∈l,nP s.Pred<=10:=ho
   have hfit:∀p,nP p<=30/\dP p<=4->nP p * 10 ^ dP p<=300000:=fun p hp=>by
    have:10 ^ dP p<=10 ^ 4:=vbx (by omega) hp.2
    have:=vbL hp.1 this
    omega
   have hA:jc (JX 10) t:=D6 (fun p hp=>by have:=hfit p hp;show nP p * 10 ^ dP p<=bC;omega) t hf
   have hn:∀h∈holes,h.Params.length<=1073741824:=fun q hq=>by have:=hpar q hq;omega
   have hR:jc (fun p=>nP p<=bC) (qa (wJ (jQ holes l)) t):=FV _ (fun p hp=>by
    have h1:=JW (jQ holes l) 10 (by omega) (KE holes l 10 (by omega) h10) p
    have h2:=hfit p hp
    omega) t hf
   have hL:gf (qa (wJ (jQ holes l)) t)<=bC:=by rw[Gf];omega
   refine da (KG t holes l 10 (by omega) (by omega) h10 (by omega) hA lh ll hn) (da (IQ t holes l (by omega) hP lh ll hs hn) (da (GJ _ hL hR) ?_))
   exact da rf (bO rfl)
end Go.Proofs.YtggeppllafbidaaGreatDoor
