/- PROVED: a part of the proof. Conditions: none. -/
import Derived.Test.YtbaamopmfmpfaaaGreatDoorPkB20
import Derived.Test.YtbaamopmfmpfaaaGreatDoorPkB19
noncomputable section
namespace Go.Proofs.YtbaamopmfmpfaaaGreatDoor
open Go
set_option linter.unusedVariables false
set_option linter.unusedSimpArgs false
mutual
theorem qd1:∀(t:ae) (c:Sb),vQ (AR t c)=vQ t
 |⟨o,n,xs,ns,p,ps⟩,c=>by rw[AR,vQ,vQ,qat]
theorem qat:∀(xs:List ae) (o:Int) (ns:List af) (i:Nat) (s:S3),Fw (N9 o ns i xs s).1=Fw xs
 |[],o,ns,i,s=>by rw[N9,Fw]
 |a::xs,o,ns,i,s=>by rw[N9,Fw,Fw,qd1 a,qat xs]
end
mutual
theorem KY:∀(a b:ae),lR a b=true↔vQ a=vQ b
 |⟨o,n,xs,ns,p,ps⟩,⟨o',n',xs',ns',p',ps'⟩=>by
  have:=Yh xs xs'
  rw[lR,vQ,vQ]
  simp only[vaj,van,this,ae.mk.injEq,vcN]
theorem Yh:∀(a b:List ae),Dl a b=true↔Fw a=Fw b
 |[],[]=>by simp[Dl,Fw]
 |x::xs,y::ys=>by
  rw[Dl,Fw,Fw,vaj,KY x y,Yh xs ys,vbv]
 |[],y::ys=>by simp[Dl,Fw]
 |x::xs,[]=>by simp[Dl,Fw]
end
def nT(t:ae):Nat:=ch (vQ t)
theorem qdD(t:ae):nT t=dw (t.Args.map vQ)+1:=by
 unfold nT;rw[IR,tV];rfl
mutual
theorem XI:∀(t:ae),nT t<=ch t
 |⟨o,n,xs,ns,p,ps⟩=>by
  have:=qdC xs
  rw[qdD,ch]
  show dw (xs.map vQ)+1<=_
  omega
theorem qdC:∀(l:List ae),dw (l.map vQ)<=dw l
 |[]=>by simp[dw]
 |t::l=>by
  have h1:ch (vQ t)<=ch t:=XI t
  have:=qdC l
  rw[vay,dw,dw];omega
end
theorem qfq{l:List ae}{x:ae}(h:x∈l):nT x+l.length<=dw (l.map vQ)+1:=by
 induction l with
 |nil=>cases h
 | cons y l ih =>
  have hy:1<=nT y:=po _
  have hl:l.length<=dw (l.map vQ):=by have:=Gs (l.map vQ);rwa[vaF]at this
  rw[vay,dw,vaP]
  show _<=nT y+_+1
  rcases vaw.1 h with rfl|h
  ·omega
  ·have:=ih h;omega
theorem Ye{α:Type}(f:α->α)(n:Nat)(hn:n<4611686018427387904)(body:Int×List α->Option ((Int×List α)⊕List α))(P:α->Prop)
  (hin:∀(k:Nat) (w:List α) (h:k<w.length),w.length=n->P w[k]->body ((k:Int),w)=some (.inl (aS ((k:Int)+1),w.set k (f w[k]))))
  (hend:∀w:List α,body ((n:Int),w)=some (.inr w)):∀(j k:Nat) (w:List α),j+k=n->w.length=n->(∀x∈w.drop k,P x)->loop body ((k:Int),w)=some (w.take k++(w.drop k).map f):=by
 intro j
 induction j with
 |zero=>
  intro k w hk hw hP
  have:k=n:=by omega
  subst this
  rw[jZ (hend w),<-hw,vbm,vb3]
  simp
 | succ j ih =>
  intro k w hk hw hP
  have hlt:k<w.length:=by omega
  have hd:=va9 hlt
  rw[qw (hin k w hlt hw (hP _ (by rw[hd];exact vcP))),dE (by omega) (by omega),show((k:Int)+1)=((k+1:Nat):Int) by omega,ih (k+1) (w.set k (f w[k])) (by omega) (by rw[vbq];exact hw) (fun x hx=>?_)]
  ·rw[hd,vay]
   have e1:(w.set k (f w[k])).take (k+1)=w.take k++[f w[k]]:=by
    rw[vaM (by rw[vbq];exact hlt)]
    rw[List.take_set,List.set_eq_of_length_le (by rw[vaO];omega)]
    simp
   have e2:(w.set k (f w[k])).drop (k+1)=w.drop (k+1):=by
    rw[vcM (by omega)]
   rw[e1,e2]
   simp
  ·rw[vcM (by omega)]at hx
   exact hP x (by rw[hd];exact va0 _ hx)
def FK(l:List ae)(ns:List af)(i:Nat)(y:af):List ae:=if i<ns.length then l.take (i+1)++(l.drop (i+1)).map (fun t=>AR t (sn (ns.getD i []) (lT y)))else l
theorem VT{t:ae}(x y:af)(h1:ch t<=10000000)(h2:wT t<=10000000)(h3:yu 1000000000000000 t):qbC t (sn x (lT y)) where
 nd:=ZF _ _
 sz:=by have:=qhm x (lT y);rw[Fo]at this;omega
 w:=by omega
 n:=h3
structure okV(t:ae):Prop where
 l:ch t<=10000000
 w:wT t<=10000000
 n:yu 1000000000000000 t
theorem KR(l:List ae)(t:ae)(i:Nat)(y:af)(hl:l.length<=1073741824)(hi:i<l.length)(h:∀x∈l,okV x)(hn:t.Names.length<=1073741824):j6 l t (i:Int) y=some (FK l t.Names i y):=by
 unfold j6 FK
 rw[AT l hl]
 simp only[vaa]
 by_cases hlt:i<t.Names.length
 ·rw[vad (by simp;omega),vad hlt]
  unfold om
  rw[dE (by omega) (by omega),show((i:Int)+1)=((i+1:Nat):Int) by omega,Ye (fun x=>AR x (sn (t.Names.getD i []) (lT y))) l.length (by omega) _ okV (fun k w hk hw hP=>?_) (fun w=>?_) (l.length - (i+1)) (i+1) l (by omega) rfl (fun x hx=>h x (vcG hx))]
  ·simp only[vaa]
   rw[L3 _ _ (by simp;omega)]
   rfl
  ·show eA (i:Int) y t l.length (k:Int) w=_
   unfold eA
   rw[vad (by simp;omega),L4 l.length w k (by omega) hk,bp _ i hlt]
   simp only[vaa]
   rw[CB _ i hlt,show(⟨3,y,0,[]⟩:aa)=lT y from rfl,qbN _ _ _ (VT _ _ hP.l hP.w hP.n)]
   simp only[vaa]
   rw[Wj w k _ hk]
   rfl
  ·show eA (i:Int) y t l.length (l.length:Int) w=_
   unfold eA
   rw[vae (by simp)]
 ·rw[vae (by simp;omega),vae hlt,L3 _ _ rfl]
  rfl
theorem Rl(t:ae)(i:Nat)(y:af)(hl:t.Args.length<=1073741824)(hi:i<t.Args.length)(h:∀x∈t.Args,okV x)(hn:t.Names.length<=1073741824)(he:∀s∈t.Names,s≠[]):xD t (i:Int) y=some ⟨t.Op,t.Name,FK t.Args t.Names i y,t.Names,t.Pred,t.Preds⟩:=by
 unfold xD z6 FK
 rw[cQ (by simpa using hl),vaC]
 simp only[vaa]
 by_cases hlt:i<t.Names.length
 ·rw[vae (by simp;omega),vad hlt,bp _ i hlt]
  simp only[vaa]
  rw[vae (by have:=he _ (vak hlt);simpa using this)]
  unfold z7
  rw[dE (by omega) (by omega),show((i:Int)+1)=((i+1:Nat):Int) by omega,Ye (fun x=>AR x (sn (t.Names.getD i []) (lT y))) t.Args.length (by omega) _ okV (fun k w hk hw hP=>?_) (fun w=>?_) (t.Args.length - (i+1)) (i+1) t.Args (by omega) rfl (fun x hx=>h x (vcG hx))]
  ·simp only[vaa]
   rw[L3 _ _ (by simp;omega)]
   rfl
  ·show iK (i:Int) y t t.Args.length (k:Int) w=_
   unfold iK gV
   rw[vad (by simp;omega),L4 t.Args.length w k (by omega) hk,bp _ i hlt]
   simp only[vaa]
   rw[CB _ i hlt,show(⟨3,y,0,[]⟩:aa)=lT y from rfl,qb4 _ _ _ (VT _ _ hP.l hP.w hP.n)]
   simp only[vaa]
   rw[Wj w k _ hk]
   rfl
  ·show iK (i:Int) y t t.Args.length (t.Args.length:Int) w=_
   unfold iK
   rw[vae (by simp)]
 ·rw[vad (by simp;omega),vae hlt]
  simp only[vaa,if_true]
  rw[L3 _ _ rfl]
  rfl
def xL(t:ae):Bool:=decide (t.Op=1)||(decide (t.Op=2)||(decide (t.Op=3)||decide (t.Op=4)))
theorem KB(t:ae):jh t=some (xL t):=by
 unfold jh xL
 by_cases h1:t.Op=1
 ·rw[vad (by simpa using h1)];simp[h1]
 ·rw[vae (by simpa using h1)]
  by_cases h2:t.Op=2
  ·rw[vad (by simpa using h2)];simp[h2]
  ·rw[vae (by simpa using h2)]
   by_cases h3:t.Op=3
   ·rw[vad (by simpa using h3)];simp[h3]
   ·rw[vae (by simpa using h3)]
    by_cases h4:t.Op=4<;>simp[h1,h2,h3,h4]
theorem Rk(t:ae):EV t=some (xL t):=by rw[<-KB];rfl
def AM(t:ae)(x:af)(c:ai):ai:=if xL t=true then SN x (FQ (vQ t)).1 (W4 t (lT x)) c else c
theorem XO(t:ae)(x:af)(c:ai)(h:ch t<=bm)(hp:nP t.Pred<=bm):sq t x c=some (AM t x c):=by
 unfold sq AM
 rw[KB]
 simp only[vaa]
 cases hb:xL t with
 |false=>rfl
 |true=>
  rw[vae (by simp),vad rfl,TX t h]
  simp only[vaa]
  rw[Ri,show(⟨3,x,0,[]⟩:aa)=lT x from rfl]
  simp only[vaa]
  rw[Zq t _ hp (by rw[Fo];decide)]
  rfl
theorem Rm(t:ae)(x:af)(c:ai)(h:ch t<=bm)(hp:nP t.Pred<=bm):AG t x c=some (AM t x c):=by
 unfold AG AM Ik gV
 rw[Rk]
 simp only[vaa]
 cases hb:xL t with
 |false=>rfl
 |true=>
  rw[vae (by simp),vad rfl,qca t h]
  simp only[vaa]
  rw[qei,show(⟨3,x,0,[]⟩:aa)=lT x from rfl]
  simp only[vaa]
  rw[qec t _ hp]
  rfl
def Wu(l:List aa)(i:Nat)(x:af):aa:=(l[i]?).elim qC (fun p=>if p=gU then qC else G6 (M1 [118] (lT x)) p)
theorem qdU(l:List aa)(i:Nat)(x:af)(h:∀p∈l,nP p<=bm):ym l (i:Int) (lT x)=some (Wu l i x):=by
 unfold ym Aq Wu
 by_cases hi:i<l.length
 ·rw[vae (by simp;omega),bp l i hi,vab hi]
  simp only[vaa]
  have hp:=h _ (vak hi)
  rw[show j3 l[i] (⟨0,[],0,[]⟩:aa)=some (decide (l[i]=gU))from KZ l[i] gU hp]
  simp only[vaa,Option.elim]
  by_cases hz:l[i]=gU
  ·rw[vad (by simpa using hz),vad hz,qcE [] (by simp) (by simp)]
   rfl
  ·rw[vae (by simpa using hz),vae hz,T0 _ _ _ hp (by rw[Fo];decide)]
   rfl
 ·rw[vad (by simp;omega),vat (by omega)]
  simp only[vaa,if_true]
  rw[qcE [] (by simp) (by simp)]
  rfl
theorem qee(l:List aa)(i:Nat)(x:af)(h:∀p∈l,nP p<=bm):ul l (i:Int) x=some (Wu l i x):=by
 unfold ul xE Wu gV
 by_cases hi:i<l.length
 ·rw[vae (by simp;omega),bp l i hi,vab hi]
  simp only[vaa]
  have hp:=h _ (vak hi)
  rw[show qT l[i] (⟨0,[],0,[]⟩:aa)=some (decide (l[i]=gU))from Rt l[i] gU qam]
  simp only[vaa,Option.elim]
  by_cases hz:l[i]=gU
  ·rw[vad (by simpa using hz),vad hz]
   rfl
  ·rw[vae (by simpa using hz),vae hz,show(⟨3,x,0,[]⟩:aa)=lT x from rfl,T6 _ _ _ hp]
   rfl
 ·rw[vad (by simp;omega),vat (by omega)]
  rfl
theorem qgd(l:List aa)(i:Nat)(x:af):nP (Wu l i x)<=(l[i]?).elim 1 nP:=by
 unfold Wu
 cases l[i]? with
 |none=>exact vah 1
 | some p =>
  simp only[Option.elim]
  split
  ·exact VP p
  ·exact qaF _ (fun n q h=>T2 h) _
def qeG(tag:Int)(a b:ae)(x:af):List cM->Nat->List ai
 |[],_=>[]
 |d::ds,i=>SN x d.Sort_ (Wu a.Preds i x) (Dh (Wu b.Preds i x) tag)::qeG tag a b x ds (i+1)
theorem Qz(tag:Int)(a b:ae)(x:af):∀(l:List cM) (i:Nat) (s:List ai),rI (fun i d s=>s++[SN x d.Sort_ (Wu a.Preds i x) (Dh (Wu b.Preds i x) tag)]) l i s=s++qeG tag a b x l i
 |[],i,s=>by rw[rI,qeG,va1]
 |d::l,i,s=>by rw[rI,Qz tag a b x l (i+1),qeG,vba];rfl
theorem qc2(l:List aa)(i:Nat):(l[i]?).elim 1 nP+nL (l.drop (i+1))<=nL (l.drop i)+1:=by
 by_cases h:i<l.length
 ·rw[vab h,va9 h,nL]
  simp only[Option.elim];omega
 ·rw[vat (by omega),vbD (by omega)]
  simp only[Option.elim,nL];omega
theorem qgf(tag:Int)(a b:ae)(x:af):∀(l:List cM) (i:Nat),wG (qeG tag a b x l i)<=4 * l.length+nL (a.Preds.drop i)+nL (b.Preds.drop i)
 |[],i=>by rw[qeG,wG];omega
 | d :: l,i => by
  have ih:=qgf tag a b x l (i+1)
  have h1:=qgd a.Preds i x
  have h2:=qgd b.Preds i x
  have h3:=qc2 a.Preds i
  have h4:=qc2 b.Preds i
  have e:nC (SN x d.Sort_ (Wu a.Preds i x) (Dh (Wu b.Preds i x) tag))=nP (Wu a.Preds i x)+(nP (Wu b.Preds i x)+1)+1:=by
   simp[nC,wG]
  rw[qeG,wG,e,vaP]
  omega
def J1(m:aG)(tag:Int)(a b:ae)(used:List af):ai:=
 let x:=eQ used [118,49]
 let c:=SN x (FQ (vQ a)).1 (W4 a (lT x)) (Dh (W4 b (lT x)) tag)
 if a.Op=4 then AJ (fo (c::qeG tag a b x (iE m a.Name).1.Preds 0))else c
theorem YI(m:aG)(tag:Int)(a b:ae)(x:af)(D:Nat)(hD:(iE m a.Name).1.Preds.length<=D):wG (SN x (FQ (vQ a)).1 (W4 a (lT x)) (Dh (W4 b (lT x)) tag)::qeG tag a b x (iE m a.Name).1.Preds 0)<=4 * D+wT a+wT b+4:=by
 have h1:=qgf tag a b x (iE m a.Name).1.Preds 0
 have h2:=qcI a x
 have h3:=qcI b x
 have h4:=pF a
 have h5:=pF b
 have e:nC (SN x (FQ (vQ a)).1 (W4 a (lT x)) (Dh (W4 b (lT x)) tag))=nP (W4 a (lT x))+(nP (W4 b (lT x))+1)+1:=by
  simp[nC,wG]
 rw[wG,e]
 rw[vaV,vaV]at h1
 omega
theorem qe6(m:aG)(tag:Int)(a b:ae)(used:List af)(D:Nat)(hD:(iE m a.Name).1.Preds.length<=D):nC (J1 m tag a b used)<=4 * D+wT a+wT b+6:=by
 have h:=YI m tag a b (eQ used [118,49]) D hD
 unfold J1
 simp only
 split
 ·rw[nC]
  have:=JY (SN (eQ used [118,49]) (FQ (vQ a)).1 (W4 a (lT (eQ used [118,49]))) (Dh (W4 b (lT (eQ used [118,49]))) tag)::qeG tag a b (eQ used [118,49]) (iE m a.Name).1.Preds 0)
  have e:nP gU=1:=by simp[nP,nL,gU]
  omega
 ·rw[wG]at h
  omega
structure qkD(m:aG)(a b:ae)(used:List af):Prop where
 u:used.length<=100000000
 la:ch a<=10000000
 lb:ch b<=10000000
 wa:wT a<=10000000
 wb:wT b<=10000000
 ds:m.Datas.length<=10000000
 dp:∀d∈m.Datas,d.Preds.length<=10000000
theorem qbQ(m:aG)(tag:Int)(a b:ae)(used:List af)(h:qkD m a b used):jD ⟨m,tag⟩ a b used=some (J1 m tag a b used):=by
 have w1:=pF a
 have w2:=pF b
 have:=h.wa;have:=h.wb;have:=h.la;have:=h.ds
 have hD:=Iw m a.Name _ h.dp
 unfold jD J1
 rw[(Aw used [118,49] h.u (by simp)).1]
 simp only[vaa]
 generalize eQ used [118,49]=x
 rw[TX a (by unfold bm;omega)]
 simp only[vaa]
 rw[Ri,show(⟨3,x,0,[]⟩:aa)=lT x from rfl]
 simp only[vaa]
 rw[Zq a _ (by unfold bm;omega) (by rw[Fo];decide)]
 simp only[vaa]
 rw[Zq b _ (by unfold bm;omega) (by rw[Fo];decide)]
 simp only[vaa]
 unfold fi jE
 simp only[vaa]
 by_cases h4:a.Op=4
 ·rw[vad (by simpa using h4),vad h4,qdR _ _ (by show m.Datas.length<_;omega)]
  simp only[vaa]
  have hn:=YI m tag a b x 10000000 hD
  unfold ky
  rw[QR (iE m a.Name).1.Preds (by omega) (fun i s=>(s,i)) _ (fun i s=>s.length=i+1) (fun i d s=>s++[SN x d.Sort_ (Wu a.Preds i x) (Dh (Wu b.Preds i x) tag)]) id _ rfl (fun i hi s hs=>⟨?_,by simp[hs]⟩) (fun s hs=>?_),Qz]
  ·simp only[vaa,id]
   rw[List.singleton_append,Vc _ (vaI hn (by unfold bm;omega))]
   rfl
  ·show dV ⟨m,tag⟩ a b x (iE m a.Name).1.Preds ((iE m a.Name).1.Preds.length:Int) [] s (i:Int)=_
   unfold dV fi jE
   rw[vad (by simp;omega),bp _ i hi,show(⟨3,x,0,[]⟩:aa)=lT x from rfl]
   simp only[vaa]
   rw[qdU a.Preds i x (fun p hp=>by have:=CN hp;unfold bm;omega)]
   simp only[vaa]
   rw[qdU b.Preds i x (fun p hp=>by have:=CN hp;unfold bm;omega)]
   simp only[vaa]
   rw[cQ (by simp;omega)]
   rfl
  ·show dV ⟨m,tag⟩ a b x (iE m a.Name).1.Preds ((iE m a.Name).1.Preds.length:Int) [] s ((iE m a.Name).1.Preds.length:Int)=_
   unfold dV
   rw[vae (by simp)]
   rfl
 ·rw[vae (by simpa using h4),vae h4]
  rfl
theorem qb5(m:aG)(tag:Int)(a b:ae)(used:List af)(h:qkD m a b used)(hb:xL a=true):JJ m a b tag used=some (J1 m tag a b used):=by
 have w1:=pF a
 have w2:=pF b
 have:=h.wa;have:=h.wb;have:=h.la;have:=h.ds
 have hD:=Iw m a.Name _ h.dp
 unfold JJ J1 gV
 rw[(Aw used [118,49] h.u (by simp)).2.1]
 simp only[vaa]
 generalize eQ used [118,49]=x
 rw[show(⟨3,x,0,[]⟩:aa)=lT x from rfl,qec b _ (by unfold bm;omega)]
 simp only[vaa]
 rw[Rm a x _ (by unfold bm;omega) (by unfold bm;omega)]
 unfold AM
 rw[vad hb]
 simp only[vaa]
 by_cases h4:a.Op=4
 ·rw[vae (by simpa using h4),vad h4,qed _ _ (by omega)]
  simp only[vaa]
  have hn:=YI m tag a b x 10000000 hD
  unfold EZ
  rw[QR (iE m a.Name).1.Preds (by omega) (fun i s=>(s,i)) _ (fun i s=>s.length=i+1) (fun i d s=>s++[SN x d.Sort_ (Wu a.Preds i x) (Dh (Wu b.Preds i x) tag)]) id _ rfl (fun i hi s hs=>⟨?_,by simp[hs]⟩) (fun s hs=>?_),Qz]
  ·simp only[vaa,id]
   rw[List.singleton_append,Mq _ (vaI hn (by unfold bm;omega))]
   rfl
  ·show lC tag a b x (iE m a.Name).1.Preds s (i:Int)=_
   unfold lC
   rw[vad (by simp;omega),bp _ i hi]
   rw[qee b.Preds i x (fun p hp=>by have:=CN hp;unfold bm;omega)]
   simp only[vaa]
   rw[qee a.Preds i x (fun p hp=>by have:=CN hp;unfold bm;omega)]
   simp only[vaa]
   rw[cQ (by simp;omega)]
   rfl
  ·show lC tag a b x (iE m a.Name).1.Preds s ((iE m a.Name).1.Preds.length:Int)=_
   unfold lC
   rw[vae (by simp)]
   rfl
 ·rw[vad (by simpa using h4),vae h4]
  rfl
mutual
def Dv:ae->Prop
 |⟨_,_,xs,ns,_,_⟩=>(∀s∈ns,s≠[])/\Te xs
def Te:List ae->Prop
 |[]=>True
 |a::xs=>Dv a/\Te xs
end
theorem xK(t:ae):Dv t↔(∀s∈t.Names,s≠[])/\Te t.Args:=by obtain⟨o,n,xs,ns,p,ps⟩:=t;rw[Dv];exact Iff.rfl
theorem wC:∀(l:List ae),Te l↔∀t∈l,Dv t
 |[]=>by simp[Te]
 |a::l=>by rw[Te,wC l];simp
theorem qcv(s:af):fC (sK s) (fun r=>(r !=0)=false->s≠[]):=by
 cases s with
 |nil=>exact Wi (show sK []=some 3 by kernel_rfl) (fun h=>by cases h)
 |cons c s=>exact(Tb (c::s)).mono fun _ _ _ h=>by cases h
theorem qbz(t:ae)(ht:ch t<=bm)(hp:nP t.Pred<=bm)(hq:∀q∈t.Preds,nP q<=bm):fC (JC t) (fun r=>(r !=0)=false->∀s∈t.Names,s≠[]):=by
 unfold JC
 have h1:=iP t
 have h2:=Be t
 have hb:bm=1073741824:=rfl
 refine ax (R:=fun _=>True) ?_ fun _ _=>aU (fun _=>aq (fun h=>by cases h)) fun _=>?_
 ·unfold EN
  repeat' first|exact aq trivial|refine aU (fun _=>?_) (fun _=>?_)|refine cW (MB _) ?_
 unfold EP
 refine ax (tD t.Names (by omega) _ (fun s=>s≠[]) (fun _=>True) (fun i=>rfl) (fun x hx i=>ax (qcv x) fun r hr=>aU (fun _=>aq trivial) fun h=>aq ⟨rfl,hr (by simpa using h)⟩)) fun o ho=>?_
 cases o with
 |inl _=>exact aq (fun h=>by cases h)
 | inr _ =>
  have ho:∀s∈t.Names,s≠[]:=ho
  refine ax (Ut t.Names (by omega)) fun _ _=>aU (fun _=>aq fun _=>ho) fun _=>cW (cQ (by simp;omega)) ?_
  unfold ER
  refine ax (tD ([t.Pred]++t.Preds) (by simp;omega) _ (fun _=>True) (fun _=>True) (fun i=>rfl) (fun x hx i=>?_)) fun o _=>?_
  ·have hxn:nP x<=bm:=by
    rcases vaE.1 hx with h|h
    ·rw[va4.1 h];exact hp
    ·exact hq x h
   refine ax (Ww x hxn) fun e _=>ax (R:=fun _=>True) ?_ fun _ _=>aU (fun _=>aq trivial) fun _=>aq ⟨rfl,trivial⟩
   unfold EO
   exact cW (MB _) (aU (fun _=>aq trivial) fun _=>aq trivial)
  ·cases o<;>exact aq fun _=>ho
theorem qbl(t:ae)(ht:ch t<=bm)(hp:Io (fun p=>nP p<=bm) t):fC (PN t) (fun r=>(r !=0)=false->Dv t):=by
 refine pE (F:=Ic) ch (fun x=>ch x<=bm/\Io (fun p=>nP p<=bm) x) (fun x r=>(r !=0)=false->Dv x) (fun R x hx ih=>?_) t ⟨ht,hp⟩ (eg ht)
 obtain⟨hx,hq⟩:=hx
 show fC (B7 (fun t=>R t) x) _
 unfold B7 EK
 have h1:=fD x
 have hq':=(qcC _ _).1 hq
 refine ax (qbz x hx hq'.1 hq'.2.1) fun r hr=>aU (fun h=>aq (fun h'=>by rw[h]at h';cases h')) fun h=>ax (tD x.Args (by unfold bm at hx;omega) _ Dv (fun r=>(r !=0)=true) (fun i=>rfl) (fun y hy i=>ax (ih _ (gB hy) ⟨by have:=gB hy;omega,(Tg _ _).1 hq'.2.2 y hy⟩) fun r hr=>aU (fun h=>aq h) fun h=>aq ⟨rfl,hr (by simpa using h)⟩)) fun o ho=>?_
 cases o with
 |inl r=>
  have ho:(r !=0)=true:=ho
  exact aq fun h'=>by rw[ho]at h';cases h'
 |inr _=>exact aq fun _=>(xK x).2 ⟨hr (by simpa using h),(wC _).2 ho⟩
theorem OO(t:ae)(ht:ch t<=bm)(hp:Io (fun p=>nP p<=bm) t):fC (AC t) (fun r=>(r !=0)=false->Dv t):=by
 unfold AC
 exact ax (Wx t ht) fun _ _=>aU (fun h=>aq (fun h'=>by rw[h]at h';cases h')) fun _=>ax (qbl t ht hp) fun _ h=>aq h
theorem qdb(used:List af)(base:af)(h:used.length<=100000000)(hb:base≠[]):eQ used base≠[]:=by
 unfold eQ
 split
 ·have key:∀k n,mT used base k n=[]->(∀j,n<=j->j<n+k->base++Lib.decDigits j∈used):=by
   intro k
   induction k with
   |zero=>intro n _ j h1 h2;omega
   | succ k ih =>
    intro n hk j h1 h2
    rw[mT]at hk
    split at hk
    ·rename_i hc
     by_cases hj:j=n
     ·subst hj;simpa using hc
     ·exact ih (n+1) hk j (by omega) (by omega)
    ·exact absurd (List.append_eq_nil_iff.1 hk).1 hb
  intro he
  obtain⟨n,h1,h2,h3⟩:=Xk used base
  exact h3 (key _ _ he n h1 (by omega))
 ·exact hb
theorem qcR(t:ae)(c:Sb)(h:qbC t c)(he:∀s∈t.Names,s≠[]):∀i,i<=t.Args.length->∀s∈(jy t.Op t.Names (bP t c) i).2.2,s≠[]
 |0,_=>he
 | i + 1,hi => by
  have ih:=qcR t c h he i (by omega)
  have h1:=ZV t.Op t.Names (bP t c) i
  have h2:=Wf t c
  have h3:=h.sz
  have h4:=h.w
  have h5:=fD t
  show ∀s∈(Da t.Op t.Names i (jy t.Op t.Names (bP t c) i)).2.2,s≠[]
  unfold Da
  split
  ·rename_i hc
   split
   ·intro s hs
    rcases vcj hs with hs|hs
    ·exact ih s hs
    ·rw[hs]
     exact qdb _ _ (by omega) (by rw[CB _ i hc.2];exact he _ (vak hc.2))
   ·exact ih
  ·exact ih
theorem ZN:∀(n:Nat) (t:ae) (c:Sb),ch t<=n->qbC t c->Dv t->Dv (AR t c)
 |0,t,c,hn,_,_=>by have:=po t;omega
 |n+1,t,c,hn,h,he=>by
  rw[xK]at he
  rw[Vd,xK]
  refine⟨qcR t c h he.1 _ (vah _),(wC _).2 fun x hx=>?_⟩
  obtain⟨y,hy,rfl⟩:=vaq.1 hx
  obtain⟨a,i⟩:=y
  obtain⟨h1,h2,h3⟩:=List.mem_zipIdx hy
  have h2:i<t.Args.length:=by omega
  have h3:a=t.Args[i]:=by simpa using h3
  subst h3
  exact ZN n _ _ (by have:=gB (vak h2:t.Args[i]∈t.Args);show ch t.Args[i]<=n;omega) (VS h i h2) ((wC _).1 he.2 _ (vak h2))
structure Kq(L:Nat)(t t':ae):Prop where
 l:ch t'=ch t
 w:wT t'<=wT t
 p:vQ t'=vQ t
 n:yu L t'
 e:Dv t'
theorem Kq.step{L:Nat}{t t':ae}(h:Kq L t t')(x y:af)(h1:ch t<=10000000)(h2:wT t<=10000000)(h3:L<=1000000000000000):Kq (L+10) t (AR t' (sn x (lT y))) where
 l:=by rw[qah];exact h.l
 w:=vaI (qgt _ _ (qci x y)) h.w
 p:=by rw[qd1];exact h.p
 n:=ZO L _ _ h.n
 e:=ZN _ _ _ (vah _) (VT x y (by have:=h.l;omega) (by have:=h.w;omega) (Gg h3 _ h.n)) h.e
theorem Kq.up{L M:Nat}{t t':ae}(h:Kq L t t')(hM:L<=M):Kq M t t':=⟨h.l,h.w,h.p,Gg hM _ h.n,h.e⟩
def zt:ae:=⟨0,[],[],[],gU,[]⟩
theorem Mv(l:List ae)(ns:List af)(i:Nat)(y:af):(FK l ns i y).length=l.length:=by
 unfold FK
 split
 ·rw[vag,vaF,vaO,vaY];omega
 ·rfl
theorem Mu(l:List ae)(ns:List af)(i:Nat)(y:af)(k:Nat):(FK l ns i y)[k]? =if k<=i\/ns.length<=i then l[k]? else(l[k]?).map (fun t=>AR t (sn (ns.getD i []) (lT y))):=by
 unfold FK
 by_cases hi:i<ns.length
 ·rw[vad hi]
  by_cases hk:k<=i
  ·rw[vad (.inl hk)]
   by_cases hl:k<l.length
   ·rw[vaf (by rw[vaO];omega),vap (by omega)]
   ·rw[vat (by rw[vag,vaF,vaO,vaY];omega),vat (by omega)]
  ·rw[vae (by omega)]
   by_cases hl:k<l.length
   ·rw[vai (by rw[vaO];omega),vaB,vbg,vaO,show i+1+(k - min (i+1) l.length)=k by omega]
   ·rw[vat (by rw[vag,vaF,vaO,vaY];omega),vat (by omega)]
    rfl
 ·rw[vae hi,vad (.inr (by omega))]
def AZ(L:Nat)(l l':List ae):Prop:=l'.length=l.length/\∀(k:Nat) (t:ae),l[k]? =some t->∃t':ae,l'[k]? =some t'/\Kq L t t'
theorem AZ.step{L:Nat}{l l':List ae}(h:AZ L l l')(ns:List af)(i:Nat)(y:af)(h1:∀t∈l,ch t<=10000000/\wT t<=10000000)(h3:L<=1000000000000000):AZ (L+10) l (FK l' ns i y):=by
 refine⟨by rw[Mv];exact h.1,fun k t ht=>?_⟩
 obtain⟨t',e,hl⟩:=h.2 k t ht
 have hm:=h1 t (vaA ht)
 rw[Mu,e]
 split
 ·exact⟨t',rfl,hl.up (by omega)⟩
 ·exact⟨_,rfl,hl.step _ _ hm.1 hm.2 h3⟩
theorem AZ.mem{L:Nat}{l l':List ae}(h:AZ L l l'){x:ae}(hx:x∈l'):∃t∈l,Kq L t x:=by
 obtain⟨k,hk⟩:=vbh.1 hx
 have hlt:k<l'.length:=by
  by_cases hc:k<l'.length
  ·exact hc
  ·rw[vat (by omega)]at hk;cases hk
 have hlt2:k<l.length:=by rw[<-h.1];exact hlt
 obtain⟨t',e,hl⟩:=h.2 k l[k] (vab hlt2)
 rw[hk]at e
 cases e
 exact⟨_,vak hlt2,hl⟩
theorem AZ.refl{L:Nat}{l:List ae}(hn:∀t∈l,yu L t)(he:∀t∈l,Dv t):AZ L l l:=⟨rfl,fun k t ht=>⟨t,ht,rfl,vah _,rfl,hn t (vaA ht),he t (vaA ht)⟩⟩
abbrev FS:Type:=List ae×List ae×List af
def Y4(a b:ae)(u:List af)(i:Nat):af:=eQ ((u++a.Names.drop (i+1))++b.Names.drop (i+1)) (b.Names.getD i [120])
def ql7(a b:ae)(i:Nat)(s:FS):FS:=(FK s.1 a.Names i (Y4 a b s.2.2 i),FK s.2.1 b.Names i (Y4 a b s.2.2 i),s.2.2++[Y4 a b s.2.2 i])
def ee(a b:ae)(used:List af):Nat->FS
 |0=>(a.Args,b.Args,used)
 |i+1=>ql7 a b i (ee a b used i)
theorem MO(a b:ae)(used:List af):∀i,(ee a b used i).2.2.length=used.length+i
 |0=>rfl
 |i+1=>by
  have:=MO a b used i
  show((ee a b used i).2.2++[_]).length=_
  rw[vag,this];simp;omega
theorem Xj(a b:ae)(used:List af)(i:Nat):∀j,i<=j->(ee a b used j).2.2.take (used.length+i)=(ee a b used i).2.2
 |0,h=>by
  have:i=0:=by omega
  subst this
  exact vbm
 | j + 1,h => by
  by_cases he:i=j+1
  ·subst he
   have:=MO a b used (j+1)
   rw[<-this,vbm]
  ·have ih:=Xj a b used i j (by omega)
   have hl:=MO a b used j
   show((ee a b used j).2.2++[_]).take _=_
   rw[List.take_append_of_le_length (by omega)]
   exact ih
theorem qc8(a b:ae)(used:List af):∀i,(ee a b used i).1.length=a.Args.length/\(ee a b used i).2.1.length=b.Args.length
 |0=>⟨rfl,rfl⟩
 |i+1=>by
  have:=qc8 a b used i
  exact⟨(Mv _ _ _ _).trans this.1,(Mv _ _ _ _).trans this.2⟩
theorem Z7(a b:ae)(used:List af)(i:Nat):∀j,i<=j->(ee a b used j).1[i]? =(ee a b used i).1[i]?/\(ee a b used j).2.1[i]? =(ee a b used i).2.1[i]?
 |0,h=>by
  have:i=0:=by omega
  subst this
  exact⟨rfl,rfl⟩
 | j + 1,h => by
  by_cases he:i=j+1
  ·subst he;exact⟨rfl,rfl⟩
  ·have ih:=Z7 a b used i j (by omega)
   refine⟨Eq.trans ?_ ih.1,Eq.trans ?_ ih.2⟩
   ·exact(Mu _ _ _ _ i).trans (vad (.inl (by omega)))
   ·exact(Mu _ _ _ _ i).trans (vad (.inl (by omega)))
structure Au(a b:ae)(used:List af)(L:Nat):Prop where
 pl:vQ a=vQ b
 la:ch a<=160
 lb:ch b<=160
 wa:wT a<=160
 wb:wT b<=160
 na:yu L a
 nb:yu L b
 nl:L+10 * nT a<=100000000000000
 u:used.length+nT a<=10000000
 ea:Dv a
 eb:Dv b
theorem Au.al{a b:ae}{used:List af}{L:Nat}(h:Au a b used L):a.Args.length=b.Args.length:=by
 have h1:=h.pl
 rw[IR,IR]at h1
 have:a.Args.map vQ=b.Args.map vQ:=by injection h1
 simpa using va3 List.length this
theorem MA{t x:ae}(h:x∈t.Args):wT x<=wT t:=by rw[pF t];have:=Wp h;omega
theorem Qp{a b:ae}{used:List af}{L:Nat}(h:Au a b used L):∀i,i<=a.Args.length->AZ (L+10 * i) a.Args (ee a b used i).1/\AZ (L+10 * i) b.Args (ee a b used i).2.1
 |0,_=>⟨AZ.refl ((Gf _ _).1 ((AK _ _).1 h.na).2) ((wC _).1 ((xK _).1 h.ea).2),AZ.refl ((Gf _ _).1 ((AK _ _).1 h.nb).2) ((wC _).1 ((xK _).1 h.eb).2)⟩
 |i+1,hi=>by
  have ih:=Qp h i (by omega)
  have h1:=fD a
  have h2:=h.la
  have h3:=h.nl
  have h4:=h.lb
  have h5:=h.wa
  have h6:=h.wb
  have e:L+10 * (i+1)=L+10 * i+10:=by omega
  rw[e]
  exact⟨ih.1.step _ _ _ (fun t ht=>⟨by have:=gB ht;omega,by have:=MA ht;omega⟩) (by omega),ih.2.step _ _ _ (fun t ht=>⟨by have:=gB ht;omega,by have:=MA ht;omega⟩) (by omega)⟩
def lA(a b:ae)(used:List af)(i:Nat):ae:=(ee a b used i).1.getD i zt
def rA(a b:ae)(used:List af)(i:Nat):ae:=(ee a b used i).2.1.getD i zt
theorem QC{a b:ae}{used:List af}{L:Nat}(h:Au a b used L)(i j:Nat)(hi:i<a.Args.length)(hj:i<=j):(ee a b used j).1[i]? =some (lA a b used i)/\(ee a b used j).2.1[i]? =some (rA a b used i)/\Kq (L+10 * i) (a.Args.getD i zt) (lA a b used i)/\Kq (L+10 * i) (b.Args.getD i zt) (rA a b used i):=by
 have hl:=Qp h i (by omega)
 have hg:=Z7 a b used i j hj
 have hb:i<b.Args.length:=by rw[<-h.al];exact hi
 obtain⟨t,e,hk⟩:=hl.1.2 i _ (vab hi)
 obtain⟨t',e',hk'⟩:=hl.2.2 i _ (vab hb)
 have e1:lA a b used i=t:=by unfold lA;rw[vac,e];rfl
 have e2:rA a b used i=t':=by unfold rA;rw[vac,e'];rfl
 rw[hg.1,hg.2,e,e',e1,e2]
 refine⟨rfl,rfl,?_,?_⟩
 ·rw[vac,vab hi];exact hk
 ·rw[vac,vab hb];exact hk'
theorem Au.child{a b:ae}{used:List af}{L:Nat}(h:Au a b used L)(i:Nat)(hi:i<a.Args.length):Au (lA a b used i) (rA a b used i) (ee a b used i).2.2 (L+10 * i)/\Au (rA a b used i) (lA a b used i) (ee a b used i).2.2 (L+10 * i)/\nT (lA a b used i)<nT a/\nT (rA a b used i)<nT a:=by
 obtain⟨_,_,h1,h2⟩:=QC h i i hi (vah _)
 have hb:i<b.Args.length:=by rw[<-h.al];exact hi
 rw[vac,vab hi]at h1
 rw[vac,vab hb]at h2
 have h1:Kq (L+10 * i) a.Args[i] (lA a b used i):=h1
 have h2:Kq (L+10 * i) b.Args[i] (rA a b used i):=h2
 have hpl:vQ a.Args[i]=vQ b.Args[i]:=by
  have h3:=h.pl
  rw[IR,IR]at h3
  have h4:a.Args.map vQ=b.Args.map vQ:=by injection h3
  have h5:(a.Args.map vQ)[i]? =(b.Args.map vQ)[i]?:=by rw[h4]
  rw[vaB,vaB,vab hi,vab hb]at h5
  simpa using h5
 have hm:=vak hi
 have hm':=vak hb
 have n1:=qfq hm
 have n2:=qdD a
 have e1:nT (lA a b used i)=nT a.Args[i]:=by unfold nT;rw[h1.p]
 have e2:nT (rA a b used i)=nT a.Args[i]:=by unfold nT;rw[h2.p,hpl]
 have p1:vQ (lA a b used i)=vQ (rA a b used i):=by rw[h1.p,h2.p,hpl]
 have u1:=MO a b used i
 have a1:=gB hm;have a2:=gB hm';have a3:=MA hm;have a4:=MA hm'
 have b1:=h1.l;have b2:=h2.l;have b3:=h1.w;have b4:=h2.w
 have c1:=h.la;have c2:=h.lb;have c3:=h.wa;have c4:=h.wb;have c5:=h.nl;have c6:=h.u
 exact⟨⟨p1,by omega,by omega,by omega,by omega,h1.n,h2.n,by omega,by omega,h1.e,h2.e⟩,⟨p1.symm,by omega,by omega,by omega,by omega,h2.n,h1.n,by omega,by omega,h2.e,h1.e⟩,by omega,by omega⟩
abbrev Rc:Type:=ae->ae->List af->ai
def tU(rec:Rc)(a b:ae)(used:List af)(n:Nat):Nat->ai
 |0=>rec (lA a b used n) (rA a b used n) (ee a b used n).2.2
 |k+1=>AJ (fo [rec (rA a b used (n - (k+1))) (lA a b used (n - (k+1))) (ee a b used (n - (k+1))).2.2,AM (rA a b used (n - (k+1))) (Y4 a b (ee a b used (n - (k+1))).2.2 (n - (k+1))) (tU rec a b used n k)])
abbrev nB(K:Nat)(a b:ae):Nat:=K * (ch a+ch b)+4 * (wT a+wT b)
def Kf(K:Nat)(rec:Rc)(a b:ae)(u:List af):Prop:=nC (rec a b u)+8+nP a.Pred+nP b.Pred<=nB K a b
theorem U7(t:ae)(x:af)(c:ai):nC (AM t x c)<=nP t.Pred+nC c+1:=by
 have:=qcI t x
 unfold AM
 split
 ·simp[nC,wG];omega
 ·omega
theorem qdA(l:List ai):nC (AJ (fo l))<=2+wG l:=by
 have:=JY l
 have e:nP gU=1:=by simp[nP,nL,gU]
 rw[nC];omega
theorem QH(l:List ae)(i:Nat)(h:i<l.length):dw (l.drop i)=ch l[i]+dw (l.drop (i+1)):=by
 rw[va9 h,dw]
theorem Ys(l:List ae)(i:Nat)(h:i<l.length):uQ (l.drop i)=wT l[i]+uQ (l.drop (i+1)):=by
 rw[va9 h,uQ]
def Hq(K:Nat)(a b:ae)(i:Nat):Nat:=K * (dw (a.Args.drop i)+dw (b.Args.drop i))+4 * (uQ (a.Args.drop i)+uQ (b.Args.drop i))
theorem Ix{K:Nat}{a b:ae}{used:List af}{L:Nat}(h:Au a b used L)(i:Nat)(hi:i<a.Args.length):nB K (rA a b used i) (lA a b used i)+Hq K a b (i+1)<=Hq K a b i/\nB K (lA a b used i) (rA a b used i)=nB K (rA a b used i) (lA a b used i):=by
 obtain⟨_,_,h1,h2⟩:=QC h i i hi (vah _)
 have hb:i<b.Args.length:=by rw[<-h.al];exact hi
 rw[vac,vab hi]at h1
 rw[vac,vab hb]at h2
 have h1:Kq (L+10 * i) a.Args[i] (lA a b used i):=h1
 have h2:Kq (L+10 * i) b.Args[i] (rA a b used i):=h2
 have e1:=QH a.Args i hi
 have e2:=QH b.Args i hb
 have e3:=Ys a.Args i hi
 have e4:=Ys b.Args i hb
 have l1:=h1.l;have l2:=h2.l;have l3:=h1.w;have l4:=h2.w
 unfold nB Hq
 rw[l1,l2,e1,e2,e3,e4]
 constructor
 ·have:K * (ch a.Args[i]+dw (a.Args.drop (i+1))+(ch b.Args[i]+dw (b.Args.drop (i+1))))=K * (ch b.Args[i]+ch a.Args[i])+K * (dw (a.Args.drop (i+1))+dw (b.Args.drop (i+1))):=by rw[<-Nat.mul_add];congr 1;omega
  rw[this];omega
 ·rw[vcd (ch a.Args[i])];omega
theorem Ty(K:Nat)(a b:ae)(hK:20<=K):Hq K a b 0+16+nP a.Pred+nP b.Pred<=nB K a b:=by
 have h1:=tV a
 have h2:=tV b
 have h3:=pF a
 have h4:=pF b
 unfold Hq nB
 rw[vaV,vaV]
 have:K * (dw a.Args+dw b.Args)+K * 2<=K * (ch a+ch b):=by rw[<-Nat.mul_add];exact vbK K (by omega)
 omega
theorem qc7{K:Nat}{rec:Rc}{a b:ae}{used:List af}{L:Nat}(h:Au a b used L)(n:Nat)(hn:n+1=a.Args.length)(hr:∀i,i<a.Args.length->Kf K rec (rA a b used i) (lA a b used i) (ee a b used i).2.2/\Kf K rec (lA a b used i) (rA a b used i) (ee a b used i).2.2):∀k,k<=n->nC (tU rec a b used n k)<=Hq K a b (n - k)
 |0,_=>by
  have h1:=(hr n (by omega)).2
  have h2:=Ix (K:=K) h n (by omega)
  unfold Kf at h1
  show nC (rec (lA a b used n) (rA a b used n) (ee a b used n).2.2)<=Hq K a b n
  omega
 |k+1,hk=>by
  have ih:=qc7 h n hn hr k (by omega)
  have h1:=(hr (n - (k+1)) (by omega)).1
  have h2:=(Ix (K:=K) h (n - (k+1)) (by omega)).1
  unfold Kf at h1
  rw[tU]
  have h3:=qdA [rec (rA a b used (n - (k+1))) (lA a b used (n - (k+1))) (ee a b used (n - (k+1))).2.2,AM (rA a b used (n - (k+1))) (Y4 a b (ee a b used (n - (k+1))).2.2 (n - (k+1))) (tU rec a b used n k)]
  have h4:=U7 (rA a b used (n - (k+1))) (Y4 a b (ee a b used (n - (k+1))).2.2 (n - (k+1))) (tU rec a b used n k)
  simp only[wG]at h3
  rw[show n - (k+1)+1=n - k by omega]at h2
  omega
theorem Xi{K:Nat}{rec:Rc}{a b:ae}{used:List af}{L:Nat}(h:Au a b used L)(n:Nat)(hn:n+1=a.Args.length)(hr:∀i,i<a.Args.length->Kf K rec (rA a b used i) (lA a b used i) (ee a b used i).2.2/\Kf K rec (lA a b used i) (rA a b used i) (ee a b used i).2.2)(hK:20<=K)(k:Nat)(hk:k<n):wG [rec (rA a b used (n - (k+1))) (lA a b used (n - (k+1))) (ee a b used (n - (k+1))).2.2,AM (rA a b used (n - (k+1))) (Y4 a b (ee a b used (n - (k+1))).2.2 (n - (k+1))) (tU rec a b used n k)]<=nB K a b:=by
 have h0:=qc7 h n hn hr k (by omega)
 have h1:=(hr (n - (k+1)) (by omega)).1
 have h2:=(Ix (K:=K) h (n - (k+1)) (by omega)).1
 have h4:=U7 (rA a b used (n - (k+1))) (Y4 a b (ee a b used (n - (k+1))).2.2 (n - (k+1))) (tU rec a b used n k)
 have h5:=Ty K a b hK
 have h6:Hq K a b (n - (k+1))<=Hq K a b 0:=by
  unfold Hq
  have m1:∀(l:List ae) (i:Nat),dw (l.drop i)<=dw l:=by
   intro l
   induction l with
   |nil=>intro i;simp
   |cons x l ih=>
    intro i
    cases i with
    |zero=>exact vah _
    |succ i=>have:=ih i;rw[vb7,dw];omega
  have m2:∀(l:List ae) (i:Nat),uQ (l.drop i)<=uQ l:=by
   intro l
   induction l with
   |nil=>intro i;simp
   |cons x l ih=>
    intro i
    cases i with
    |zero=>exact vah _
    |succ i=>have:=ih i;rw[vb7,uQ];omega
  rw[vaV,vaV]
  have:=m1 a.Args (n - (k+1));have:=m1 b.Args (n - (k+1));have:=m2 a.Args (n - (k+1));have:=m2 b.Args (n - (k+1))
  exact Nat.add_le_add (vbK K (by omega)) (by omega)
 unfold Kf at h1
 simp only[wG]
 rw[show n - (k+1)+1=n - k by omega]at h2
 omega
abbrev T9:Type:=Int×af×af×Int×af×Int×List aa×Int×List ai
def t9(c:ai):T9:=(c.Op,c.Name,c.Sort_,c.Pred.Op,c.Pred.Name,c.Pred.N,c.Pred.Kids,c.Tag,c.Kids)
def ys(a b:ae)(used:List af):Nat->List af
 |0=>[]
 |i+1=>ys a b used i++[Y4 a b (ee a b used i).2.2 i]
theorem ZJ(a b:ae)(used:List af):∀i,(ys a b used i).length=i
 |0=>rfl
 |i+1=>by rw[ys,vag,ZJ];rfl
theorem qex(a b:ae)(used:List af)(i:Nat):∀n,i<n->(ys a b used n)[i]? =some (Y4 a b (ee a b used i).2.2 i)
 |0,h=>absurd h (vaS _)
 | n + 1,h => by
  have hl:=ZJ a b used n
  rw[ys]
  by_cases he:i=n
  ·subst he
   rw[vai (by omega),hl,vby];rfl
  ·rw[vaf (by omega)]
   exact qex a b used i n (by omega)
theorem CG{α:Type}{l:List α}{i:Nat}{x:α}(h:l[i]? =some x):cz l (i:Int)=some x:=by
 have hlt:i<l.length:=by
  by_cases hc:i<l.length
  ·exact hc
  ·rw[vat (by omega)]at h;cases h
 rw[bp l i hlt,<-vab hlt,h]
theorem qc9{a b:ae}{used:List af}{L:Nat}(h:Au a b used L)(i:Nat)(hi:i<a.Args.length):mW (((ee a b used i).2.2++a.Names.drop (i+1))++b.Names.drop (i+1)) (b.Names.getD i [120])=some (Y4 a b (ee a b used i).2.2 i)/\sL ((b.Names.drop (i+1)++a.Names.drop (i+1))++(ee a b used i).2.2) (b.Names.getD i [120])=some (Y4 a b (ee a b used i).2.2 i):=by
 have h1:=MO a b used i
 have h2:=iP a
 have h3:=iP b
 have h4:=h.u
 have h5:=qdD a
 have h6:=fD a
 have h7:=h.la;have h8:=h.lb;have h9:=h.nl
 have hu:used.length+i<=10000000:=by
  have:a.Args.length<=dw (a.Args.map vQ):=by have:=Gs (a.Args.map vQ);rwa[vaF]at this
  omega
 have hbase:(b.Names.getD i [120]).length<=4000000000000000000:=by
  by_cases hb:i<b.Names.length
  ·rw[vac,vab hb,Option.getD_some]
   have:=((AK _ _).1 h.nb).1 _ (vak hb)
   omega
  ·rw[vac,vat (by omega)]
   simp
 constructor
 ·exact(Aw _ _ (by rw[vag,vag,vaY,vaY];omega) hbase).1
 ·rw[(Aw _ _ (by rw[vag,vag,vaY,vaY];omega) hbase).2.1]
  unfold Y4
  congr 1
  exact Kg (fun x=>by simp only[vaE];constructor<;>(rintro((h|h)|h)<;>simp[h])) _
theorem CK{σ X:Type}(n:Nat)(body:σ->Option (σ⊕X))(S:Nat->σ)(e:X)(hin:∀i,i<n->body (S i)=some (.inl (S (i+1))))(hend:body (S n)=some (.inr e)):loop body (S 0)=some e:=by
 have key:∀k i,k+i=n->loop body (S i)=some e:=by
  intro k
  induction k with
  |zero=>
   intro i hi
   have:i=n:=by omega
   subst this
   exact jZ hend
  |succ k ih=>
   intro i hi
   rw[qw (hin i (by omega))]
   exact ih (i+1) (by omega)
 exact key n 0 (by omega)
theorem AZ.okV{L:Nat}{l l':List ae}(h:AZ L l l')(h1:∀t∈l,ch t<=10000000/\wT t<=10000000)(h3:L<=1000000000000000):∀x∈l',okV x:=fun x hx=>by
 obtain⟨t,ht,hl⟩:=h.mem hx
 have:=h1 t ht
 exact⟨by have:=hl.l;omega,by have:=hl.w;omega,Gg h3 _ hl.n⟩
theorem Au.okVs{a b:ae}{used:List af}{L:Nat}(h:Au a b used L)(i:Nat)(hi:i<=a.Args.length):(∀x∈(ee a b used i).1,okV x)/\(∀x∈(ee a b used i).2.1,okV x):=by
 have hl:=Qp h i hi
 have h1:=fD a
 have c1:=h.la;have c2:=h.lb;have c3:=h.wa;have c4:=h.wb;have c5:=h.nl
 exact⟨hl.1.okV (fun t ht=>⟨by have:=gB ht;omega,by have:=MA ht;omega⟩) (by omega),hl.2.okV (fun t ht=>⟨by have:=gB ht;omega,by have:=MA ht;omega⟩) (by omega)⟩
theorem Ym{α:Type}(l:List α)(i:Nat)(hi:i<4611686018427387904)(hl:l.length<4611686018427387904):Ot l (some (if(l.length:Int)<aS ((i:Int)+1)then(l.length:Int)else aS ((i:Int)+1))) none=some (l.drop (i+1)):=by
 rw[dE (by omega) (by omega)]
 by_cases h:(l.length:Int)<(i:Int)+1
 ·rw[vad h,FP l l.length (vah _),vb3,vbD (by omega)]
 ·rw[vae h,show((i:Int)+1)=((i+1:Nat):Int) by omega,FP l (i+1) (by omega)]
theorem qhj(a b:ae)(i:Nat)(taken:List af)(hi:i<1000)(ha:a.Names.length<=1000)(hb:b.Names.length<=1000)(ht:taken.length<=100000000):fh (i:Int) [a,b] (([a,b]:List ae).length:Int) taken 0=some ((taken++a.Names.drop (i+1))++b.Names.drop (i+1)):=by
 unfold fh
 refine CK 2 _ (fun k=>((match k with|0=>taken|1=>taken++a.Names.drop (i+1)|_=>(taken++a.Names.drop (i+1))++b.Names.drop (i+1)),(k:Int))) _ (fun k hk=>?_) ?_
 ·match k,hk with
  |0,_=>
   show co (i:Int) [a,b] 2 taken 0=_
   unfold co
   rw[vad (by decide),Ki]
   simp only[vaa]
   rw[Ym _ i (by omega) (by omega)]
   simp only[vaa]
   rw[cQ (by rw[vaY];omega)]
   rfl
  |1,_=>
   show co (i:Int) [a,b] 2 (taken++a.Names.drop (i+1)) 1=_
   unfold co
   rw[vad (by decide),show cz [a,b] (1:Int)=some b from bp [a,b] 1 (by simp)]
   simp only[vaa]
   rw[Ym _ i (by omega) (by omega)]
   simp only[vaa]
   rw[cQ (by rw[vag,vaY,vaY];omega)]
   rfl
 ·show co (i:Int) [a,b] 2 ((taken++a.Names.drop (i+1))++b.Names.drop (i+1)) 2=_
  unfold co
  rw[vae (by decide)]
theorem qhi{a b:ae}{used:List af}{L:Nat}(h:Au a b used L)(n:Nat)(hn:n+1=a.Args.length):fg a b (n:Int) a.Args b.Args [] used 0=some ((ee a b used n).1,(ee a b used n).2.1,ys a b used n,(ee a b used n).2.2):=by
 have h1:=fD a
 have h2:=iP a
 have h3:=iP b
 have c1:=h.la;have c2:=h.lb;have c6:=h.u
 unfold fg
 refine CK n _ (fun i=>((ee a b used i).1,(ee a b used i).2.1,ys a b used i,(ee a b used i).2.2,(i:Int))) _ (fun i hi=>?_) ?_
 ·show dn a b (n:Int) (ee a b used i).1 (ee a b used i).2.1 (ys a b used i) (ee a b used i).2.2 (i:Int)=_
  have u1:=MO a b used i
  have y1:=ZJ a b used i
  have l1:=qc8 a b used i
  have v1:=h.okVs i (by omega)
  have al:=h.al
  unfold dn
  rw[vad (by simp;omega)]
  have hj:ff b (i:Int)=some (b.Names.getD i [120]):=by
   unfold ff
   by_cases hb:i<b.Names.length
   ·rw[vad (by simp;omega),bp _ i hb,vac,vab hb];rfl
   ·rw[vae (by simp;omega),vac,vat (by omega)];rfl
  rw[hj]
  simp only[vaa]
  rw[AT _ (by omega)]
  simp only[vaa]
  rw[qhj a b i _ (by omega) (by omega) (by omega) (by omega)]
  simp only[vaa]
  rw[(qc9 h i (by omega)).1]
  simp only[vaa]
  rw[cQ (by simp;omega),cQ (by simp;omega)]
  simp only[vaa]
  rw[KR _ a i _ (by omega) (by omega) v1.1 (by omega)]
  simp only[vaa]
  rw[KR _ b i _ (by omega) (by omega) v1.2 (by omega)]
  simp only[vaa]
  rw[dE (by omega) (by omega),show((i:Int)+1)=((i+1:Nat):Int) by omega]
  rfl
 ·show dn a b (n:Int) (ee a b used n).1 (ee a b used n).2.1 (ys a b used n) (ee a b used n).2.2 (n:Int)=_
  unfold dn
  rw[vae (by simp)]
theorem V0(R:d7)(m:aG)(tag:Int){K:Nat}{rec:Rc}{a b:ae}{used:List af}{L:Nat}(h:Au a b used L)(n:Nat)(hn:n+1=a.Args.length)(hr:∀i,i<a.Args.length->Kf K rec (rA a b used i) (lA a b used i) (ee a b used i).2.2/\Kf K rec (lA a b used i) (rA a b used i) (ee a b used i).2.2)(hK:20<=K)(hB:nB K a b<=bm)
  (hR:∀i,i<a.Args.length->R ⟨m,tag⟩ (rA a b used i) (lA a b used i) (ee a b used i).2.2=some (rec (rA a b used i) (lA a b used i) (ee a b used i).2.2)/\R ⟨m,tag⟩ (lA a b used i) (rA a b used i) (ee a b used i).2.2=some (rec (lA a b used i) (rA a b used i) (ee a b used i).2.2)):
  gA R ⟨m,tag⟩ a b used=some (tU rec a b used n n):=by
 have al:=h.al
 have h1:=fD a
 have c1:=h.la;have c2:=h.lb;have c6:=h.u
 unfold gA
 rw[AT _ (by omega)]
 simp only[vaa]
 rw[dE (n:=(b.Args.length:Int) - 1) (by omega) (by omega),show((b.Args.length:Int) - 1)=(n:Int) by omega,qhi h n hn]
 simp only[vaa]
 obtain⟨g1,g2,_,_⟩:=QC h n n (by omega) (vah _)
 rw[CG g1,CG g2]
 simp only[vaa]
 rw[(hR n (by omega)).2]
 simp only[vaa]
 unfold iw
 rw[dE (n:=(n:Int) - 1) (by omega) (by omega)]
 have e:=CK n (fun(zz:Int×T9)=>cp R used ⟨m,tag⟩ (ee a b used n).1 (ee a b used n).2.1 (ys a b used n) (ee a b used n).2.2 zz.1 zz.2.1 zz.2.2.1 zz.2.2.2.1 zz.2.2.2.2.1 zz.2.2.2.2.2.1 zz.2.2.2.2.2.2.1 zz.2.2.2.2.2.2.2.1 zz.2.2.2.2.2.2.2.2.1 zz.2.2.2.2.2.2.2.2.2) (fun k=>((n:Int) - 1 - (k:Int),t9 (tU rec a b used n k))) (t9 (tU rec a b used n n)) (fun k hk=>?_) ?_
 ·have e':(n:Int) - 1 - ((0:Nat):Int)=(n:Int) - 1:=by omega
  rw[e']at e
  rw[show loop (fun(zz:Int×T9)=>cp R used ⟨m,tag⟩ (ee a b used n).1 (ee a b used n).2.1 (ys a b used n) (ee a b used n).2.2 zz.1 zz.2.1 zz.2.2.1 zz.2.2.2.1 zz.2.2.2.2.1 zz.2.2.2.2.2.1 zz.2.2.2.2.2.2.1 zz.2.2.2.2.2.2.2.1 zz.2.2.2.2.2.2.2.2.1 zz.2.2.2.2.2.2.2.2.2) ((n:Int) - 1,(rec (lA a b used n) (rA a b used n) (ee a b used n).2.2).Op,(rec (lA a b used n) (rA a b used n) (ee a b used n).2.2).Name,(rec (lA a b used n) (rA a b used n) (ee a b used n).2.2).Sort_,(rec (lA a b used n) (rA a b used n) (ee a b used n).2.2).Pred.Op,(rec (lA a b used n) (rA a b used n) (ee a b used n).2.2).Pred.Name,(rec (lA a b used n) (rA a b used n) (ee a b used n).2.2).Pred.N,(rec (lA a b used n) (rA a b used n) (ee a b used n).2.2).Pred.Kids,(rec (lA a b used n) (rA a b used n) (ee a b used n).2.2).Tag,(rec (lA a b used n) (rA a b used n) (ee a b used n).2.2).Kids)=_ from e]
  show some (⟨(tU rec a b used n n).Op,(tU rec a b used n n).Name,(tU rec a b used n n).Sort_,⟨(tU rec a b used n n).Pred.Op,(tU rec a b used n n).Pred.Name,(tU rec a b used n n).Pred.N,(tU rec a b used n n).Pred.Kids⟩,(tU rec a b used n n).Tag,(tU rec a b used n n).Kids⟩:ai)=_
  rw[IA]
 ·show cp R used ⟨m,tag⟩ (ee a b used n).1 (ee a b used n).2.1 (ys a b used n) (ee a b used n).2.2 ((n:Int) - 1 - (k:Int)) (tU rec a b used n k).Op (tU rec a b used n k).Name (tU rec a b used n k).Sort_ (tU rec a b used n k).Pred.Op (tU rec a b used n k).Pred.Name (tU rec a b used n k).Pred.N (tU rec a b used n k).Pred.Kids (tU rec a b used n k).Tag (tU rec a b used n k).Kids=_
  have hp:=Xi h n hn hr hK k hk
  obtain⟨i,hi⟩:∃i,i=n - (k+1):=⟨_,rfl⟩
  have hin:i<n:=by omega
  rw[<-hi]at hp
  have ei:(n:Int) - 1 - (k:Int)=(i:Int):=by omega
  obtain⟨q1,q2,_,_⟩:=QC h i n (by omega) (by omega)
  have ok:=h.child i (by omega)
  have ok1:=ok.1.lb
  have ok2:=ok.1.wb
  have w1:=pF (rA a b used i)
  have u1:=MO a b used n
  have ht:=Xj a b used i n (by omega)
  unfold cp
  rw[ei,vad (by simp),dE (n:=(used.length:Int)+i) (by omega) (by omega),show((used.length:Int)+(i:Int))=((used.length+i:Nat):Int) by omega,ZE _ _ (by omega),ht,CG q2,CG q1]
  simp only[vaa]
  rw[(hR i (by omega)).1,CG (qex a b used i n hin)]
  simp only[vaa]
  rw[IA,XO _ _ _ (by unfold bm;omega) (by unfold bm;omega)]
  simp only[vaa]
  rw[Vc _ (vaI hp hB)]
  simp only[vaa]
  rw[dE (by omega) (by omega),show(i:Int) - 1=(n:Int) - 1 - ((k+1:Nat):Int) by omega]
  have:tU rec a b used n (k+1)=AJ (fo [rec (rA a b used i) (lA a b used i) (ee a b used i).2.2,AM (rA a b used i) (Y4 a b (ee a b used i).2.2 i) (tU rec a b used n k)]):=by rw[tU,<-hi]
  rw[this]
  rfl
 ·show cp R used ⟨m,tag⟩ (ee a b used n).1 (ee a b used n).2.1 (ys a b used n) (ee a b used n).2.2 ((n:Int) - 1 - (n:Int)) (tU rec a b used n n).Op (tU rec a b used n n).Name (tU rec a b used n n).Sort_ (tU rec a b used n n).Pred.Op (tU rec a b used n n).Pred.Name (tU rec a b used n n).Pred.N (tU rec a b used n n).Pred.Kids (tU rec a b used n n).Tag (tU rec a b used n n).Kids=_
  unfold cp
  rw[vae (by simp;omega)]
  rfl
theorem T3(t:ae)(i:Nat)(v:List af)(hi:i<1000000)(hn:t.Names.length<=1000000)(hv:v.length<=100000000):AH t (i:Int) v=some (v++t.Names.drop (i+1)):=by
 unfold AH Cd
 rw[dE (by omega) (by omega),show((i:Int)+1)=((i+1:Nat):Int) by omega]
 have e:=CK ((t.Names.drop (i+1)).length) (fun(zz:(List af)×Int)=>ik t zz.1 zz.2) (fun j=>(v++(t.Names.drop (i+1)).take j,((i+1+j:Nat):Int))) (v++t.Names.drop (i+1)) (fun j hj=>?_) ?_
 ·rw[List.take_zero,va1,Nat.add_zero]at e
  rw[e]
  rfl
 ·have hj':i+1+j<t.Names.length:=by rw[vaY]at hj;omega
  show ik t (v++(t.Names.drop (i+1)).take j) ((i+1+j:Nat):Int)=_
  unfold ik
  rw[vad (by simp;omega),bp _ _ hj']
  simp only[vaa]
  rw[cQ (by simp;omega),dE (by omega) (by omega)]
  simp only[vaa]
  rw[vaM hj,List.getElem_drop,vba,show(((i+1+j:Nat):Int)+1)=((i+1+(j+1):Nat):Int) by omega]
 ·show ik t (v++(t.Names.drop (i+1)).take (t.Names.drop (i+1)).length) ((i+1+(t.Names.drop (i+1)).length:Nat):Int)=_
  unfold ik
  rw[vae (by simp;omega),vbm]
abbrev qD(t:ae)(l:List ae):ae:=⟨t.Op,t.Name,l,t.Names,t.Pred,t.Preds⟩
theorem V8(R:nA)(m:aG)(tag:Int){K:Nat}{rec:Rc}{a b:ae}{used:List af}{L:Nat}(h:Au a b used L)(n:Nat)(hn:n+1=a.Args.length)(hr:∀i,i<a.Args.length->Kf K rec (rA a b used i) (lA a b used i) (ee a b used i).2.2/\Kf K rec (lA a b used i) (rA a b used i) (ee a b used i).2.2)(hK:20<=K)(hB:nB K a b<=bm)
  (hR:∀i,i<a.Args.length->R m (rA a b used i) (lA a b used i) tag (ee a b used i).2.2=some (rec (rA a b used i) (lA a b used i) (ee a b used i).2.2,0)/\R m (lA a b used i) (rA a b used i) tag (ee a b used i).2.2=some (rec (lA a b used i) (rA a b used i) (ee a b used i).2.2,0)):
  Cc R m a b 0 tag used=some (tU rec a b used n n,0):=by
 have al:=h.al
 have h1:=fD a
 have h2:=iP a
 have h3:=iP b
 have c1:=h.la;have c2:=h.lb;have c6:=h.u
 have key:=eP (F:=xF R) (fun x=>n - x.2.2.2.1.toNat) (fun x=>∃i:Nat,i<=n/\x=(m,qD a (ee a b used i).1,qD b (ee a b used i).2.1,(i:Int),tag,(ee a b used i).2.2)) (fun x=>(tU rec a b used n (n - x.2.2.2.1.toNat),0)) (fun R2 x hx ih=>?_) (m,a,b,0,tag,used) ⟨0,by omega,by rw[show qD a (ee a b used 0).1=a from Tz a,show qD b (ee a b used 0).2.1=b from Tz b];rfl⟩ (eg (by show n - 0<=bm;unfold bm;omega))
 ·exact key
 ·obtain⟨i,hi,rfl⟩:=hx
  obtain⟨q1,q2,_,_⟩:=QC h i i (by omega) (vah _)
  have l1:=qc8 a b used i
  have u1:=MO a b used i
  have v1:=h.okVs i (by omega)
  show rh R (fun m a a2 i tag used=>R2 (m,a,a2,i,tag,used)) m (qD a (ee a b used i).1) (qD b (ee a b used i).2.1) (i:Int) tag (ee a b used i).2.2=some (tU rec a b used n (n - i),0)
  unfold rh
  have hlen:(qD b (ee a b used i).2.1).Args.length=n+1:=by show(ee a b used i).2.1.length=_;omega
  rw[hlen,dE (n:=((n+1:Nat):Int) - 1) (by omega) (by omega)]
  by_cases he:i=n
  ·subst he
   rw[vad (by simp),show(qD a (ee a b used i).1).Args=(ee a b used i).1 from rfl,show(qD b (ee a b used i).2.1).Args=(ee a b used i).2.1 from rfl,CG q1,CG q2]
   simp only[vaa]
   rw[(hR i (by omega)).2,vby]
   rfl
  ·have hin:i<n:=by omega
   have hne:∀s∈b.Names,s≠[]:=((xK _).1 h.eb).1
   have hnea:∀s∈a.Names,s≠[]:=((xK _).1 h.ea).1
   rw[vae (by simp;omega)]
   have hj:pH (i:Int) (qD b (ee a b used i).2.1)=some (b.Names.getD i [120]):=by
    unfold pH vo
    show(if decide ((i:Int)<(b.Names.length:Int))=true then(cz b.Names (i:Int)).bind fun x8=>some (!(x8==([]:af)))else some false).bind (fun o9=>if o9=true then(cz b.Names (i:Int)).bind fun x12=>some x12 else some ([120]:af))=_
    by_cases hb:i<b.Names.length
    ·rw[vad (by simp;omega),bp _ i hb,vac,vab hb]
     simp only[vaa]
     rw[vad (by have:=hne _ (vak hb);simpa using this)]
     rfl
    ·rw[vae (by simp;omega),vac,vat (by omega)];rfl
   rw[hj]
   simp only[vaa]
   rw[T3 _ i [] (by omega) (by show b.Names.length<=_;omega) (by simp)]
   simp only[vaa]
   rw[T3 _ i _ (by omega) (by show a.Names.length<=_;omega) (by show(([]:List af)++b.Names.drop (i+1)).length<=_;simp;omega)]
   simp only[vaa]
   rw[show(qD a (ee a b used i).1).Names=a.Names from rfl,show(qD b (ee a b used i).2.1).Names=b.Names from rfl,vaC,cQ (by simp;omega)]
   simp only[vaa]
   rw[(qc9 h i (by omega)).2,show(qD a (ee a b used i).1).Args=(ee a b used i).1 from rfl,show(qD b (ee a b used i).2.1).Args=(ee a b used i).2.1 from rfl,CG q1,CG q2]
   simp only[vaa]
   rw[(hR i (by omega)).1]
   simp only[vaa]
   rw[vae (by simp),Rl (qD a (ee a b used i).1) i _ (by show(ee a b used i).1.length<=_;omega) (by show i<(ee a b used i).1.length;omega) v1.1 (by show a.Names.length<=_;omega) hnea,Rl (qD b (ee a b used i).2.1) i _ (by show(ee a b used i).2.1.length<=_;omega) (by show i<(ee a b used i).2.1.length;omega) v1.2 (by show b.Names.length<=_;omega) hne]
   simp only[vaa]
   rw[cQ (by simp;omega),vaC]
   simp only[vaa]
   rw[cQ (by simp;omega)]
   simp only[vaa]
   rw[dE (by omega) (by omega),show((i:Int)+1)=((i+1:Nat):Int) by omega]
   have hi2:=ih (m,qD a (ee a b used (i+1)).1,qD b (ee a b used (i+1)).2.1,((i+1:Nat):Int),tag,(ee a b used (i+1)).2.2) (by show n - (i+1)<n - i;omega) ⟨i+1,by omega,rfl⟩
   have hi3:R2 (m,qD a (ee a b used (i+1)).1,qD b (ee a b used (i+1)).2.1,((i+1:Nat):Int),tag,(ee a b used (i+1)).2.2)=some (tU rec a b used n (n - (i+1)),0):=hi2
   refine(va3 (fun z=>Option.bind z _) hi3).trans ?_
   simp only[vaa]
   obtain⟨k,hk⟩:∃k,k=n - (i+1):=⟨_,rfl⟩
   have hki:i=n - (k+1):=by omega
   have hp:=Xi h n hn hr hK k (by omega)
   have ok:=h.child i (by omega)
   have ok1:=ok.1.lb
   have ok2:=ok.1.wb
   have w1:=pF (rA a b used i)
   rw[vae (by simp),Rm _ _ _ (by unfold bm;omega) (by unfold bm;omega),<-hk]
   simp only[vaa]
   rw[<-hki]at hp
   rw[Mq _ (vaI hp hB),show n - i=k+1 by omega]
   have:tU rec a b used n (k+1)=AJ (fo [rec (rA a b used i) (lA a b used i) (ee a b used i).2.2,AM (rA a b used i) (Y4 a b (ee a b used i).2.2 i) (tU rec a b used n k)]):=by rw[tU,<-hki]
   rw[this]
   rfl
def yx(m:aG)(tag:Int):Nat->Rc
 |0=>fun _ _ _=>RC
 |k+1=>fun a b used=>if a.Op=6 then(if a.Args.length=0 then AJ []else tU (yx m tag k) a b used (a.Args.length - 1) (a.Args.length - 1))else if xL a=true then J1 m tag a b used else AJ []
structure qcp(m:aG)(D:Nat):Prop where
 ds:m.Datas.length<=1048576
 dp:∀d∈m.Datas,d.Preds.length<=D
 D:D<=1048576
theorem Au.nB{a b:ae}{used:List af}{L:Nat}(h:Au a b used L){D:Nat}(hD:D<=1048576):nB (2 * D+20) a b<=bm:=by
 have c1:=h.la;have c2:=h.lb;have c3:=h.wa;have c4:=h.wb
 have:(2 * D+20) * (ch a+ch b)<=(2 * 1048576+20) * 320:=vcf (by omega) (by omega)
 show(2 * D+20) * (ch a+ch b)+4 * (wT a+wT b)<=bm
 unfold bm;omega
theorem qe7{a:ae}(h:xL a=true):a.Op≠6:=by
 unfold xL at h
 simp only[vbb,van]at h
 omega
theorem tz{m:aG}{D:Nat}(hm:qcp m D)(tag:Int):∀(k:Nat) (a b:ae) (used:List af) (L:Nat),Au a b used L->nT a<=k->Kf (2 * D+20) (yx m tag k) a b used
 |0,a,b,used,L,h,hk=>by have:1<=nT a:=po _;omega
 | k + 1,a,b,used,L,h,hk => by
  have e:2 * (2 * D+20)<=(2 * D+20) * (ch a+ch b):=by
   rw[vcw];exact vbK _ (by have:=po a;have:=po b;omega)
  have w1:=pF a
  have w2:=pF b
  have z:nC (AJ [])=2:=by simp[nC,wG,nP,nL,gU]
  unfold Kf
  show nC (if a.Op=6 then _ else _)+8+nP a.Pred+nP b.Pred<=(2 * D+20) * (ch a+ch b)+4 * (wT a+wT b)
  by_cases h6:a.Op=6
  ·rw[vad h6]
   by_cases h0:a.Args.length=0
   ·rw[vad h0,z];omega
   ·rw[vae h0]
    have h2:=qc7 (K:=2 * D+20) (rec:=yx m tag k) h (a.Args.length - 1) (by omega) (fun i hi=>by
     have hc:=h.child i hi
     exact⟨tz hm tag k _ _ _ _ hc.2.1 (by omega),tz hm tag k _ _ _ _ hc.1 (by omega)⟩) (a.Args.length - 1) (vah _)
    rw[vby]at h2
    have h3:=Ty (2 * D+20) a b (by omega)
    have h4:nB (2 * D+20) a b=(2 * D+20) * (ch a+ch b)+4 * (wT a+wT b):=rfl
    omega
  ·rw[vae h6]
   by_cases hb:xL a=true
   ·rw[vad hb]
    have h2:=qe6 m tag a b used D (Iw m a.Name D hm.dp)
    omega
   ·rw[vae hb,z];omega
theorem TA{rec rec':Rc}{a b:ae}{used:List af}(n:Nat)(h:∀i,i<=n->rec (rA a b used i) (lA a b used i) (ee a b used i).2.2=rec' (rA a b used i) (lA a b used i) (ee a b used i).2.2/\rec (lA a b used i) (rA a b used i) (ee a b used i).2.2=rec' (lA a b used i) (rA a b used i) (ee a b used i).2.2):∀k,k<=n->tU rec a b used n k=tU rec' a b used n k
 |0,_=>(h n (vah _)).2
 |k+1,hk=>by
  rw[tU,tU,TA n h k (by omega),(h (n - (k+1)) (by omega)).1]
theorem wI{m:aG}(tag:Int):∀(k k':Nat) (a b:ae) (used:List af) (L:Nat),Au a b used L->nT a<=k->nT a<=k'->yx m tag k a b used=yx m tag k' a b used
 |0,k',a,b,used,L,h,hk,_=>by have:1<=nT a:=po _;omega
 |k+1,0,a,b,used,L,h,_,hk=>by have:1<=nT a:=po _;omega
 | k + 1,k' + 1,a,b,used,L,h,hk,hk' => by
  show(if a.Op=6 then _ else _)=(if a.Op=6 then _ else _)
  by_cases h6:a.Op=6
  ·rw[vad h6,vad h6]
   by_cases h0:a.Args.length=0
   ·rw[vad h0,vad h0]
   ·rw[vae h0,vae h0]
    refine TA _ (fun i hi=>?_) _ (vah _)
    have hc:=h.child i (by omega)
    exact⟨wI tag k k' _ _ _ _ hc.2.1 (by omega) (by omega),wI tag k k' _ _ _ _ hc.1 (by omega) (by omega)⟩
  ·rw[vae h6,vae h6]
def FU(m:aG)(tag:Int)(a b:ae)(used:List af):ai:=yx m tag (nT a) a b used
theorem Au.b{m:aG}{D:Nat}(hm:qcp m D){a b:ae}{used:List af}{L:Nat}(h:Au a b used L):qkD m a b used where
 u:=by have:=h.u;omega
 la:=by have:=h.la;omega
 lb:=by have:=h.lb;omega
 wa:=by have:=h.wa;omega
 wb:=by have:=h.wb;omega
 ds:=by have:=hm.ds;omega
 dp:=fun d hd=>by have:=hm.dp d hd;have:=hm.D;omega
theorem qd6{m:aG}{D:Nat}(hm:qcp m D)(tag:Int){a b:ae}{used:List af}{L:Nat}(h:Au a b used L):qk ⟨m,tag⟩ a b used=some (FU m tag a b used):=by
 refine eP (F:=nj) (fun x=>nT x.2.1) (fun x=>x.1=⟨m,tag⟩/\∃L,Au x.2.1 x.2.2.1 x.2.2.2 L) (fun x=>FU m tag x.2.1 x.2.2.1 x.2.2.2) (fun R x hx ih=>?_) (⟨m,tag⟩,a,b,used) ⟨rfl,L,h⟩ (eg (by have:=XI a;have:=h.la;show nT a<=bm;unfold bm;omega))
 obtain⟨w,a,b,used⟩:=x
 obtain⟨hw,L,h⟩:=hx
 have hw:w=⟨m,tag⟩:=hw
 subst hw
 have h:Au a b used L:=h
 show ji (fun w a a2 used=>R (w,a,a2,used)) ⟨m,tag⟩ a b used=some (yx m tag (nT a) a b used)
 obtain⟨k,hk⟩:∃k,nT a=k+1:=⟨nT a - 1,by have:1<=nT a:=po _;omega⟩
 have hs:yx m tag (nT a) a b used=if a.Op=6 then(if a.Args.length=0 then AJ []else tU (yx m tag k) a b used (a.Args.length - 1) (a.Args.length - 1))else if xL a=true then J1 m tag a b used else AJ []:=by rw[hk];rfl
 rw[hs]
 unfold ji
 by_cases h6:a.Op=6
 ·rw[vad (by simpa using h6),vad h6]
  by_cases h0:a.Args.length=0
  ·rw[vad (by simp[h0]),vad h0];rfl
  ·rw[vae (by simpa using h0),vae h0]
   have hc:∀i,i<a.Args.length->yx m tag (nT (rA a b used i)) (rA a b used i) (lA a b used i) (ee a b used i).2.2=yx m tag k (rA a b used i) (lA a b used i) (ee a b used i).2.2/\yx m tag (nT (lA a b used i)) (lA a b used i) (rA a b used i) (ee a b used i).2.2=yx m tag k (lA a b used i) (rA a b used i) (ee a b used i).2.2:=fun i hi=>by
    have hc:=h.child i hi
    exact⟨wI tag _ _ _ _ _ _ hc.2.1 (vah _) (by omega),wI tag _ _ _ _ _ _ hc.1 (vah _) (by omega)⟩
   rw[V0 (fun w a a2 used=>R (w,a,a2,used)) m tag (K:=2 * D+20) (rec:=yx m tag k) h (a.Args.length - 1) (by omega) (fun i hi=>by
    have hc:=h.child i hi
    exact⟨tz hm tag k _ _ _ _ hc.2.1 (by omega),tz hm tag k _ _ _ _ hc.1 (by omega)⟩) (by omega) (h.nB hm.D) (fun i hi=>by
    have hch:=h.child i hi
    have:=hc i hi
    exact⟨(ih (⟨m,tag⟩,rA a b used i,lA a b used i,(ee a b used i).2.2) (by show nT (rA a b used i)<nT a;omega) ⟨rfl,_,hch.2.1⟩).trans (va3 some this.1),(ih (⟨m,tag⟩,lA a b used i,rA a b used i,(ee a b used i).2.2) (by show nT (lA a b used i)<nT a;omega) ⟨rfl,_,hch.1⟩).trans (va3 some this.2)⟩)]
   rfl
 ·rw[vae (by simpa using h6),vae h6,KB]
  simp only[vaa]
  cases hb:xL a with
  |false=>rfl
  |true=>
   rw[vae (by simp),vad rfl,qbQ m tag a b used (h.b hm)]
   rfl
theorem qej{m:aG}{D:Nat}(hm:qcp m D)(tag:Int){a b:ae}{used:List af}{L:Nat}(h:Au a b used L):JI m a b tag used=some (FU m tag a b used,0):=by
 refine eP (F:=Gb) (fun x=>nT x.2.1) (fun x=>x.1=m/\x.2.2.2.1=tag/\∃L,Au x.2.1 x.2.2.1 x.2.2.2.2 L) (fun x=>(FU m tag x.2.1 x.2.2.1 x.2.2.2.2,0)) (fun R x hx ih=>?_) (m,a,b,tag,used) ⟨rfl,rfl,L,h⟩ (eg (by have:=XI a;have:=h.la;show nT a<=bm;unfold bm;omega))
 obtain⟨m',a,b,tag',used⟩:=x
 obtain⟨hw,hg,L,h⟩:=hx
 have hw:m'=m:=hw
 have hg:tag'=tag:=hg
 subst hw;subst hg
 have h:Au a b used L:=h
 show wB (fun m a a2 tag used=>R (m,a,a2,tag,used)) m' a b tag' used=some (yx m' tag' (nT a) a b used,0)
 obtain⟨k,hk⟩:∃k,nT a=k+1:=⟨nT a - 1,by have:1<=nT a:=po _;omega⟩
 have hs:yx m' tag' (nT a) a b used=if a.Op=6 then(if a.Args.length=0 then AJ []else tU (yx m' tag' k) a b used (a.Args.length - 1) (a.Args.length - 1))else if xL a=true then J1 m' tag' a b used else AJ []:=by rw[hk];rfl
 rw[hs]
 unfold wB
 rw[Ue a b (by have:=h.la;unfold bm;omega),(KY a b).2 h.pl]
 simp only[vaa]
 rw[vae (by simp),Rk]
 simp only[vaa]
 cases hb:xL a with
 |true=>
  rw[vad rfl,vae (qe7 hb),vad rfl,qb5 m' tag' a b used (h.b hm) hb]
  rfl
 | false =>
  rw[vae (by simp)]
  unfold Ih
  by_cases h6:a.Op=6
  ·rw[vad (by simpa using h6),vad h6]
   simp only[vaa]
   by_cases h0:a.Args.length=0
   ·rw[vae (by simp[h0]),vad h0];rfl
   ·rw[vad (by simp;omega),vae h0]
    have hc:∀i,i<a.Args.length->yx m' tag' (nT (rA a b used i)) (rA a b used i) (lA a b used i) (ee a b used i).2.2=yx m' tag' k (rA a b used i) (lA a b used i) (ee a b used i).2.2/\yx m' tag' (nT (lA a b used i)) (lA a b used i) (rA a b used i) (ee a b used i).2.2=yx m' tag' k (lA a b used i) (rA a b used i) (ee a b used i).2.2:=fun i hi=>by
     have hc:=h.child i hi
     exact⟨wI tag' _ _ _ _ _ _ hc.2.1 (vah _) (by omega),wI tag' _ _ _ _ _ _ hc.1 (vah _) (by omega)⟩
    rw[V8 (fun m a a2 tag used=>R (m,a,a2,tag,used)) m' tag' (K:=2 * D+20) (rec:=yx m' tag' k) h (a.Args.length - 1) (by omega) (fun i hi=>by
     have hc:=h.child i hi
     exact⟨tz hm tag' k _ _ _ _ hc.2.1 (by omega),tz hm tag' k _ _ _ _ hc.1 (by omega)⟩) (by omega) (h.nB hm.D) (fun i hi=>by
     have hch:=h.child i hi
     have:=hc i hi
     exact⟨(ih (m',rA a b used i,lA a b used i,tag',(ee a b used i).2.2) (by show nT (rA a b used i)<nT a;omega) ⟨rfl,rfl,_,hch.2.1⟩).trans (va3 (fun z=>some (z,(0:Int))) this.1),(ih (m',lA a b used i,rA a b used i,tag',(ee a b used i).2.2) (by show nT (lA a b used i)<nT a;omega) ⟨rfl,rfl,_,hch.1⟩).trans (va3 (fun z=>some (z,(0:Int))) this.2)⟩)]
    rfl
  ·rw[vae (by simpa using h6),vae h6]
   rfl
theorem qep{m:aG}{D:Nat}(hm:qcp m D)(tag:Int){a b:ae}{used:List af}{L:Nat}(h:Au a b used L):2 * nC (FU m tag a b used)<=2 * bm/\nC (FU m tag a b used)<=(2 * D+20) * (ch a+ch b)+4 * (wT a+wT b):=by
 have h1:=tz hm tag (nT a) a b used L h (vah _)
 have h2:=h.nB hm.D
 unfold Kf at h1
 unfold FU
 have h4:nB (2 * D+20) a b=(2 * D+20) * (ch a+ch b)+4 * (wT a+wT b):=rfl
 omega
theorem mM{α:Type}{l:List α}{i:Nat}{n most:Int}(h:i<l.length)(hm:n<=most):(if(decide ((i:Int)<(l.length:Int)))=true then some (decide (n<=most))else some false)=some true:=by
 rw[vad (by simp;omega),vbk hm]
theorem iZ{α:Type}{l:List α}{i:Nat}{n most:Int}(h:i=l.length\/¬n<=most):(if(decide ((i:Int)<(l.length:Int)))=true then some (decide (n<=most))else some false)=some false:=by
 by_cases hi:i<l.length
 ·rw[vad (by simp;omega)]
  rcases h with h|h
  ·omega
  ·rw[decide_eq_false h]
 ·rw[vae (by simp;omega)]
theorem Wh{α:Type}(l:List α)(hl:l.length<9223372036854775808){body:Int×Int->Option ((Int×Int)⊕Int)}(most:Int)(I:Nat->Int->Prop)
  (hin:∀(i:Nat) (h:i<l.length) n,I i n->n<=most->fC (body (n,(i:Int))) (fun r=>∃n',r=.inl (n',aS ((i:Int)+1))/\I (i+1) n'))
  (hout:∀(i:Nat) n,i<=l.length->(i=l.length\/¬n<=most)->body (n,(i:Int))=some (.inr n)) (n:Int) (h0:I 0 n):fC (loop body (n,0)) (fun r=>∃i,i<=l.length/\I i r/\(i=l.length\/¬r<=most)):=by
 have key:∀k i n,k+i=l.length->I i n->fC (loop body (n,(i:Int))) (fun r=>∃i,i<=l.length/\I i r/\(i=l.length\/¬r<=most)):=by
  intro k
  induction k with
  |zero=>
   intro i n hi hI
   rw[kq,hout i n (by omega) (.inl (by omega))]
   exact aq ⟨i,by omega,hI,.inl (by omega)⟩
  | succ k ih =>
   intro i n hi hI
   by_cases hm:n<=most
   ·obtain⟨r,e,n',rfl,hI'⟩:=hin i (by omega) n hI hm
    rw[kq,e]
    simp only
    rw[dE (by omega) (by omega),show((i:Int)+1)=((i+1:Nat):Int) by omega]
    exact ih (i+1) n' (by omega) hI'
   ·rw[kq,hout i n (by omega) (.inr hm)]
    exact aq ⟨i,by omega,hI,.inr hm⟩
 exact key l.length 0 n (by omega) h0
theorem qeb(a b:Nat)(hb:0<b)(ha:a<9223372036854775808):qu .i64 (a:Int) (b:Int)=some ((a / b:Nat):Int):=by
 unfold qu
 rw[vae (by omega)]
 have h:((a:Int).tdiv (b:Int))=((a / b:Nat):Int):=by
  rw[vca (by omega)];rfl
 rw[h]
 have h2:=vcD a b
 generalize a / b=q at *
 congr 1
 exact dE (by omega) (by omega)
theorem Fy(p:aa):gi (ac p)=1+(p.Name.length+1+(1+(ce (p.Kids.map ac)+1+0))):=by
 rw[aK];simp only[gi,pm,sl]
theorem TR{α:Type}(c:α->List PVal)(l:List α)(i:Nat)(h:i<l.length):ce ((l.take (i+1)).map c)=ce ((l.take i).map c)+gi (c l[i]):=by
 rw[vaM h,vbH]
 have:∀(a b:List (List PVal)),ce (a++b)=ce a+ce b:=by
  intro a
  induction a with
  |nil=>intro b;simp[ce]
  |cons x a ih=>intro b;rw[vaG,ce,ih,ce];omega
 rw[this]
 simp[ce]
theorem ww{α:Type}(c:α->List PVal)(l:List α)(i:Nat):ce ((l.take i).map c)<=ce (l.map c):=by
 have:∀(l:List α) (i:Nat),ce ((l.take i).map c)<=ce (l.map c):=by
  intro l
  induction l with
  |nil=>intro i;simp
  |cons x l ih=>
   intro i
   cases i with
   |zero=>simp[ce]
   |succ i=>have:=ih i;simp only[List.take_succ_cons,vay,ce];omega
 exact this l i
theorem tn{α:Type}(c:α->List PVal)(h:∀x,1<=gi (c x)):∀(l:List α),l.length<=ce (l.map c)
 |[]=>by simp
 |x::l=>by have:=tn c h l;have:=h x;simp only[vay,ce,vaP];omega
theorem XX(p:aa):1<=gi (ac p):=by rw[Fy];omega
theorem XH(l:List aa):nL (l.take l.length)=nL l:=by rw[vbm]
abbrev Bp:Nat:=4000000
structure qiE(l:List aa)(most r:Int):Prop where
 lo:0<=r
 hi:r<=(ce (l.map ac):Int)
 sm:r<=most->(nL l:Int)<=r
theorem qfy(l:List aa)(most:Int)(hl:ce (l.map ac)<=Bp)(h1: -8000000<=most)(h2:most<=1000000000):fC (Lp l most) (qiE l most):=by
 refine pE (F:=Ev) (fun x=>ce (x.1.map ac)) (fun x=>ce (x.1.map ac)<=Bp/\-8000000<=x.2/\x.2<=1000000000) (fun x r=>qiE x.1 x.2 r) (fun R x hx ih=>?_) (l,most) ⟨hl,h1,h2⟩ (eg (vaI hl (by decide)))
 obtain⟨l,most⟩:=x
 obtain⟨hl,h1,h2⟩:=hx
 have hl:ce (l.map ac)<=Bp:=hl
 have h1: -8000000<=most:=h1
 have h2:most<=1000000000:=h2
 have hlen:=tn ac XX l
 show fC (yR (fun a most=>R (a,most)) l most) _
 unfold yR BQ
 unfold Bp at hl
 refine ax (Wh l (by omega) most (fun i n=>0<=n/\n<=(ce ((l.take i).map ac):Int)/\(n<=most->(nL (l.take i):Int)<=n)) (fun i hi n hI hm=>?_) (fun i n _ h=>?_) 0 ⟨by omega,by omega,fun _=>by simp[nL]⟩) (fun r hr=>aq ?_)
 ·obtain⟨g1,g2,g3⟩:=hI
  have e:=TR ac l i hi
  have e2:=ww ac l (i+1)
  have ep:=Fy l[i]
  have en:=ze l i hi
  have enp:=QV l[i]
  show fC (jN (fun a most=>R (a,most)) l most n i) _
  unfold jN vY
  rw[mM hi hm,bp l i hi]
  simp only[vaa,if_true]
  have hq:=vcD l[i].Name.length 50
  rw[show(50:Int)=((50:Nat):Int)from rfl,qeb _ 50 (by omega) (by omega)]
  simp only[vaa]
  rw[dE (n:=n+1) (by omega) (by omega),dE (n:=n+1+_) (by omega) (by omega),dE (n:=most - _) (by omega) (by omega)]
  refine ax (ih (l[i].Kids,most - (n+1+((l[i].Name.length / 50:Nat):Int))) (by show _<ce (l.map ac);show ce (l[i].Kids.map ac)<_;omega) ⟨by show ce (l[i].Kids.map ac)<=Bp;unfold Bp;omega,by show -8000000<=most - _;omega,by show most - _<=1000000000;omega⟩) (fun r hr=>?_)
  have q1:=hr.lo
  have q2:r<=(ce (l[i].Kids.map ac):Int):=hr.hi
  have q3:r<=most - (n+1+((l[i].Name.length / 50:Nat):Int))->(nL l[i].Kids:Int)<=r:=hr.sm
  rw[dE (n:=n+1+_+r) (by omega) (by omega)]
  refine aq ⟨_,rfl,by omega,by omega,fun hm'=>?_⟩
  have:=q3 (by omega)
  have:=g3 hm
  omega
 ·show jN (fun a most=>R (a,most)) l most n i=_
  unfold jN vY
  rw[iZ h]
  rfl
 ·obtain⟨i,hi,⟨g1,g2,g3⟩,h⟩:=hr
  have e2:=ww ac l i
  refine⟨g1,by show r<=(ce (l.map ac):Int);omega,fun hm=>?_⟩
  have hm:r<=most:=hm
  have:i=l.length:=by
   rcases h with h|h
   ·exact h
   ·exact absurd hm h
  subst this
  rw[XH]at g3
  exact g3 hm
theorem Zf(l:List ae)(i:Nat)(h:i<l.length):dw (l.take (i+1))=dw (l.take i)+ch l[i]:=by
 have ap:∀(a b:List ae),dw (a++b)=dw a+dw b:=by
  intro a
  induction a with
  |nil=>intro b;simp[dw]
  |cons x a ih=>intro b;rw[vaG,dw,ih,dw];omega
 rw[vaM h,ap]
 simp[dw]
theorem X1(t:ae):1<=gi (ag t):=by rw[Ba];omega
theorem TV(t:ae):gi (ag t)=1+(t.Name.length+1)+(ce (t.Args.map ag)+1)+(ce (t.Names.map cS)+1)+gi (ac t.Pred)+(ce (t.Preds.map ac)+1):=by
 rw[Ba,Fy];simp only[pm,sl];omega
structure qiF(l:List ae)(most r:Int):Prop where
 lo:0<=r
 hi:r<=(ce (l.map ag):Int)
 sm:r<=most->(dw l:Int)<=r/\(uQ l:Int)<=r
theorem qfM(l:List ae)(most:Int)(hl:ce (l.map ag)<=Bp)(h1: -8000000<=most)(h2:most<=1000000000):fC (F5 l most) (qiF l most):=by
 refine pE (F:=Ew) (fun x=>ce (x.1.map ag)) (fun x=>ce (x.1.map ag)<=Bp/\-8000000<=x.2/\x.2<=1000000000) (fun x r=>qiF x.1 x.2 r) (fun R x hx ih=>?_) (l,most) ⟨hl,h1,h2⟩ (eg (vaI hl (by decide)))
 obtain⟨l,most⟩:=x
 obtain⟨hl,h1,h2⟩:=hx
 have hl:ce (l.map ag)<=Bp:=hl
 have h1: -8000000<=most:=h1
 have h2:most<=1000000000:=h2
 have hlen:=tn ag X1 l
 show fC (yS (fun a most=>R (a,most)) l most) _
 unfold yS BS
 unfold Bp at hl
 refine ax (Wh l (by omega) most (fun i n=>0<=n/\n<=(ce ((l.take i).map ag):Int)/\(n<=most->(dw (l.take i):Int)<=n/\(uQ (l.take i):Int)<=n)) (fun i hi n hI hm=>?_) (fun i n _ h=>?_) 0 ⟨by omega,by omega,fun _=>by simp[dw,uQ]⟩) (fun r hr=>aq ?_)
 ·obtain⟨g1,g2,g3⟩:=hI
  have e:=TR ag l i hi
  have e2:=ww ag l (i+1)
  have ep:=TV l[i]
  have epp:=Fy l[i].Pred
  have en:=Zf l i hi
  have en2:=FX l i hi
  have enp:=tV l[i]
  have enp2:=pF l[i]
  have hns:=qag l[i].Names
  have hps:=qgh l[i].Preds
  have hpl:=CM l[i].Preds
  show fC (jO (fun a most=>R (a,most)) l most n i) _
  unfold jO vZ
  rw[mM hi hm,bp l i hi]
  simp only[vaa,if_true]
  have hq:=vcD l[i].Name.length 50
  rw[show(50:Int)=((50:Nat):Int)from rfl,qeb _ 50 (by omega) (by omega)]
  simp only[vaa]
  rw[cQ (by simp;omega)]
  simp only[vaa]
  refine ax (qfy ([l[i].Pred]++l[i].Preds) most (by unfold Bp;simp only[List.singleton_append,vay,ce];omega) h1 h2) (fun rp hp=>?_)
  have p1:=hp.lo
  have p2:rp<=((gi (ac l[i].Pred)+ce (l[i].Preds.map ac):Nat):Int):=by
   have:=hp.hi
   simp only[List.singleton_append,vay,ce]at this
   exact this
  have p3:rp<=most->((nP l[i].Pred+nL l[i].Preds:Nat):Int)<=rp:=by
   have:=hp.sm
   simp only[List.singleton_append,nL]at this
   exact this
  rw[dE (n:=n+1) (by omega) (by omega),dE (n:=n+1+_) (by omega) (by omega),dE (n:=n+1+_+_) (by omega) (by omega),dE (n:=n+1+_+_+_) (by omega) (by omega),dE (n:=most - _) (by omega) (by omega)]
  refine ax (ih (l[i].Args,most - (n+1+((l[i].Name.length / 50:Nat):Int)+(l[i].Names.length:Int)+rp)) (by show _<ce (l.map ag);show ce (l[i].Args.map ag)<_;omega) ⟨by show ce (l[i].Args.map ag)<=Bp;unfold Bp;omega,by show -8000000<=most - _;omega,by show most - _<=1000000000;omega⟩) (fun r hr=>?_)
  have q1:=hr.lo
  have q2:r<=(ce (l[i].Args.map ag):Int):=hr.hi
  have q3:r<=most - (n+1+((l[i].Name.length / 50:Nat):Int)+(l[i].Names.length:Int)+rp)->(dw l[i].Args:Int)<=r/\(uQ l[i].Args:Int)<=r:=hr.sm
  rw[dE (n:=_+r) (by omega) (by omega)]
  refine aq ⟨_,rfl,by omega,by omega,fun hm'=>?_⟩
  have:=q3 (by omega)
  have:=p3 (by omega)
  have:=g3 hm
  have:=VP l[i].Pred
  omega
 ·show jO (fun a most=>R (a,most)) l most n i=_
  unfold jO vZ
  rw[iZ h]
  rfl
 ·obtain⟨i,hi,⟨g1,g2,g3⟩,h⟩:=hr
  have e2:=ww ag l i
  refine⟨g1,by show r<=(ce (l.map ag):Int);omega,fun hm=>?_⟩
  have hm:r<=most:=hm
  have:i=l.length:=by
   rcases h with h|h
   ·exact h
   ·exact absurd hm h
  subst this
  rw[vbm]at g3
  exact g3 hm
theorem qg2(l:List ae)(most:Int)(hl:ce (l.map ag)<=Bp)(h1:0<=most)(h2:most<=1000000000):fC (Jn ⟨0,[],0,[],[],[],l⟩ most) (fun r=>0<=r/\(r<=most->(dw l:Int)<=r/\(uQ l:Int)<=r)):=by
 unfold Jn
 refine pE (F:=H1) (fun _=>0) (fun x=>x=(⟨0,[],0,[],[],[],l⟩,most)) (fun _ r=>0<=r/\(r<=most->(dw l:Int)<=r/\(uQ l:Int)<=r)) (fun R x hx ih=>?_) _ rfl (eg (by decide))
 rw[hx]
 show fC (BP (fun a most=>R (a,most)) ⟨0,[],0,[],[],[],l⟩ most) _
 unfold BP
 refine cW (a:=0) (show qu .i64 0 50=some 0 by decide) ?_
 refine ax (qfM l most hl (by omega) h2) (fun r hr=>?_)
 have q1:=hr.lo
 have q2:=hr.hi
 have q3:=hr.sm
 unfold Bp at hl
 rw[dE (n:=1+0) (by omega) (by omega),dE (n:=1+0+r) (by omega) (by omega)]
 refine cW (a:=1+0+r) ?_ (cW (a:=1+0+r) ?_ (cW (a:=1+0+r) ?_ (aq ⟨by omega,fun h=>⟨by have:=(q3 (by omega)).1;omega,by have:=(q3 (by omega)).2;omega⟩⟩)))
 ·exact jZ rfl
 ·exact jZ rfl
 ·exact jZ rfl
theorem iy{α:Type}(l:List α)(hl:l.length<9223372036854775808){body:Int×Int->Option ((Int×Int)⊕Int)}(most:Int)
  (hin:∀(i:Nat) (h:i<l.length) n,n<=most->fC (body (n,(i:Int))) (fun r=>∃n',r=.inl (n',aS ((i:Int)+1))))
  (hout:∀(i:Nat) n,i<=l.length->(i=l.length\/¬n<=most)->body (n,(i:Int))=some (.inr n)) (n:Int):fC (loop body (n,0)) (fun _=>True):=
 (Wh l hl most (fun _ _=>True) (fun i h n _ hm=>(hin i h n hm).mono fun r ⟨n',e⟩=>⟨n',e,trivial⟩) hout n trivial).mono fun _ _=>trivial
theorem Mp(k:IntKind)(a b:Int)(hb:b≠0):fC (qu k a b) (fun _=>True):=by
 unfold qu;rw[vae hb];exact aq trivial
theorem CS(l:List aa)(most:Int)(hl:ce (l.map ac)<=Bp):fC (eV l most) (fun _=>True):=by
 refine pE (F:=sS) (fun x=>ce (x.1.map ac)) (fun x=>ce (x.1.map ac)<=Bp) (fun _ _=>True) (fun R x hx ih=>?_) (l,most) hl (eg (vaI hl (by decide)))
 obtain⟨l,most⟩:=x
 have hl:ce (l.map ac)<=Bp:=hx
 have hlen:=tn ac XX l
 show fC (nv (fun a most=>R (a,most)) l most) _
 unfold nv qY
 unfold Bp at hl
 refine ax (iy l (by omega) most (fun i hi n hm=>?_) (fun i n _ h=>?_) 0) (fun r _=>aq trivial)
 ·have e:=yf (vaq.2 ⟨_,vak hi,rfl⟩:ac l[i]∈l.map ac)
  have ep:=Fy l[i]
  show fC (fj (fun a most=>R (a,most)) l most n i) _
  unfold fj lV
  rw[mM hi hm,bp l i hi]
  simp only[vaa,if_true]
  exact ax (Mp _ _ _ (by decide)) fun q _=>ax (ih (l[i].Kids,_) (by show ce (l[i].Kids.map ac)<ce (l.map ac);omega) (by show ce (l[i].Kids.map ac)<=Bp;unfold Bp;omega)) fun r _=>aq ⟨_,rfl⟩
 ·show fj (fun a most=>R (a,most)) l most n i=_
  unfold fj lV
  rw[iZ h]
  rfl
theorem V3(p:aa):ce ([p].map ac)=gi (ac p):=by simp[ce]
theorem GJ(l:List ae)(most:Int)(hl:ce (l.map ag)<=Bp):fC (fX l most) (fun _=>True):=by
 refine pE (F:=sT) (fun x=>ce (x.1.map ag)) (fun x=>ce (x.1.map ag)<=Bp) (fun _ _=>True) (fun R x hx ih=>?_) (l,most) hl (eg (vaI hl (by decide)))
 obtain⟨l,most⟩:=x
 have hl:ce (l.map ag)<=Bp:=hx
 have hlen:=tn ag X1 l
 show fC (nw (fun a most=>R (a,most)) l most) _
 unfold nw qZ
 unfold Bp at hl
 refine ax (iy l (by omega) most (fun i hi n hm=>?_) (fun i n _ h=>?_) 0) (fun r _=>aq trivial)
 ·have e:=yf (vaq.2 ⟨_,vak hi,rfl⟩:ag l[i]∈l.map ag)
  have ep:=TV l[i]
  show fC (fk (fun a most=>R (a,most)) l most n i) _
  unfold fk lW
  rw[mM hi hm,bp l i hi]
  simp only[vaa,if_true]
  exact ax (Mp _ _ _ (by decide)) fun q _=>ax (CS _ _ (by unfold Bp;omega)) fun _ _=>ax (CS _ _ (by rw[V3];unfold Bp;omega)) fun _ _=>ax (ih (l[i].Args,_) (by show ce (l[i].Args.map ag)<ce (l.map ag);omega) (by show ce (l[i].Args.map ag)<=Bp;unfold Bp;omega)) fun r _=>aq ⟨_,rfl⟩
 ·show fk (fun a most=>R (a,most)) l most n i=_
  unfold fk lW
  rw[iZ h]
  rfl
theorem KE(t:ae):ce ([t].map ag)=gi (ag t):=by simp[ce]
theorem XZ(e:cb):gi (ba e)=1+(e.Name.length+1)+1+(ce (e.Kids.map ba)+1)+(ce (e.Params.map d8)+1)+(ce (e.Alts.map ft)+1)+(ce (e.Types.map ag)+1):=by
 rw[ej];simp only[gi,pm,sl];omega
theorem qau(a:uN):gi (ft a)=(a.Con.length+1)+(ce (a.Names.map cS)+1)+gi (ba a.Body):=by
 rw[tR,ej];simp only[gi,pm,sl];omega
theorem TU(a:ql):gi (d8 a)=(a.Name.length+1)+gi (ag a.Type_):=by
 unfold d8;rw[eH];simp only[gi,pm]
theorem L9(α:Type){c:α->List PVal}(h:∀x,1<=gi (c x)){l:List α}(hl:ce (l.map c)<=Bp):l.length<9223372036854775808:=by
 have:=tn c h l
 unfold Bp at hl;omega
theorem Mc{α:Type}{c:α->List PVal}{l:List α}{i:Nat}(h:i<l.length):gi (c l[i])<=ce (l.map c):=yf (vaq.2 ⟨_,vak h,rfl⟩)
theorem qfu(e:cb)(most:Int)(he:gi (ba e)<=Bp):fC (Ls e most) (fun _=>True):=by
 refine pE (F:=Ex) (fun x=>gi (ba x.1)) (fun x=>gi (ba x.1)<=Bp) (fun _ _=>True) (fun R x hx ih=>?_) (e,most) he (eg (vaI he (by decide)))
 obtain⟨e,most⟩:=x
 have he:gi (ba e)<=Bp:=hx
 have hp:=XZ e
 show fC (yU (fun a most=>R (a,most)) e most) _
 unfold yU BT BU BV
 refine ax (Mp _ _ _ (by decide)) fun q _=>ax (GJ _ _ (by omega)) fun _ _=>ax (iy e.Params (L9 _ (fun x=>by rw[TU];omega) (c:=d8) (by omega)) most (fun i hi n hm=>?_) (fun i n _ h=>?_) _) fun _ _=>ax (iy e.Kids (L9 _ (fun x=>by rw[XZ];omega) (c:=ba) (by omega)) most (fun i hi n hm=>?_) (fun i n _ h=>?_) _) fun _ _=>ax (iy e.Alts (L9 _ (fun x=>by rw[qau];omega) (c:=ft) (by omega)) most (fun i hi n hm=>?_) (fun i n _ h=>?_) _) fun _ _=>aq trivial
 ·have:=Mc (c:=d8) hi
  have:=TU e.Params[i]
  show fC (jP most e n i) _
  unfold jP v6
  rw[mM hi hm,bp _ i hi]
  simp only[vaa,if_true]
  exact ax (Mp _ _ _ (by decide)) fun q _=>ax (GJ _ _ (by rw[KE];omega)) fun r _=>aq ⟨_,rfl⟩
 ·show jP most e n i=_
  unfold jP v6
  rw[iZ h]
  rfl
 ·have:=Mc (c:=ba) hi
  show fC (jQ (fun a most=>R (a,most)) most e n i) _
  unfold jQ v7
  rw[mM hi hm,bp _ i hi]
  simp only[vaa,if_true]
  exact ax (ih (e.Kids[i],_) (by show gi (ba e.Kids[i])<gi (ba e);omega) (by show gi (ba e.Kids[i])<=Bp;omega)) fun r _=>aq ⟨_,rfl⟩
 ·show jQ (fun a most=>R (a,most)) most e n i=_
  unfold jQ v7
  rw[iZ h]
  rfl
 ·have:=Mc (c:=ft) hi
  have:=qau e.Alts[i]
  show fC (jR (fun a most=>R (a,most)) most e n i) _
  unfold jR v8
  rw[mM hi hm,bp _ i hi]
  simp only[vaa,if_true]
  exact ax (ih (e.Alts[i].Body,_) (by show gi (ba e.Alts[i].Body)<gi (ba e);omega) (by show gi (ba e.Alts[i].Body)<=Bp;omega)) fun r _=>aq ⟨_,rfl⟩
 ·show jR (fun a most=>R (a,most)) most e n i=_
  unfold jR v8
  rw[iZ h]
  rfl
theorem TS(b:nk):gi (df b)=(b.Name.length+1)+(ce (b.Vars.map bH)+1)+gi (ac b.Hyp)+gi (ac b.Goal):=by
 unfold df;simp only[eH,gi,pm,sl];omega
theorem qfx(b:qcg):(ce (b.Bounds.map df)+1)+gi (ag b.Type_)+(ce (b.Metric.map ac)+1)<=gi (Ct b):=by
 unfold Ct;simp only[eH,gi,pm,sl];omega
theorem qaw(b:sD):(b.Name.length+1)+gi (ba b.Body)+gi (Ct b.Sig)<=gi (dJ b):=by
 unfold dJ;simp only[eH,gi,pm,sl];omega
theorem qc0(l:List sD)(most:Int)(hl:ce (l.map dJ)<=Bp):fC (oU l most) (fun _=>True):=by
 unfold oU sQ
 refine ax (iy l (L9 _ (fun x=>by have:=qaw x;omega) hl) most (fun i hi n hm=>?_) (fun i n _ h=>?_) _) fun _ _=>aq trivial
 ·have h1:=Mc (c:=dJ) hi
  have h2:=qaw l[i]
  have h3:=qfx l[i].Sig
  show fC (fH l most n i) _
  unfold fH nr sR
  rw[mM hi hm,bp _ i hi]
  simp only[vaa,if_true]
  refine ax (Mp _ _ _ (by decide)) fun q _=>ax (GJ _ _ (by rw[KE];omega)) fun r _=>ax (CS _ _ (by omega)) fun _ _=>ax (iy l[i].Sig.Bounds (L9 _ (fun x=>by rw[TS];omega) (c:=df) (by omega)) most (fun k hk n hm=>?_) (fun k n _ h=>?_) _) fun _ _=>ax (qfu _ _ (by omega)) fun _ _=>aq ⟨_,rfl⟩
  ·have h4:=Mc (c:=df) hk
   have h5:=TS l[i].Sig.Bounds[k]
   show fC (fI most l[i].Sig.Bounds n k) _
   unfold fI nu
   rw[mM hk hm,bp _ k hk]
   simp only[vaa,if_true]
   exact ax (CS _ _ (by simp only[vay,vbY,ce];omega)) fun _ _=>aq ⟨_,rfl⟩
  ·show fI most l[i].Sig.Bounds n k=_
   unfold fI nu
   rw[iZ h]
   rfl
 ·show fH l most n i=_
  unfold fH nr
  rw[iZ h]
  rfl
theorem Ra(m:aG):gi (aB m)=(ce (m.Datas.map cN)+1)+(ce (m.Classes.map fE)+1)+(ce (m.Instances.map cm)+1)+(ce (m.Measures.map dg)+1)+(ce (m.Quals.map fy)+1)+(ce (m.Defs.map dJ)+1):=by
 unfold aB;simp only[gi,pm,sl];omega
theorem KF(b:ed):gi (cN b)=(b.Name.length+1)+(ce (b.Vars.map cS)+1)+(ce (b.Preds.map bH)+1)+(ce (b.Cons.map ef)+1):=by
 unfold cN;simp only[eH,gi,pm,sl];omega
theorem qav(b:eh):gi (ef b)=(b.Name.length+1)+(ce (b.Names.map cS)+1)+(ce (b.Fields.map ag)+1):=by
 unfold ef;simp only[eH,gi,pm,sl];omega
theorem TT(b:su):gi (fE b)=(b.Name.length+1)+(b.Var.length+1)+(ce (b.Methods.map ey)+1):=by
 unfold fE;simp only[eH,gi,pm,sl];omega
theorem Q9(b:ud):gi (ey b)=(b.Name.length+1)+gi (ag b.Type_):=by
 unfold ey;simp only[eH,gi,pm,sl]
theorem KG(b:eB):1+gi (ag b.Type_)+(ce (b.Defs.map dJ)+1)<=gi (cm b):=by
 unfold cm;simp only[eH,gi,pm,sl];omega
theorem MY(b:gT):1+(ce (b.Cases.map fR)+1)+gi (ac b.Inv)<=gi (dg b):=by
 unfold dg;simp only[eH,gi,pm,sl];omega
theorem XY(b:Do):1+gi (ac b.Body)<=gi (fR b):=by
 unfold fR;simp only[eH,gi,pm,sl];omega
theorem X0(b:vV):1+gi (ac b.Body)<=gi (fy b):=by
 unfold fy;simp only[eH,gi,pm,sl];omega
theorem qfI(m:aG)(hm:gi (aB m)<=Bp):fC (AA m) (fun _=>True):=by
 have hp:=Ra m
 unfold AA
 refine ax (R:=fun _=>True) ?_ fun o _=>aU (fun _=>aq trivial) fun _=>?_
 ·unfold BW
  exact aU (fun _=>aq trivial) fun _=>aU (fun _=>aq trivial) fun _=>aU (fun _=>aq trivial) fun _=>aU (fun _=>aq trivial) fun _=>aU (fun _=>aq trivial) fun _=>aq trivial
 unfold BX BZ zO zP zR
 refine ax (qc0 _ _ (by omega)) fun _ _=>ax (iy m.Datas (L9 _ (fun x=>by rw[KF];omega) (c:=cN) (by omega)) 4000 (fun i hi n hn=>?_) (fun i n hi h=>?_) _) fun _ _=>ax (iy m.Classes (L9 _ (fun x=>by rw[TT];omega) (c:=fE) (by omega)) 4000 (fun i hi n hn=>?_) (fun i n hi h=>?_) _) fun _ _=>ax (iy m.Instances (L9 _ (fun x=>by have:=KG x;omega) (c:=cm) (by omega)) 4000 (fun i hi n hn=>?_) (fun i n hi h=>?_) _) fun _ _=>ax (iy m.Measures (L9 _ (fun x=>by have:=MY x;omega) (c:=dg) (by omega)) 4000 (fun i hi n hn=>?_) (fun i n hi h=>?_) _) fun _ _=>ax (iy m.Quals (L9 _ (fun x=>by have:=X0 x;omega) (c:=fy) (by omega)) 4000 (fun i hi n hn=>?_) (fun i n hi h=>?_) _) fun _ _=>aq trivial
 ·have h1:=Mc (c:=cN) hi
  have h2:=KF m.Datas[i]
  show fC (jS m n i) _
  unfold jS wc BY
  rw[mM hi hn,bp _ i hi]
  simp only[vaa,if_true]
  refine ax (Mp _ _ _ (by decide)) fun q _=>ax (iy m.Datas[i].Cons (L9 _ (fun x=>by rw[qav];omega) (c:=ef) (by omega)) 4000 (fun k hk n hn=>?_) (fun k n _ h=>?_) _) fun _ _=>aq ⟨_,rfl⟩
  ·have h3:=Mc (c:=ef) hk
   have h4:=qav m.Datas[i].Cons[k]
   show fC (jT m i n k) _
   unfold jT wd
   rw[bp _ i hi]
   simp only[vaa]
   rw[mM hk hn,bp _ k hk]
   simp only[vaa,if_true]
   exact ax (GJ _ _ (by omega)) fun _ _=>aq ⟨_,rfl⟩
  ·show jT m i n k=_
   unfold jT wd
   rw[bp _ i hi]
   simp only[vaa]
   rw[iZ h]
   rfl
 ·show jS m n i=_
  unfold jS wc
  rw[iZ h]
  rfl
 ·have h1:=Mc (c:=fE) hi
  have h2:=TT m.Classes[i]
  show fC (jU m n i) _
  unfold jU wg B3
  rw[mM hi hn]
  simp only[vaa,if_true]
  refine ax (iy m.Classes[i].Methods (L9 _ (fun x=>by rw[Q9];omega) (c:=ey) (by omega)) 4000 (fun k hk n hn=>?_) (fun k n _ h=>?_) _) fun _ _=>aq ⟨_,rfl⟩
  ·have h3:=Mc (c:=ey) hk
   have h4:=Q9 m.Classes[i].Methods[k]
   show fC (jV m i n k) _
   unfold jV wh
   rw[bp _ i hi]
   simp only[vaa]
   rw[mM hk hn,bp _ k hk]
   simp only[vaa,if_true]
   exact ax (GJ _ _ (by rw[KE];omega)) fun _ _=>aq ⟨_,rfl⟩
  ·show jV m i n k=_
   unfold jV wh
   rw[bp _ i hi]
   simp only[vaa]
   rw[iZ h]
   rfl
 ·show jU m n i=_
  unfold jU wg
  rw[iZ h]
  rfl
 ·have h1:=Mc (c:=cm) hi
  have h2:=KG m.Instances[i]
  show fC (iG m n i) _
  unfold iG tI
  rw[mM hi hn,bp _ i hi]
  simp only[vaa,if_true]
  exact ax (GJ _ _ (by rw[KE];omega)) fun _ _=>ax (qc0 _ _ (by omega)) fun _ _=>aq ⟨_,rfl⟩
 ·show iG m n i=_
  unfold iG tI
  rw[iZ h]
  rfl
 ·have h1:=Mc (c:=dg) hi
  have h2:=MY m.Measures[i]
  show fC (iH m n i) _
  unfold iH tJ zQ
  rw[mM hi hn,bp _ i hi]
  simp only[vaa,if_true]
  refine ax (CS _ _ (by rw[V3];omega)) fun _ _=>ax (iy m.Measures[i].Cases (L9 _ (fun x=>by have:=XY x;omega) (c:=fR) (by omega)) 4000 (fun k hk n hn=>?_) (fun k n _ h=>?_) _) fun _ _=>aq ⟨_,rfl⟩
  ·have h3:=Mc (c:=fR) hk
   have h4:=XY m.Measures[i].Cases[k]
   show fC (iI m i n k) _
   unfold iI tK
   rw[bp _ i hi]
   simp only[vaa]
   rw[mM hk hn,bp _ k hk]
   simp only[vaa,if_true]
   exact ax (CS _ _ (by rw[V3];omega)) fun _ _=>aq ⟨_,rfl⟩
  ·show iI m i n k=_
   unfold iI tK
   rw[bp _ i hi]
   simp only[vaa]
   rw[iZ h]
   rfl
 ·show iH m n i=_
  unfold iH tJ
  rw[iZ h]
  rfl
 ·have h1:=Mc (c:=fy) hi
  have h2:=X0 m.Quals[i]
  show fC (iJ m n i) _
  unfold iJ tL
  rw[mM hi hn,bp _ i hi]
  simp only[vaa,if_true]
  exact ax (CS _ _ (by rw[V3];omega)) fun _ _=>aq ⟨_,rfl⟩
 ·show iJ m n i=_
  unfold iJ tL
  rw[iZ h]
  rfl
end Go.Proofs.YtbaamopmfmpfaaaGreatDoor
