/- PROVED: a part of the proof. Conditions: none. -/
import Derived.Test.YtbaamopmfmpfaaaGreatDoorPkC17
noncomputable section
namespace Go.Proofs.YtbaamopmfmpfaaaGreatDoor
open Go
set_option linter.unusedVariables false
set_option linter.unusedSimpArgs false
theorem qa8(o:Int)(ns:List ag)(i:Nat)(s:S3):(CE o ns i s).2.2.length=s.2.2.length:=by
 unfold CE
 split
 ·split
  ·simp only[vbw]
  ·rfl
 ·rfl
mutual
theorem S9:∀(t:ae) (c:Sb),cu (Ce t c)=cu t
 |⟨o,n,xs,ns,p,ps⟩,c=>by
  obtain⟨h1,h2⟩:=S8 o ns xs 0 (((kB c).flatMap kK++freeT ⟨o,n,xs,ns,p,ps⟩)++ns,c,ns)
  rw[Ce,cu,cu,h1,h2,vaL]
theorem S8(o:Int)(ns:List ag):∀(xs:List ae) (i:Nat) (s:S3),cM (Im o ns i xs s).1=cM xs/\(Im o ns i xs s).2.length=s.2.2.length
 |[],i,s=>by rw[Im];exact⟨rfl,rfl⟩
 | a :: xs,i,s => by
  have h1:=S9 a s.2.1
  obtain⟨h2,h3⟩:=S8 o ns xs (i+1) (CE o ns i s)
  rw[Im]
  refine⟨?_,?_⟩
  ·show cM (Ce a s.2.1::(Im o ns (i+1) xs (CE o ns i s)).1)=_
   rw[cM,cM,h1,h2]
  ·show(Im o ns (i+1) xs (CE o ns i s)).2.length=_
   rw[h3,qa8]
end
def Mq(c:Sb):Prop:=∀e∈c,nP e.2=1
theorem Nr{c:Sb}(h:Mq c)(x:ag):Mq (fl x c):=fun e he=>h e (vaT.1 he).1
theorem U5{c:Sb}(h:Mq c)(x y:ag):Mq (c++[(x,nG y)]):=fun e he=>by
 rcases vaE.1 he with he|he
 ·exact h e he
 ·rw[va4.1 he];exact A0 y
theorem W8(o:Int)(ns:List ag)(i:Nat)(s:S3)(h:Mq s.2.1):Mq (CE o ns i s).2.1:=by
 unfold CE
 split
 ·split
  ·exact U5 (Nr h _) _ _
  ·exact Nr h _
 ·exact h
theorem Ns{c:Sb}(h:Mq c){n:ag}{q:aa}(hq:tU (kN c) (kB c) n=some q):nP q=1:=by
 have:=Wm hq
 obtain⟨e,he,rfl⟩:=vap.1 this
 exact h e he
mutual
theorem QW(f:ag->Option aa)(hf:∀n q,f n=some q->nP q=1):∀(p:aa),(∀q,nP q=1->True)->nP (Ht f p)<=nP p
 | ⟨o,n,k,ks⟩,hh => by
  have:=K6 f hf ks
  rw[Ht]
  cases h:(if o=3 then f n else none)with
  |none=>simp only[Option.getD_none];rw[nP,nP];omega
  | some q =>
   simp only[Option.getD_some]
   have h2:f n=some q:=by
    split at h
    ·exact h
    ·cases h
   rw[hf n q h2,nP];omega
theorem K6(f:ag->Option aa)(hf:∀n q,f n=some q->nP q=1):∀(l:List aa),nL (Tx f l)<=nL l
 |[]=>by rw[Tx];omega
 |p::l=>by
  have:=QW f hf p (fun _ _=>trivial)
  have:=K6 f hf l
  rw[Tx,nL,nL];omega
end
mutual
theorem Ze:∀(t:ae) (c:Sb),Mq c->wT (Ce t c)<=wT t
 |⟨o,n,xs,ns,p,ps⟩,c,h=>by
  have h1:=Zd o ns xs 0 (((kB c).flatMap kK++freeT ⟨o,n,xs,ns,p,ps⟩)++ns,c,ns) h
  have h2:=QW (tU (kN c) (kB c)) (fun _ _ hq=>Ns h hq) p (fun _ _=>trivial)
  have h3:=K6 (tU (kN c) (kB c)) (fun _ _ hq=>Ns h hq) ps
  rw[O9]at h3
  rw[Ce,wT,wT]
  omega
theorem Zd(o:Int)(ns:List ag):∀(xs:List ae) (i:Nat) (s:S3),Mq s.2.1->sU (Im o ns i xs s).1<=sU xs
 |[],i,s,_=>by rw[Im];exact vah _
 |a::xs,i,s,h=>by
  have h1:=Ze a s.2.1 h
  have h2:=Zd o ns xs (i+1) (CE o ns i s) (W8 o ns i s h)
  rw[Im]
  show sU (Ce a s.2.1::(Im o ns (i+1) xs (CE o ns i s)).1)<=_
  rw[sU,sU];omega
end
theorem TZ{L:Nat}(o:Int)(ns:List ag)(i:Nat)(s:S3)(h:∀x∈ns,x.length<=L)(hw:∀x∈s.2.2,x.length<=L+10):∀x∈(CE o ns i s).2.2,x.length<=L+10:=by
 unfold CE
 split
 ·rename_i hc
  split
  ·intro x hx
   rcases vce hx with hx|hx
   ·exact hw x hx
   ·have h1:=RQ s.1 (ns.getD i [])
    have h2:(ns.getD i []).length<=L:=by rw[IT _ i hc.2];exact h _ (vat hc.2)
    rw[hx];omega
  ·exact hw
 ·exact hw
mutual
theorem SH(L:Nat):∀(t:ae) (c:Sb),uq L t->uq (L+10) (Ce t c)
 |⟨o,n,xs,ns,p,ps⟩,c,h=>by
  rw[uq]at h
  obtain⟨h1,h2⟩:=PI L o ns h.1 xs 0 (((kB c).flatMap kK++freeT ⟨o,n,xs,ns,p,ps⟩)++ns,c,ns) (fun x hx=>vaI (h.1 x hx) (by omega)) h.2
  rw[Ce,uq]
  exact⟨h2,h1⟩
theorem PI(L:Nat)(o:Int)(ns:List ag)(hn:∀x∈ns,x.length<=L):∀(xs:List ae) (i:Nat) (s:S3),(∀x∈s.2.2,x.length<=L+10)->rQ L xs->rQ (L+10) (Im o ns i xs s).1/\∀x∈(Im o ns i xs s).2,x.length<=L+10
 |[],i,s,hw,_=>by rw[Im];exact⟨trivial,hw⟩
 |a::xs,i,s,hw,h=>by
  rw[rQ]at h
  have h1:=SH L a s.2.1 h.1
  obtain⟨h2,h3⟩:=PI L o ns hn xs (i+1) (CE o ns i s) (TZ o ns i s hn hw) h.2
  rw[Im]
  refine⟨?_,h3⟩
  show rQ (L+10) (Ce a s.2.1::(Im o ns (i+1) xs (CE o ns i s)).1)
  rw[rQ]
  exact⟨h1,h2⟩
end
theorem U6(x y:ag):Mq (Bt x (nG y)):=by
 unfold Bt
 split
 ·intro e he;cases he
 ·intro e he
  rw[va4.1 he];exact A0 y
mutual
theorem WO:∀(t:ae) (c:Sb),sS (Ce t c)=sS t
 |⟨o,n,xs,ns,p,ps⟩,c=>by rw[Ce,sS,sS,To]
theorem To:∀(xs:List ae) (o:Int) (ns:List ag) (i:Nat) (s:S3),Ba (Im o ns i xs s).1=Ba xs
 |[],o,ns,i,s=>by rw[Im,Ba]
 |a::xs,o,ns,i,s=>by rw[Im,Ba,Ba,WO a,To xs]
end
mutual
theorem Tw:∀(a b:ae),xl a b=true↔sS a=sS b
 |⟨o,n,xs,ns,p,ps⟩,⟨o',n',xs',ns',p',ps'⟩=>by
  have:=QT xs xs'
  rw[xl,sS,sS]
  simp only[vag,vam,this,ae.mk.injEq,vcI]
theorem QT:∀(a b:List ae),y7 a b=true↔Ba a=Ba b
 |[],[]=>by simp[y7,Ba]
 |x::xs,y::ys=>by
  rw[y7,Ba,Ba,vag,Tw x y,QT xs ys,vbu]
 |[],y::ys=>by simp[y7,Ba]
 |x::xs,[]=>by simp[y7,Ba]
end
def nT(t:ae):Nat:=cu (sS t)
theorem Te(t:ae):nT t=cM (t.Args.map sS)+1:=by
 unfold nT;rw[GD,qp];rfl
mutual
theorem Tf:∀(t:ae),nT t<=cu t
 |⟨o,n,xs,ns,p,ps⟩=>by
  have:=Wr xs
  rw[Te,cu]
  show cM (xs.map sS)+1<=_
  omega
theorem Wr:∀(l:List ae),cM (l.map sS)<=cM l
 |[]=>by simp[cM]
 |t::l=>by
  have h1:cu (sS t)<=cu t:=Tf t
  have:=Wr l
  rw[vax,cM,cM];omega
end
theorem X4{l:List ae}{x:ae}(h:x∈l):nT x+l.length<=cM (l.map sS)+1:=by
 induction l with
 |nil=>cases h
 | cons y l ih =>
  have hy:1<=nT y:=mL _
  have hl:l.length<=cM (l.map sS):=by have:=wY (l.map sS);rwa[vaL]at this
  rw[vax,cM,vaN]
  show _<=nT y+_+1
  rcases vaA.1 h with rfl|h
  ·omega
  ·have:=ih h;omega
theorem W1{α:Type}(f:α->α)(n:Nat)(hn:n<4611686018427387904)(body:Int×List α->Option ((Int×List α)⊕List α))(P:α->Prop)
  (hin:∀(k:Nat) (w:List α) (h:k<w.length),w.length=n->P w[k]->body ((k:Int),w)=some (.inl (aR ((k:Int)+1),w.set k (f w[k]))))
  (hend:∀w:List α,body ((n:Int),w)=some (.inr w)):∀(j k:Nat) (w:List α),j+k=n->w.length=n->(∀x∈w.drop k,P x)->loop body ((k:Int),w)=some (w.take k++(w.drop k).map f):=by
 intro j
 induction j with
 |zero=>
  intro k w hk hw hP
  have:k=n:=by omega
  subst this
  rw[j2 (hend w),<-hw,vbn,vbY]
  simp
 | succ j ih =>
  intro k w hk hw hP
  have hlt:k<w.length:=by omega
  have hd:=va7 hlt
  rw[pI (hin k w hlt hw (hP _ (by rw[hd];exact vcK))),dB (by omega) (by omega),show((k:Int)+1)=((k+1:Nat):Int) by omega,ih (k+1) (w.set k (f w[k])) (by omega) (by rw[vbw];exact hw) (fun x hx=>?_)]
  ·rw[hd,vax]
   have e1:(w.set k (f w[k])).take (k+1)=w.take k++[f w[k]]:=by
    rw[vaS (by rw[vbw];exact hlt)]
    rw[List.take_set,List.set_eq_of_length_le (by rw[vaM];omega)]
    simp
   have e2:(w.set k (f w[k])).drop (k+1)=w.drop (k+1):=by
    rw[vcG (by omega)]
   rw[e1,e2]
   simp
  ·rw[vcG (by omega)]at hx
   exact hP x (by rw[hd];exact vaZ _ hx)
def Fo(l:List ae)(ns:List ag)(i:Nat)(y:ag):List ae:=if i<ns.length then l.take (i+1)++(l.drop (i+1)).map (fun t=>Ce t (Bt (ns.getD i []) (nG y)))else l
theorem Ti{t:ae}(x y:ag)(h1:cu t<=10000000)(h2:wT t<=10000000)(h3:uq 1000000000000000 t):X5 t (Bt x (nG y)) where
 nd:=Sz _ _
 sz:=by have:=Z8 x (nG y);rw[A0]at this;omega
 w:=by omega
 n:=h3
structure okV(t:ae):Prop where
 l:cu t<=10000000
 w:wT t<=10000000
 n:uq 1000000000000000 t
theorem Fj(l:List ae)(t:ae)(i:Nat)(y:ag)(hl:l.length<=1073741824)(hi:i<l.length)(h:∀x∈l,okV x)(hn:t.Names.length<=1073741824):iX l t (i:Int) y=some (Fo l t.Names i y):=by
 unfold iX Fo
 rw[wQ l hl]
 simp only[vaa]
 by_cases hlt:i<t.Names.length
 ·rw[vak (by simp;omega),vak hlt]
  unfold lY
  rw[dB (by omega) (by omega),show((i:Int)+1)=((i+1:Nat):Int) by omega,W1 (fun x=>Ce x (Bt (t.Names.getD i []) (nG y))) l.length (by omega) _ okV (fun k w hk hw hP=>?_) (fun w=>?_) (l.length - (i+1)) (i+1) l (by omega) rfl (fun x hx=>h x (List.mem_of_mem_drop hx))]
  ·simp only[vaa]
   rw[RR _ _ (by simp;omega)]
   rfl
  ·show dH (i:Int) y t l.length (k:Int) w=_
   unfold dH
   rw[vak (by simp;omega),RU l.length w k (by omega) hk,bv _ i hlt]
   simp only[vaa]
   rw[IT _ i hlt,show(⟨3,y,0,[]⟩:aa)=nG y from rfl,UI _ _ _ (Ti _ _ hP.l hP.w hP.n)]
   simp only[vaa]
   rw[Xa w k _ hk]
   rfl
  ·show dH (i:Int) y t l.length (l.length:Int) w=_
   unfold dH
   rw[van (by simp)]
 ·rw[van (by simp;omega),van hlt,RR _ _ rfl]
  rfl
def Ev(t:ae):Bool:=decide (t.Op=1)||(decide (t.Op=2)||(decide (t.Op=3)||decide (t.Op=4)))
theorem Qt(t:ae):jk t=some (Ev t):=by
 unfold jk Ev
 by_cases h1:t.Op=1
 ·rw[vak (by simpa using h1)];simp[h1]
 ·rw[van (by simpa using h1)]
  by_cases h2:t.Op=2
  ·rw[vak (by simpa using h2)];simp[h2]
  ·rw[van (by simpa using h2)]
   by_cases h3:t.Op=3
   ·rw[vak (by simpa using h3)];simp[h3]
   ·rw[van (by simpa using h3)]
    by_cases h4:t.Op=4<;>simp[h1,h2,h3,h4]
def Ew(t:ae)(x:ag)(c:ak):ak:=if Ev t=true then L4 x (DW (sS t)).1 (Ri t (nG x)) c else c
theorem WA(t:ae)(x:ag)(c:ak)(h:cu t<=bz)(hp:nP t.Pred<=bz):sM t x c=some (Ew t x c):=by
 unfold sM Ew
 rw[Qt]
 simp only[vaa]
 cases hb:Ev t with
 |false=>rfl
 |true=>
  rw[van (by simp),vak rfl,Nf t h]
  simp only[vaa]
  rw[QK,show(⟨3,x,0,[]⟩:aa)=nG x from rfl]
  simp only[vaa]
  rw[Sm t _ hp (by rw[A0];decide)]
  rfl
def SQ(l:List aa)(i:Nat)(x:ag):aa:=(l[i]?).elim nS (fun p=>if p=ie then nS else Ht (KZ [118] (nG x)) p)
theorem WI(l:List aa)(i:Nat)(x:ag)(h:∀p∈l,nP p<=bz):uh l (i:Int) (nG x)=some (SQ l i x):=by
 unfold uh wu SQ
 by_cases hi:i<l.length
 ·rw[van (by simp;omega),bv l i hi,vab hi]
  simp only[vaa]
  have hp:=h _ (vat hi)
  rw[show iU l[i] (⟨0,[],0,[]⟩:aa)=some (decide (l[i]=ie))from Fr l[i] ie hp]
  simp only[vaa,Option.elim]
  by_cases hz:l[i]=ie
  ·rw[vak (by simpa using hz),vak hz,Vq [] (by simp) (by simp)]
   rfl
  ·rw[van (by simpa using hz),van hz,Nh _ _ _ hp (by rw[A0];decide)]
   rfl
 ·rw[vak (by simp;omega),vau (by omega)]
  simp only[vaa,if_true]
  rw[Vq [] (by simp) (by simp)]
  rfl
theorem Y0(l:List aa)(i:Nat)(x:ag):nP (SQ l i x)<=(l[i]?).elim 1 nP:=by
 unfold SQ
 cases l[i]? with
 |none=>exact vah 1
 | some p =>
  simp only[Option.elim]
  split
  ·exact OS p
  ·exact Ty _ (fun n q h=>Nj h) _
def Um(tag:Int)(a b:ae)(x:ag):List dh->Nat->List ak
 |[],_=>[]
 |d::ds,i=>L4 x d.Sort_ (SQ a.Preds i x) (EN (SQ b.Preds i x) tag)::Um tag a b x ds (i+1)
theorem P7(tag:Int)(a b:ae)(x:ag):∀(l:List dh) (i:Nat) (s:List ak),tR (fun i d s=>s++[L4 x d.Sort_ (SQ a.Preds i x) (EN (SQ b.Preds i x) tag)]) l i s=s++Um tag a b x l i
 |[],i,s=>by rw[tR,Um,va6]
 |d::l,i,s=>by rw[tR,P7 tag a b x l (i+1),Um,vbe];rfl
theorem VV(l:List aa)(i:Nat):(l[i]?).elim 1 nP+nL (l.drop (i+1))<=nL (l.drop i)+1:=by
 by_cases h:i<l.length
 ·rw[vab h,va7 h,nL]
  simp only[Option.elim];omega
 ·rw[vau (by omega),vbC (by omega)]
  simp only[Option.elim,nL];omega
theorem Y4(tag:Int)(a b:ae)(x:ag):∀(l:List dh) (i:Nat),wz (Um tag a b x l i)<=4 * l.length+nL (a.Preds.drop i)+nL (b.Preds.drop i)
 |[],i=>by rw[Um,wz];omega
 | d :: l,i => by
  have ih:=Y4 tag a b x l (i+1)
  have h1:=Y0 a.Preds i x
  have h2:=Y0 b.Preds i x
  have h3:=VV a.Preds i
  have h4:=VV b.Preds i
  have e:nC (L4 x d.Sort_ (SQ a.Preds i x) (EN (SQ b.Preds i x) tag))=nP (SQ a.Preds i x)+(nP (SQ b.Preds i x)+1)+1:=by
   simp[nC,wz]
  rw[Um,wz,e,vaN]
  omega
def G8(m:aQ)(tag:Int)(a b:ae)(used:List ag):ak:=
 let x:=fq used [118,49]
 let c:=L4 x (DW (sS a)).1 (Ri a (nG x)) (EN (Ri b (nG x)) tag)
 if a.Op=4 then En (fT (c::Um tag a b x (lT m a.Name).1.Preds 0))else c
theorem Vx(m:aQ)(tag:Int)(a b:ae)(x:ag)(D:Nat)(hD:(lT m a.Name).1.Preds.length<=D):wz (L4 x (DW (sS a)).1 (Ri a (nG x)) (EN (Ri b (nG x)) tag)::Um tag a b x (lT m a.Name).1.Preds 0)<=4 * D+wT a+wT b+4:=by
 have h1:=Y4 tag a b x (lT m a.Name).1.Preds 0
 have h2:=Vt a x
 have h3:=Vt b x
 have h4:=uo a
 have h5:=uo b
 have e:nC (L4 x (DW (sS a)).1 (Ri a (nG x)) (EN (Ri b (nG x)) tag))=nP (Ri a (nG x))+(nP (Ri b (nG x))+1)+1:=by
  simp[nC,wz]
 rw[wz,e]
 rw[va2,va2]at h1
 omega
theorem XH(m:aQ)(tag:Int)(a b:ae)(used:List ag)(D:Nat)(hD:(lT m a.Name).1.Preds.length<=D):nC (G8 m tag a b used)<=4 * D+wT a+wT b+6:=by
 have h:=Vx m tag a b (fq used [118,49]) D hD
 unfold G8
 simp only
 split
 ·rw[nC]
  have:=Es (L4 (fq used [118,49]) (DW (sS a)).1 (Ri a (nG (fq used [118,49]))) (EN (Ri b (nG (fq used [118,49]))) tag)::Um tag a b (fq used [118,49]) (lT m a.Name).1.Preds 0)
  have e:nP ie=1:=by simp[nP,nL,ie]
  omega
 ·rw[wz]at h
  omega
structure qdu(m:aQ)(a b:ae)(used:List ag):Prop where
 u:used.length<=100000000
 la:cu a<=10000000
 lb:cu b<=10000000
 wa:wT a<=10000000
 wb:wT b<=10000000
 ds:m.Datas.length<=10000000
 dp:∀d∈m.Datas,d.Preds.length<=10000000
theorem UL(m:aQ)(tag:Int)(a b:ae)(used:List ag)(h:qdu m a b used):iz ⟨m,tag⟩ a b used=some (G8 m tag a b used):=by
 have w1:=uo a
 have w2:=uo b
 have:=h.wa;have:=h.wb;have:=h.la;have:=h.ds
 have hD:=J4 m a.Name _ h.dp
 unfold iz G8
 rw[(wB used [118,49] h.u (by simp)).1]
 simp only[vaa]
 generalize fq used [118,49]=x
 rw[Nf a (by unfold bz;omega)]
 simp only[vaa]
 rw[QK,show(⟨3,x,0,[]⟩:aa)=nG x from rfl]
 simp only[vaa]
 rw[Sm a _ (by unfold bz;omega) (by rw[A0];decide)]
 simp only[vaa]
 rw[Sm b _ (by unfold bz;omega) (by rw[A0];decide)]
 simp only[vaa]
 unfold eB iA
 simp only[vaa]
 by_cases h4:a.Op=4
 ·rw[vak (by simpa using h4),vak h4,WF _ _ (by show m.Datas.length<_;omega)]
  simp only[vaa]
  have hn:=Vx m tag a b x 10000000 hD
  unfold jl
  rw[Sd (lT m a.Name).1.Preds (by omega) (fun i s=>(s,i)) _ (fun i s=>s.length=i+1) (fun i d s=>s++[L4 x d.Sort_ (SQ a.Preds i x) (EN (SQ b.Preds i x) tag)]) id _ rfl (fun i hi s hs=>⟨?_,by simp[hs]⟩) (fun s hs=>?_),P7]
  ·simp only[vaa,id]
   rw[List.singleton_append,SN _ (vaI hn (by unfold bz;omega))]
   rfl
  ·show dg ⟨m,tag⟩ a b x (lT m a.Name).1.Preds ((lT m a.Name).1.Preds.length:Int) [] s (i:Int)=_
   unfold dg eB iA
   rw[vak (by simp;omega),bv _ i hi,show(⟨3,x,0,[]⟩:aa)=nG x from rfl]
   simp only[vaa]
   rw[WI a.Preds i x (fun p hp=>by have:=Gu hp;unfold bz;omega)]
   simp only[vaa]
   rw[WI b.Preds i x (fun p hp=>by have:=Gu hp;unfold bz;omega)]
   simp only[vaa]
   rw[dR (by simp;omega)]
   rfl
  ·show dg ⟨m,tag⟩ a b x (lT m a.Name).1.Preds ((lT m a.Name).1.Preds.length:Int) [] s ((lT m a.Name).1.Preds.length:Int)=_
   unfold dg
   rw[van (by simp)]
   rfl
 ·rw[van (by simpa using h4),van h4]
  rfl
mutual
def zd:ae->Prop
 |⟨_,_,xs,ns,_,_⟩=>(∀s∈ns,s≠[])/\Mu xs
def Mu:List ae->Prop
 |[]=>True
 |a::xs=>zd a/\Mu xs
end
theorem AE(t:ae):zd t↔(∀s∈t.Names,s≠[])/\Mu t.Args:=by obtain⟨o,n,xs,ns,p,ps⟩:=t;rw[zd];exact Iff.rfl
theorem sO:∀(l:List ae),Mu l↔∀t∈l,zd t
 |[]=>by simp[Mu]
 |a::l=>by rw[Mu,sO l];simp
theorem Vg(s:ag):eO (pu s) (fun r=>(r !=0)=false->s≠[]):=by
 cases s with
 |nil=>exact Pd (show pu []=some 3 by kernel_rfl) (fun h=>by cases h)
 |cons c s=>exact(Ms (c::s)).mono fun _ _ _ h=>by cases h
theorem Uw(t:ae)(ht:cu t<=bz)(hp:nP t.Pred<=bz)(hq:∀q∈t.Preds,nP q<=bz):eO (Ej t) (fun r=>(r !=0)=false->∀s∈t.Names,s≠[]):=by
 unfold Ej
 have h1:=j3 t
 have h2:=GJ t
 have hb:bz=1073741824:=rfl
 refine au (R:=fun _=>True) ?_ fun _ _=>aJ (fun _=>aj (fun h=>by cases h)) fun _=>?_
 ·unfold Ar
  repeat' first|exact aj trivial|refine aJ (fun _=>?_) (fun _=>?_)|refine ct (Ny _) ?_
 unfold At
 refine au (pZ t.Names (by omega) _ (fun s=>s≠[]) (fun _=>True) (fun i=>rfl) (fun x hx i=>au (Vg x) fun r hr=>aJ (fun _=>aj trivial) fun h=>aj ⟨rfl,hr (by simpa using h)⟩)) fun o ho=>?_
 cases o with
 |inl _=>exact aj (fun h=>by cases h)
 | inr _ =>
  have ho:∀s∈t.Names,s≠[]:=ho
  refine au (NB t.Names (by omega)) fun _ _=>aJ (fun _=>aj fun _=>ho) fun _=>ct (dR (by simp;omega)) ?_
  unfold Av
  refine au (pZ ([t.Pred]++t.Preds) (by simp;omega) _ (fun _=>True) (fun _=>True) (fun i=>rfl) (fun x hx i=>?_)) fun o _=>?_
  ·have hxn:nP x<=bz:=by
    rcases vaE.1 hx with h|h
    ·rw[va4.1 h];exact hp
    ·exact hq x h
   refine au (Pr x hxn) fun e _=>au (R:=fun _=>True) ?_ fun _ _=>aJ (fun _=>aj trivial) fun _=>aj ⟨rfl,trivial⟩
   unfold As
   exact ct (Ny _) (aJ (fun _=>aj trivial) fun _=>aj trivial)
  ·cases o<;>exact aj fun _=>ho
theorem Uf(t:ae)(ht:cu t<=bz)(hp:Di (fun p=>nP p<=bz) t):eO (JI t) (fun r=>(r !=0)=false->zd t):=by
 refine mU (F:=Dc) cu (fun x=>cu x<=bz/\Di (fun p=>nP p<=bz) x) (fun x r=>(r !=0)=false->zd x) (fun R x hx ih=>?_) t ⟨ht,hp⟩ (f6 ht)
 obtain⟨hx,hq⟩:=hx
 show eO (xY (fun t=>R t) x) _
 unfold xY Ap
 have h1:=iO x
 have hq':=(Vn _ _).1 hq
 refine au (Uw x hx hq'.1 hq'.2.1) fun r hr=>aJ (fun h=>aj (fun h'=>by rw[h]at h';cases h')) fun h=>au (pZ x.Args (by unfold bz at hx;omega) _ zd (fun r=>(r !=0)=true) (fun i=>rfl) (fun y hy i=>au (ih _ (je hy) ⟨by have:=je hy;omega,(Mw _ _).1 hq'.2.2 y hy⟩) fun r hr=>aJ (fun h=>aj h) fun h=>aj ⟨rfl,hr (by simpa using h)⟩)) fun o ho=>?_
 cases o with
 |inl r=>
  have ho:(r !=0)=true:=ho
  exact aj fun h'=>by rw[ho]at h';cases h'
 |inr _=>exact aj fun _=>(AE x).2 ⟨hr (by simpa using h),(sO _).2 ho⟩
theorem I1(t:ae)(ht:cu t<=bz)(hp:Di (fun p=>nP p<=bz) t):eO (wH t) (fun r=>(r !=0)=false->zd t):=by
 unfold wH
 exact au (Ps t ht) fun _ _=>aJ (fun h=>aj (fun h'=>by rw[h]at h';cases h')) fun _=>au (Uf t ht hp) fun _ h=>aj h
theorem V3(used:List ag)(base:ag)(h:used.length<=100000000)(hb:base≠[]):fq used base≠[]:=by
 unfold fq
 split
 ·have key:∀k n,kJ used base k n=[]->(∀j,n<=j->j<n+k->base++Lib.decDigits j∈used):=by
   intro k
   induction k with
   |zero=>intro n _ j h1 h2;omega
   | succ k ih =>
    intro n hk j h1 h2
    rw[kJ]at hk
    split at hk
    ·rename_i hc
     by_cases hj:j=n
     ·subst hj;simpa using hc
     ·exact ih (n+1) hk j (by omega) (by omega)
    ·exact absurd (List.append_eq_nil_iff.1 hk).1 hb
  intro he
  obtain⟨n,h1,h2,h3⟩:=P0 used base
  exact h3 (key _ _ he n h1 (by omega))
 ·exact hb
theorem VH(t:ae)(c:Sb)(h:X5 t c)(he:∀s∈t.Names,s≠[]):∀i,i<=t.Args.length->∀s∈(pf t.Op t.Names (dq t c) i).2.2,s≠[]
 |0,_=>he
 | i + 1,hi => by
  have ih:=VH t c h he i (by omega)
  have h1:=VI t.Op t.Names (dq t c) i
  have h2:=TB t c
  have h3:=h.sz
  have h4:=h.w
  have h5:=iO t
  show ∀s∈(CE t.Op t.Names i (pf t.Op t.Names (dq t c) i)).2.2,s≠[]
  unfold CE
  split
  ·rename_i hc
   split
   ·intro s hs
    rcases vce hs with hs|hs
    ·exact ih s hs
    ·rw[hs]
     exact V3 _ _ (by omega) (by rw[IT _ i hc.2];exact he _ (vat hc.2))
   ·exact ih
  ·exact ih
theorem SG:∀(n:Nat) (t:ae) (c:Sb),cu t<=n->X5 t c->zd t->zd (Ce t c)
 |0,t,c,hn,_,_=>by have:=mL t;omega
 |n+1,t,c,hn,h,he=>by
  rw[AE]at he
  rw[RA,AE]
  refine⟨VH t c h he.1 _ (vah _),(sO _).2 fun x hx=>?_⟩
  obtain⟨y,hy,rfl⟩:=vap.1 hx
  obtain⟨a,i⟩:=y
  obtain⟨h1,h2,h3⟩:=List.mem_zipIdx hy
  have h2:i<t.Args.length:=by omega
  have h3:a=t.Args[i]:=by simpa using h3
  subst h3
  exact SG n _ _ (by have:=je (vat h2:t.Args[i]∈t.Args);show cu t.Args[i]<=n;omega) (Th h i h2) ((sO _).1 he.2 _ (vat h2))
structure EV(L:Nat)(t t':ae):Prop where
 l:cu t'=cu t
 w:wT t'<=wT t
 p:sS t'=sS t
 n:uq L t'
 e:zd t'
theorem EV.step{L:Nat}{t t':ae}(h:EV L t t')(x y:ag)(h1:cu t<=10000000)(h2:wT t<=10000000)(h3:L<=1000000000000000):EV (L+10) t (Ce t' (Bt x (nG y))) where
 l:=by rw[S9];exact h.l
 w:=vaI (Ze _ _ (U6 x y)) h.w
 p:=by rw[WO];exact h.p
 n:=SH L _ _ h.n
 e:=SG _ _ _ (vah _) (Ti x y (by have:=h.l;omega) (by have:=h.w;omega) (BE h3 _ h.n)) h.e
theorem EV.up{L M:Nat}{t t':ae}(h:EV L t t')(hM:L<=M):EV M t t':=⟨h.l,h.w,h.p,BE hM _ h.n,h.e⟩
def zt:ae:=⟨0,[],[],[],ie,[]⟩
theorem GR(l:List ae)(ns:List ag)(i:Nat)(y:ag):(Fo l ns i y).length=l.length:=by
 unfold Fo
 split
 ·rw[vae,vaL,vaM,vaV];omega
 ·rfl
theorem GQ(l:List ae)(ns:List ag)(i:Nat)(y:ag)(k:Nat):(Fo l ns i y)[k]? =if k<=i\/ns.length<=i then l[k]? else(l[k]?).map (fun t=>Ce t (Bt (ns.getD i []) (nG y))):=by
 unfold Fo
 by_cases hi:i<ns.length
 ·rw[vak hi]
  by_cases hk:k<=i
  ·rw[vak (.inl hk)]
   by_cases hl:k<l.length
   ·rw[vad (by rw[vaM];omega),vao (by omega)]
   ·rw[vau (by rw[vae,vaL,vaM,vaV];omega),vau (by omega)]
  ·rw[van (by omega)]
   by_cases hl:k<l.length
   ·rw[vaf (by rw[vaM];omega),vaB,vbf,vaM,show i+1+(k - min (i+1) l.length)=k by omega]
   ·rw[vau (by rw[vae,vaL,vaM,vaV];omega),vau (by omega)]
    rfl
 ·rw[van hi,vak (.inr (by omega))]
def wZ(L:Nat)(l l':List ae):Prop:=l'.length=l.length/\∀(k:Nat) (t:ae),l[k]? =some t->∃t':ae,l'[k]? =some t'/\EV L t t'
theorem wZ.step{L:Nat}{l l':List ae}(h:wZ L l l')(ns:List ag)(i:Nat)(y:ag)(h1:∀t∈l,cu t<=10000000/\wT t<=10000000)(h3:L<=1000000000000000):wZ (L+10) l (Fo l' ns i y):=by
 refine⟨by rw[GR];exact h.1,fun k t ht=>?_⟩
 obtain⟨t',e,hl⟩:=h.2 k t ht
 have hm:=h1 t (vaz ht)
 rw[GQ,e]
 split
 ·exact⟨t',rfl,hl.up (by omega)⟩
 ·exact⟨_,rfl,hl.step _ _ hm.1 hm.2 h3⟩
theorem wZ.mem{L:Nat}{l l':List ae}(h:wZ L l l'){x:ae}(hx:x∈l'):∃t∈l,EV L t x:=by
 obtain⟨k,hk⟩:=vbg.1 hx
 have hlt:k<l'.length:=by
  by_cases hc:k<l'.length
  ·exact hc
  ·rw[vau (by omega)]at hk;cases hk
 have hlt2:k<l.length:=by rw[<-h.1];exact hlt
 obtain⟨t',e,hl⟩:=h.2 k l[k] (vab hlt2)
 rw[hk]at e
 cases e
 exact⟨_,vat hlt2,hl⟩
theorem wZ.refl{L:Nat}{l:List ae}(hn:∀t∈l,uq L t)(he:∀t∈l,zd t):wZ L l l:=⟨rfl,fun k t ht=>⟨t,ht,rfl,vah _,rfl,hn t (vaz ht),he t (vaz ht)⟩⟩
abbrev FS:Type:=List ae×List ae×List ag
def Q9(a b:ae)(u:List ag)(i:Nat):ag:=fq ((u++a.Names.drop (i+1))++b.Names.drop (i+1)) (b.Names.getD i [120])
def qd2(a b:ae)(i:Nat)(s:FS):FS:=(Fo s.1 a.Names i (Q9 a b s.2.2 i),Fo s.2.1 b.Names i (Q9 a b s.2.2 i),s.2.2++[Q9 a b s.2.2 i])
def fJ(a b:ae)(used:List ag):Nat->FS
 |0=>(a.Args,b.Args,used)
 |i+1=>qd2 a b i (fJ a b used i)
theorem Hg(a b:ae)(used:List ag):∀i,(fJ a b used i).2.2.length=used.length+i
 |0=>rfl
 |i+1=>by
  have:=Hg a b used i
  show((fJ a b used i).2.2++[_]).length=_
  rw[vae,this];simp;omega
theorem PY(a b:ae)(used:List ag)(i:Nat):∀j,i<=j->(fJ a b used j).2.2.take (used.length+i)=(fJ a b used i).2.2
 |0,h=>by
  have:i=0:=by omega
  subst this
  exact vbn
 | j + 1,h => by
  by_cases he:i=j+1
  ·subst he
   have:=Hg a b used (j+1)
   rw[<-this,vbn]
  ·have ih:=PY a b used i j (by omega)
   have hl:=Hg a b used j
   show((fJ a b used j).2.2++[_]).take _=_
   rw[List.take_append_of_le_length (by omega)]
   exact ih
theorem Y1(a b:ae)(used:List ag):∀i,(fJ a b used i).1.length=a.Args.length/\(fJ a b used i).2.1.length=b.Args.length
 |0=>⟨rfl,rfl⟩
 |i+1=>by
  have:=Y1 a b used i
  exact⟨(GR _ _ _ _).trans this.1,(GR _ _ _ _).trans this.2⟩
theorem SZ(a b:ae)(used:List ag)(i:Nat):∀j,i<=j->(fJ a b used j).1[i]? =(fJ a b used i).1[i]?/\(fJ a b used j).2.1[i]? =(fJ a b used i).2.1[i]?
 |0,h=>by
  have:i=0:=by omega
  subst this
  exact⟨rfl,rfl⟩
 | j + 1,h => by
  by_cases he:i=j+1
  ·subst he;exact⟨rfl,rfl⟩
  ·have ih:=SZ a b used i j (by omega)
   refine⟨Eq.trans ?_ ih.1,Eq.trans ?_ ih.2⟩
   ·exact(GQ _ _ _ _ i).trans (vak (.inl (by omega)))
   ·exact(GQ _ _ _ _ i).trans (vak (.inl (by omega)))
structure Ch(a b:ae)(used:List ag)(L:Nat):Prop where
 pl:sS a=sS b
 la:cu a<=160
 lb:cu b<=160
 wa:wT a<=160
 wb:wT b<=160
 na:uq L a
 nb:uq L b
 nl:L+10 * nT a<=100000000000000
 u:used.length+nT a<=10000000
 ea:zd a
 eb:zd b
theorem Ch.al{a b:ae}{used:List ag}{L:Nat}(h:Ch a b used L):a.Args.length=b.Args.length:=by
 have h1:=h.pl
 rw[GD,GD]at h1
 have:a.Args.map sS=b.Args.map sS:=by injection h1
 simpa using vbr List.length this
theorem GY{t x:ae}(h:x∈t.Args):wT x<=wT t:=by rw[uo t];have:=Pj h;omega
theorem Kf{a b:ae}{used:List ag}{L:Nat}(h:Ch a b used L):∀i,i<=a.Args.length->wZ (L+10 * i) a.Args (fJ a b used i).1/\wZ (L+10 * i) b.Args (fJ a b used i).2.1
 |0,_=>⟨wZ.refl ((BD _ _).1 ((wK _ _).1 h.na).2) ((sO _).1 ((AE _).1 h.ea).2),wZ.refl ((BD _ _).1 ((wK _ _).1 h.nb).2) ((sO _).1 ((AE _).1 h.eb).2)⟩
 |i+1,hi=>by
  have ih:=Kf h i (by omega)
  have h1:=iO a
  have h2:=h.la
  have h3:=h.nl
  have h4:=h.lb
  have h5:=h.wa
  have h6:=h.wb
  have e:L+10 * (i+1)=L+10 * i+10:=by omega
  rw[e]
  exact⟨ih.1.step _ _ _ (fun t ht=>⟨by have:=je ht;omega,by have:=GY ht;omega⟩) (by omega),ih.2.step _ _ _ (fun t ht=>⟨by have:=je ht;omega,by have:=GY ht;omega⟩) (by omega)⟩
def lA(a b:ae)(used:List ag)(i:Nat):ae:=(fJ a b used i).1.getD i zt
def rA(a b:ae)(used:List ag)(i:Nat):ae:=(fJ a b used i).2.1.getD i zt
theorem OI{a b:ae}{used:List ag}{L:Nat}(h:Ch a b used L)(i j:Nat)(hi:i<a.Args.length)(hj:i<=j):(fJ a b used j).1[i]? =some (lA a b used i)/\(fJ a b used j).2.1[i]? =some (rA a b used i)/\EV (L+10 * i) (a.Args.getD i zt) (lA a b used i)/\EV (L+10 * i) (b.Args.getD i zt) (rA a b used i):=by
 have hl:=Kf h i (by omega)
 have hg:=SZ a b used i j hj
 have hb:i<b.Args.length:=by rw[<-h.al];exact hi
 obtain⟨t,e,hk⟩:=hl.1.2 i _ (vab hi)
 obtain⟨t',e',hk'⟩:=hl.2.2 i _ (vab hb)
 have e1:lA a b used i=t:=by unfold lA;rw[vac,e];rfl
 have e2:rA a b used i=t':=by unfold rA;rw[vac,e'];rfl
 rw[hg.1,hg.2,e,e',e1,e2]
 refine⟨rfl,rfl,?_,?_⟩
 ·rw[vac,vab hi];exact hk
 ·rw[vac,vab hb];exact hk'
theorem Ch.child{a b:ae}{used:List ag}{L:Nat}(h:Ch a b used L)(i:Nat)(hi:i<a.Args.length):Ch (lA a b used i) (rA a b used i) (fJ a b used i).2.2 (L+10 * i)/\Ch (rA a b used i) (lA a b used i) (fJ a b used i).2.2 (L+10 * i)/\nT (lA a b used i)<nT a/\nT (rA a b used i)<nT a:=by
 obtain⟨_,_,h1,h2⟩:=OI h i i hi (vah _)
 have hb:i<b.Args.length:=by rw[<-h.al];exact hi
 rw[vac,vab hi]at h1
 rw[vac,vab hb]at h2
 have h1:EV (L+10 * i) a.Args[i] (lA a b used i):=h1
 have h2:EV (L+10 * i) b.Args[i] (rA a b used i):=h2
 have hpl:sS a.Args[i]=sS b.Args[i]:=by
  have h3:=h.pl
  rw[GD,GD]at h3
  have h4:a.Args.map sS=b.Args.map sS:=by injection h3
  have h5:(a.Args.map sS)[i]? =(b.Args.map sS)[i]?:=by rw[h4]
  rw[vaB,vaB,vab hi,vab hb]at h5
  simpa using h5
 have hm:=vat hi
 have hm':=vat hb
 have n1:=X4 hm
 have n2:=Te a
 have e1:nT (lA a b used i)=nT a.Args[i]:=by unfold nT;rw[h1.p]
 have e2:nT (rA a b used i)=nT a.Args[i]:=by unfold nT;rw[h2.p,hpl]
 have p1:sS (lA a b used i)=sS (rA a b used i):=by rw[h1.p,h2.p,hpl]
 have u1:=Hg a b used i
 have a1:=je hm;have a2:=je hm';have a3:=GY hm;have a4:=GY hm'
 have b1:=h1.l;have b2:=h2.l;have b3:=h1.w;have b4:=h2.w
 have c1:=h.la;have c2:=h.lb;have c3:=h.wa;have c4:=h.wb;have c5:=h.nl;have c6:=h.u
 exact⟨⟨p1,by omega,by omega,by omega,by omega,h1.n,h2.n,by omega,by omega,h1.e,h2.e⟩,⟨p1.symm,by omega,by omega,by omega,by omega,h2.n,h1.n,by omega,by omega,h2.e,h1.e⟩,by omega,by omega⟩
abbrev Rc:Type:=ae->ae->List ag->ak
def sQ(rec:Rc)(a b:ae)(used:List ag)(n:Nat):Nat->ak
 |0=>rec (lA a b used n) (rA a b used n) (fJ a b used n).2.2
 |k+1=>En (fT [rec (rA a b used (n - (k+1))) (lA a b used (n - (k+1))) (fJ a b used (n - (k+1))).2.2,Ew (rA a b used (n - (k+1))) (Q9 a b (fJ a b used (n - (k+1))).2.2 (n - (k+1))) (sQ rec a b used n k)])
abbrev nB(K:Nat)(a b:ae):Nat:=K * (cu a+cu b)+4 * (wT a+wT b)
def Iv(K:Nat)(rec:Rc)(a b:ae)(u:List ag):Prop:=nC (rec a b u)+8+nP a.Pred+nP b.Pred<=nB K a b
theorem SL(t:ae)(x:ag)(c:ak):nC (Ew t x c)<=nP t.Pred+nC c+1:=by
 have:=Vt t x
 unfold Ew
 split
 ·simp[nC,wz];omega
 ·omega
theorem ZV(l:List ak):nC (En (fT l))<=2+wz l:=by
 have:=Es l
 have e:nP ie=1:=by simp[nP,nL,ie]
 rw[nC];omega
theorem Ku(l:List ae)(i:Nat)(h:i<l.length):cM (l.drop i)=cu l[i]+cM (l.drop (i+1)):=by
 rw[va7 h,cM]
theorem Q7(l:List ae)(i:Nat)(h:i<l.length):sU (l.drop i)=wT l[i]+sU (l.drop (i+1)):=by
 rw[va7 h,sU]
def CH(K:Nat)(a b:ae)(i:Nat):Nat:=K * (cM (a.Args.drop i)+cM (b.Args.drop i))+4 * (sU (a.Args.drop i)+sU (b.Args.drop i))
theorem Ds{K:Nat}{a b:ae}{used:List ag}{L:Nat}(h:Ch a b used L)(i:Nat)(hi:i<a.Args.length):nB K (rA a b used i) (lA a b used i)+CH K a b (i+1)<=CH K a b i/\nB K (lA a b used i) (rA a b used i)=nB K (rA a b used i) (lA a b used i):=by
 obtain⟨_,_,h1,h2⟩:=OI h i i hi (vah _)
 have hb:i<b.Args.length:=by rw[<-h.al];exact hi
 rw[vac,vab hi]at h1
 rw[vac,vab hb]at h2
 have h1:EV (L+10 * i) a.Args[i] (lA a b used i):=h1
 have h2:EV (L+10 * i) b.Args[i] (rA a b used i):=h2
 have e1:=Ku a.Args i hi
 have e2:=Ku b.Args i hb
 have e3:=Q7 a.Args i hi
 have e4:=Q7 b.Args i hb
 have l1:=h1.l;have l2:=h2.l;have l3:=h1.w;have l4:=h2.w
 unfold nB CH
 rw[l1,l2,e1,e2,e3,e4]
 constructor
 ·have:K * (cu a.Args[i]+cM (a.Args.drop (i+1))+(cu b.Args[i]+cM (b.Args.drop (i+1))))=K * (cu b.Args[i]+cu a.Args[i])+K * (cM (a.Args.drop (i+1))+cM (b.Args.drop (i+1))):=by rw[<-Nat.mul_add];congr 1;omega
  rw[this];omega
 ·rw[vb8 (cu a.Args[i])];omega
theorem MN(K:Nat)(a b:ae)(hK:20<=K):CH K a b 0+16+nP a.Pred+nP b.Pred<=nB K a b:=by
 have h1:=qp a
 have h2:=qp b
 have h3:=uo a
 have h4:=uo b
 unfold CH nB
 rw[va2,va2]
 have:K * (cM a.Args+cM b.Args)+K * 2<=K * (cu a+cu b):=by rw[<-Nat.mul_add];exact vbJ K (by omega)
 omega
theorem V1{K:Nat}{rec:Rc}{a b:ae}{used:List ag}{L:Nat}(h:Ch a b used L)(n:Nat)(hn:n+1=a.Args.length)(hr:∀i,i<a.Args.length->Iv K rec (rA a b used i) (lA a b used i) (fJ a b used i).2.2/\Iv K rec (lA a b used i) (rA a b used i) (fJ a b used i).2.2):∀k,k<=n->nC (sQ rec a b used n k)<=CH K a b (n - k)
 |0,_=>by
  have h1:=(hr n (by omega)).2
  have h2:=Ds (K:=K) h n (by omega)
  unfold Iv at h1
  show nC (rec (lA a b used n) (rA a b used n) (fJ a b used n).2.2)<=CH K a b n
  omega
 |k+1,hk=>by
  have ih:=V1 h n hn hr k (by omega)
  have h1:=(hr (n - (k+1)) (by omega)).1
  have h2:=(Ds (K:=K) h (n - (k+1)) (by omega)).1
  unfold Iv at h1
  rw[sQ]
  have h3:=ZV [rec (rA a b used (n - (k+1))) (lA a b used (n - (k+1))) (fJ a b used (n - (k+1))).2.2,Ew (rA a b used (n - (k+1))) (Q9 a b (fJ a b used (n - (k+1))).2.2 (n - (k+1))) (sQ rec a b used n k)]
  have h4:=SL (rA a b used (n - (k+1))) (Q9 a b (fJ a b used (n - (k+1))).2.2 (n - (k+1))) (sQ rec a b used n k)
  simp only[wz]at h3
  rw[show n - (k+1)+1=n - k by omega]at h2
  omega
theorem V2{K:Nat}{rec:Rc}{a b:ae}{used:List ag}{L:Nat}(h:Ch a b used L)(n:Nat)(hn:n+1=a.Args.length)(hr:∀i,i<a.Args.length->Iv K rec (rA a b used i) (lA a b used i) (fJ a b used i).2.2/\Iv K rec (lA a b used i) (rA a b used i) (fJ a b used i).2.2)(hK:20<=K)(k:Nat)(hk:k<n):wz [rec (rA a b used (n - (k+1))) (lA a b used (n - (k+1))) (fJ a b used (n - (k+1))).2.2,Ew (rA a b used (n - (k+1))) (Q9 a b (fJ a b used (n - (k+1))).2.2 (n - (k+1))) (sQ rec a b used n k)]<=nB K a b:=by
 have h0:=V1 h n hn hr k (by omega)
 have h1:=(hr (n - (k+1)) (by omega)).1
 have h2:=(Ds (K:=K) h (n - (k+1)) (by omega)).1
 have h4:=SL (rA a b used (n - (k+1))) (Q9 a b (fJ a b used (n - (k+1))).2.2 (n - (k+1))) (sQ rec a b used n k)
 have h5:=MN K a b hK
 have h6:CH K a b (n - (k+1))<=CH K a b 0:=by
  unfold CH
  have m1:∀(l:List ae) (i:Nat),cM (l.drop i)<=cM l:=by
   intro l
   induction l with
   |nil=>intro i;simp
   |cons x l ih=>
    intro i
    cases i with
    |zero=>exact vah _
    |succ i=>have:=ih i;rw[vcH,cM];omega
  have m2:∀(l:List ae) (i:Nat),sU (l.drop i)<=sU l:=by
   intro l
   induction l with
   |nil=>intro i;simp
   |cons x l ih=>
    intro i
    cases i with
    |zero=>exact vah _
    |succ i=>have:=ih i;rw[vcH,sU];omega
  rw[va2,va2]
  have:=m1 a.Args (n - (k+1));have:=m1 b.Args (n - (k+1));have:=m2 a.Args (n - (k+1));have:=m2 b.Args (n - (k+1))
  exact Nat.add_le_add (vbJ K (by omega)) (by omega)
 unfold Iv at h1
 simp only[wz]
 rw[show n - (k+1)+1=n - k by omega]at h2
 omega
abbrev T9:Type:=Int×ag×ag×Int×ag×Int×List aa×Int×List ak
def t9(c:ak):T9:=(c.Op,c.Name,c.Sort_,c.Pred.Op,c.Pred.Name,c.Pred.N,c.Pred.Kids,c.Tag,c.Kids)
def ys(a b:ae)(used:List ag):Nat->List ag
 |0=>[]
 |i+1=>ys a b used i++[Q9 a b (fJ a b used i).2.2 i]
theorem SD(a b:ae)(used:List ag):∀i,(ys a b used i).length=i
 |0=>rfl
 |i+1=>by rw[ys,vae,SD];rfl
theorem Xh(a b:ae)(used:List ag)(i:Nat):∀n,i<n->(ys a b used n)[i]? =some (Q9 a b (fJ a b used i).2.2 i)
 |0,h=>absurd h (vaQ _)
 | n + 1,h => by
  have hl:=SD a b used n
  rw[ys]
  by_cases he:i=n
  ·subst he
   rw[vaf (by omega),hl,vby];rfl
  ·rw[vad (by omega)]
   exact Xh a b used i n (by omega)
theorem Km{α:Type}{l:List α}{i:Nat}{x:α}(h:l[i]? =some x):cR l (i:Int)=some x:=by
 have hlt:i<l.length:=by
  by_cases hc:i<l.length
  ·exact hc
  ·rw[vau (by omega)]at h;cases h
 rw[bv l i hlt,<-vab hlt,h]
theorem ZQ{a b:ae}{used:List ag}{L:Nat}(h:Ch a b used L)(i:Nat)(hi:i<a.Args.length):kO (((fJ a b used i).2.2++a.Names.drop (i+1))++b.Names.drop (i+1)) (b.Names.getD i [120])=some (Q9 a b (fJ a b used i).2.2 i)/\FE ((b.Names.drop (i+1)++a.Names.drop (i+1))++(fJ a b used i).2.2) (b.Names.getD i [120])=some (Q9 a b (fJ a b used i).2.2 i):=by
 have h1:=Hg a b used i
 have h2:=j3 a
 have h3:=j3 b
 have h4:=h.u
 have h5:=Te a
 have h6:=iO a
 have h7:=h.la;have h8:=h.lb;have h9:=h.nl
 have hu:used.length+i<=10000000:=by
  have:a.Args.length<=cM (a.Args.map sS):=by have:=wY (a.Args.map sS);rwa[vaL]at this
  omega
 have hbase:(b.Names.getD i [120]).length<=4000000000000000000:=by
  by_cases hb:i<b.Names.length
  ·rw[vac,vab hb,Option.getD_some]
   have:=((wK _ _).1 h.nb).1 _ (vat hb)
   omega
  ·rw[vac,vau (by omega)]
   simp
 constructor
 ·exact(wB _ _ (by rw[vae,vae,vaV,vaV];omega) hbase).1
 ·rw[(wB _ _ (by rw[vae,vae,vaV,vaV];omega) hbase).2.1]
  unfold Q9
  congr 1
  exact Ow (fun x=>by simp only[vaE];constructor<;>(rintro((h|h)|h)<;>simp[h])) _
theorem DD{σ X:Type}(n:Nat)(body:σ->Option (σ⊕X))(S:Nat->σ)(e:X)(hin:∀i,i<n->body (S i)=some (.inl (S (i+1))))(hend:body (S n)=some (.inr e)):loop body (S 0)=some e:=by
 have key:∀k i,k+i=n->loop body (S i)=some e:=by
  intro k
  induction k with
  |zero=>
   intro i hi
   have:i=n:=by omega
   subst this
   exact j2 hend
  |succ k ih=>
   intro i hi
   rw[pI (hin i (by omega))]
   exact ih (i+1) (by omega)
 exact key n 0 (by omega)
theorem wZ.okV{L:Nat}{l l':List ae}(h:wZ L l l')(h1:∀t∈l,cu t<=10000000/\wT t<=10000000)(h3:L<=1000000000000000):∀x∈l',okV x:=fun x hx=>by
 obtain⟨t,ht,hl⟩:=h.mem hx
 have:=h1 t ht
 exact⟨by have:=hl.l;omega,by have:=hl.w;omega,BE h3 _ hl.n⟩
theorem Ch.okVs{a b:ae}{used:List ag}{L:Nat}(h:Ch a b used L)(i:Nat)(hi:i<=a.Args.length):(∀x∈(fJ a b used i).1,okV x)/\(∀x∈(fJ a b used i).2.1,okV x):=by
 have hl:=Kf h i hi
 have h1:=iO a
 have c1:=h.la;have c2:=h.lb;have c3:=h.wa;have c4:=h.wb;have c5:=h.nl
 exact⟨hl.1.okV (fun t ht=>⟨by have:=je ht;omega,by have:=GY ht;omega⟩) (by omega),hl.2.okV (fun t ht=>⟨by have:=je ht;omega,by have:=GY ht;omega⟩) (by omega)⟩
theorem Q0{α:Type}(l:List α)(i:Nat)(hi:i<4611686018427387904)(hl:l.length<4611686018427387904):Ld l (some (if(l.length:Int)<aR ((i:Int)+1)then(l.length:Int)else aR ((i:Int)+1))) none=some (l.drop (i+1)):=by
 rw[dB (by omega) (by omega)]
 by_cases h:(l.length:Int)<(i:Int)+1
 ·rw[vak h,Fv l l.length (vah _),vbY,vbC (by omega)]
 ·rw[van h,show((i:Int)+1)=((i+1:Nat):Int) by omega,Fv l (i+1) (by omega)]
theorem Z3(a b:ae)(i:Nat)(taken:List ag)(hi:i<1000)(ha:a.Names.length<=1000)(hb:b.Names.length<=1000)(ht:taken.length<=100000000):eA (i:Int) [a,b] (([a,b]:List ae).length:Int) taken 0=some ((taken++a.Names.drop (i+1))++b.Names.drop (i+1)):=by
 unfold eA
 refine DD 2 _ (fun k=>((match k with|0=>taken|1=>taken++a.Names.drop (i+1)|_=>(taken++a.Names.drop (i+1))++b.Names.drop (i+1)),(k:Int))) _ (fun k hk=>?_) ?_
 ·match k,hk with
  |0,_=>
   show bR (i:Int) [a,b] 2 taken 0=_
   unfold bR
   rw[vak (by decide),EO]
   simp only[vaa]
   rw[Q0 _ i (by omega) (by omega)]
   simp only[vaa]
   rw[dR (by rw[vaV];omega)]
   rfl
  |1,_=>
   show bR (i:Int) [a,b] 2 (taken++a.Names.drop (i+1)) 1=_
   unfold bR
   rw[vak (by decide),show cR [a,b] (1:Int)=some b from bv [a,b] 1 (by simp)]
   simp only[vaa]
   rw[Q0 _ i (by omega) (by omega)]
   simp only[vaa]
   rw[dR (by rw[vae,vaV,vaV];omega)]
   rfl
 ·show bR (i:Int) [a,b] 2 ((taken++a.Names.drop (i+1))++b.Names.drop (i+1)) 2=_
  unfold bR
  rw[van (by decide)]
theorem Z2{a b:ae}{used:List ag}{L:Nat}(h:Ch a b used L)(n:Nat)(hn:n+1=a.Args.length):ez a b (n:Int) a.Args b.Args [] used 0=some ((fJ a b used n).1,(fJ a b used n).2.1,ys a b used n,(fJ a b used n).2.2):=by
 have h1:=iO a
 have h2:=j3 a
 have h3:=j3 b
 have c1:=h.la;have c2:=h.lb;have c6:=h.u
 unfold ez
 refine DD n _ (fun i=>((fJ a b used i).1,(fJ a b used i).2.1,ys a b used i,(fJ a b used i).2.2,(i:Int))) _ (fun i hi=>?_) ?_
 ·show cJ a b (n:Int) (fJ a b used i).1 (fJ a b used i).2.1 (ys a b used i) (fJ a b used i).2.2 (i:Int)=_
  have u1:=Hg a b used i
  have y1:=SD a b used i
  have l1:=Y1 a b used i
  have v1:=h.okVs i (by omega)
  have al:=h.al
  unfold cJ
  rw[vak (by simp;omega)]
  have hj:ey b (i:Int)=some (b.Names.getD i [120]):=by
   unfold ey
   by_cases hb:i<b.Names.length
   ·rw[vak (by simp;omega),bv _ i hb,vac,vab hb];rfl
   ·rw[van (by simp;omega),vac,vau (by omega)];rfl
  rw[hj]
  simp only[vaa]
  rw[wQ _ (by omega)]
  simp only[vaa]
  rw[Z3 a b i _ (by omega) (by omega) (by omega) (by omega)]
  simp only[vaa]
  rw[(ZQ h i (by omega)).1]
  simp only[vaa]
  rw[dR (by simp;omega),dR (by simp;omega)]
  simp only[vaa]
  rw[Fj _ a i _ (by omega) (by omega) v1.1 (by omega)]
  simp only[vaa]
  rw[Fj _ b i _ (by omega) (by omega) v1.2 (by omega)]
  simp only[vaa]
  rw[dB (by omega) (by omega),show((i:Int)+1)=((i+1:Nat):Int) by omega]
  rfl
 ·show cJ a b (n:Int) (fJ a b used n).1 (fJ a b used n).2.1 (ys a b used n) (fJ a b used n).2.2 (n:Int)=_
  unfold cJ
  rw[van (by simp)]
theorem O0(R:du)(m:aQ)(tag:Int){K:Nat}{rec:Rc}{a b:ae}{used:List ag}{L:Nat}(h:Ch a b used L)(n:Nat)(hn:n+1=a.Args.length)(hr:∀i,i<a.Args.length->Iv K rec (rA a b used i) (lA a b used i) (fJ a b used i).2.2/\Iv K rec (lA a b used i) (rA a b used i) (fJ a b used i).2.2)(hK:20<=K)(hB:nB K a b<=bz)
  (hR:∀i,i<a.Args.length->R ⟨m,tag⟩ (rA a b used i) (lA a b used i) (fJ a b used i).2.2=some (rec (rA a b used i) (lA a b used i) (fJ a b used i).2.2)/\R ⟨m,tag⟩ (lA a b used i) (rA a b used i) (fJ a b used i).2.2=some (rec (lA a b used i) (rA a b used i) (fJ a b used i).2.2)):
  fH R ⟨m,tag⟩ a b used=some (sQ rec a b used n n):=by
 have al:=h.al
 have h1:=iO a
 have c1:=h.la;have c2:=h.lb;have c6:=h.u
 unfold fH
 rw[wQ _ (by omega)]
 simp only[vaa]
 rw[dB (n:=(b.Args.length:Int) - 1) (by omega) (by omega),show((b.Args.length:Int) - 1)=(n:Int) by omega,Z2 h n hn]
 simp only[vaa]
 obtain⟨g1,g2,_,_⟩:=OI h n n (by omega) (vah _)
 rw[Km g1,Km g2]
 simp only[vaa]
 rw[(hR n (by omega)).2]
 simp only[vaa]
 unfold gC
 rw[dB (n:=(n:Int) - 1) (by omega) (by omega)]
 have e:=DD n (fun(zz:Int×T9)=>bS R used ⟨m,tag⟩ (fJ a b used n).1 (fJ a b used n).2.1 (ys a b used n) (fJ a b used n).2.2 zz.1 zz.2.1 zz.2.2.1 zz.2.2.2.1 zz.2.2.2.2.1 zz.2.2.2.2.2.1 zz.2.2.2.2.2.2.1 zz.2.2.2.2.2.2.2.1 zz.2.2.2.2.2.2.2.2.1 zz.2.2.2.2.2.2.2.2.2) (fun k=>((n:Int) - 1 - (k:Int),t9 (sQ rec a b used n k))) (t9 (sQ rec a b used n n)) (fun k hk=>?_) ?_
 ·have e':(n:Int) - 1 - ((0:Nat):Int)=(n:Int) - 1:=by omega
  rw[e']at e
  rw[show loop (fun(zz:Int×T9)=>bS R used ⟨m,tag⟩ (fJ a b used n).1 (fJ a b used n).2.1 (ys a b used n) (fJ a b used n).2.2 zz.1 zz.2.1 zz.2.2.1 zz.2.2.2.1 zz.2.2.2.2.1 zz.2.2.2.2.2.1 zz.2.2.2.2.2.2.1 zz.2.2.2.2.2.2.2.1 zz.2.2.2.2.2.2.2.2.1 zz.2.2.2.2.2.2.2.2.2) ((n:Int) - 1,(rec (lA a b used n) (rA a b used n) (fJ a b used n).2.2).Op,(rec (lA a b used n) (rA a b used n) (fJ a b used n).2.2).Name,(rec (lA a b used n) (rA a b used n) (fJ a b used n).2.2).Sort_,(rec (lA a b used n) (rA a b used n) (fJ a b used n).2.2).Pred.Op,(rec (lA a b used n) (rA a b used n) (fJ a b used n).2.2).Pred.Name,(rec (lA a b used n) (rA a b used n) (fJ a b used n).2.2).Pred.N,(rec (lA a b used n) (rA a b used n) (fJ a b used n).2.2).Pred.Kids,(rec (lA a b used n) (rA a b used n) (fJ a b used n).2.2).Tag,(rec (lA a b used n) (rA a b used n) (fJ a b used n).2.2).Kids)=_ from e]
  show some (⟨(sQ rec a b used n n).Op,(sQ rec a b used n n).Name,(sQ rec a b used n n).Sort_,⟨(sQ rec a b used n n).Pred.Op,(sQ rec a b used n n).Pred.Name,(sQ rec a b used n n).Pred.N,(sQ rec a b used n n).Pred.Kids⟩,(sQ rec a b used n n).Tag,(sQ rec a b used n n).Kids⟩:ak)=_
  rw[J6]
 ·show bS R used ⟨m,tag⟩ (fJ a b used n).1 (fJ a b used n).2.1 (ys a b used n) (fJ a b used n).2.2 ((n:Int) - 1 - (k:Int)) (sQ rec a b used n k).Op (sQ rec a b used n k).Name (sQ rec a b used n k).Sort_ (sQ rec a b used n k).Pred.Op (sQ rec a b used n k).Pred.Name (sQ rec a b used n k).Pred.N (sQ rec a b used n k).Pred.Kids (sQ rec a b used n k).Tag (sQ rec a b used n k).Kids=_
  have hp:=V2 h n hn hr hK k hk
  obtain⟨i,hi⟩:∃i,i=n - (k+1):=⟨_,rfl⟩
  have hin:i<n:=by omega
  rw[<-hi]at hp
  have ei:(n:Int) - 1 - (k:Int)=(i:Int):=by omega
  obtain⟨q1,q2,_,_⟩:=OI h i n (by omega) (by omega)
  have ok:=h.child i (by omega)
  have ok1:=ok.1.lb
  have ok2:=ok.1.wb
  have w1:=uo (rA a b used i)
  have u1:=Hg a b used n
  have ht:=PY a b used i n (by omega)
  unfold bS
  rw[ei,vak (by simp),dB (n:=(used.length:Int)+i) (by omega) (by omega),show((used.length:Int)+(i:Int))=((used.length+i:Nat):Int) by omega,Sy _ _ (by omega),ht,Km q2,Km q1]
  simp only[vaa]
  rw[(hR i (by omega)).1,Km (Xh a b used i n hin)]
  simp only[vaa]
  rw[J6,WA _ _ _ (by unfold bz;omega) (by unfold bz;omega)]
  simp only[vaa]
  rw[SN _ (vaI hp hB)]
  simp only[vaa]
  rw[dB (by omega) (by omega),show(i:Int) - 1=(n:Int) - 1 - ((k+1:Nat):Int) by omega]
  have:sQ rec a b used n (k+1)=En (fT [rec (rA a b used i) (lA a b used i) (fJ a b used i).2.2,Ew (rA a b used i) (Q9 a b (fJ a b used i).2.2 i) (sQ rec a b used n k)]):=by rw[sQ,<-hi]
  rw[this]
  rfl
 ·show bS R used ⟨m,tag⟩ (fJ a b used n).1 (fJ a b used n).2.1 (ys a b used n) (fJ a b used n).2.2 ((n:Int) - 1 - (n:Int)) (sQ rec a b used n n).Op (sQ rec a b used n n).Name (sQ rec a b used n n).Sort_ (sQ rec a b used n n).Pred.Op (sQ rec a b used n n).Pred.Name (sQ rec a b used n n).Pred.N (sQ rec a b used n n).Pred.Kids (sQ rec a b used n n).Tag (sQ rec a b used n n).Kids=_
  unfold bS
  rw[van (by simp;omega)]
  rfl
def DX(m:aQ)(tag:Int):Nat->Rc
 |0=>fun _ _ _=>Zf
 |k+1=>fun a b used=>if a.Op=6 then(if a.Args.length=0 then En []else sQ (DX m tag k) a b used (a.Args.length - 1) (a.Args.length - 1))else if Ev a=true then G8 m tag a b used else En []
structure ZY(m:aQ)(D:Nat):Prop where
 ds:m.Datas.length<=1048576
 dp:∀d∈m.Datas,d.Preds.length<=D
 D:D<=1048576
theorem Ch.nB{a b:ae}{used:List ag}{L:Nat}(h:Ch a b used L){D:Nat}(hD:D<=1048576):nB (2 * D+20) a b<=bz:=by
 have c1:=h.la;have c2:=h.lb;have c3:=h.wa;have c4:=h.wb
 have:(2 * D+20) * (cu a+cu b)<=(2 * 1048576+20) * 320:=vca (by omega) (by omega)
 show(2 * D+20) * (cu a+cu b)+4 * (wT a+wT b)<=bz
 unfold bz;omega
theorem xn{m:aQ}{D:Nat}(hm:ZY m D)(tag:Int):∀(k:Nat) (a b:ae) (used:List ag) (L:Nat),Ch a b used L->nT a<=k->Iv (2 * D+20) (DX m tag k) a b used
 |0,a,b,used,L,h,hk=>by have:1<=nT a:=mL _;omega
 | k + 1,a,b,used,L,h,hk => by
  have e:2 * (2 * D+20)<=(2 * D+20) * (cu a+cu b):=by
   rw[vcq];exact vbJ _ (by have:=mL a;have:=mL b;omega)
  have w1:=uo a
  have w2:=uo b
  have z:nC (En [])=2:=by simp[nC,wz,nP,nL,ie]
  unfold Iv
  show nC (if a.Op=6 then _ else _)+8+nP a.Pred+nP b.Pred<=(2 * D+20) * (cu a+cu b)+4 * (wT a+wT b)
  by_cases h6:a.Op=6
  ·rw[vak h6]
   by_cases h0:a.Args.length=0
   ·rw[vak h0,z];omega
   ·rw[van h0]
    have h2:=V1 (K:=2 * D+20) (rec:=DX m tag k) h (a.Args.length - 1) (by omega) (fun i hi=>by
     have hc:=h.child i hi
     exact⟨xn hm tag k _ _ _ _ hc.2.1 (by omega),xn hm tag k _ _ _ _ hc.1 (by omega)⟩) (a.Args.length - 1) (vah _)
    rw[vby]at h2
    have h3:=MN (2 * D+20) a b (by omega)
    have h4:nB (2 * D+20) a b=(2 * D+20) * (cu a+cu b)+4 * (wT a+wT b):=rfl
    omega
  ·rw[van h6]
   by_cases hb:Ev a=true
   ·rw[vak hb]
    have h2:=XH m tag a b used D (J4 m a.Name D hm.dp)
    omega
   ·rw[van hb,z];omega
theorem MP{rec rec':Rc}{a b:ae}{used:List ag}(n:Nat)(h:∀i,i<=n->rec (rA a b used i) (lA a b used i) (fJ a b used i).2.2=rec' (rA a b used i) (lA a b used i) (fJ a b used i).2.2/\rec (lA a b used i) (rA a b used i) (fJ a b used i).2.2=rec' (lA a b used i) (rA a b used i) (fJ a b used i).2.2):∀k,k<=n->sQ rec a b used n k=sQ rec' a b used n k
 |0,_=>(h n (vah _)).2
 |k+1,hk=>by
  rw[sQ,sQ,MP n h k (by omega),(h (n - (k+1)) (by omega)).1]
theorem B4{m:aQ}(tag:Int):∀(k k':Nat) (a b:ae) (used:List ag) (L:Nat),Ch a b used L->nT a<=k->nT a<=k'->DX m tag k a b used=DX m tag k' a b used
 |0,k',a,b,used,L,h,hk,_=>by have:1<=nT a:=mL _;omega
 |k+1,0,a,b,used,L,h,_,hk=>by have:1<=nT a:=mL _;omega
 | k + 1,k' + 1,a,b,used,L,h,hk,hk' => by
  show(if a.Op=6 then _ else _)=(if a.Op=6 then _ else _)
  by_cases h6:a.Op=6
  ·rw[vak h6,vak h6]
   by_cases h0:a.Args.length=0
   ·rw[vak h0,vak h0]
   ·rw[van h0,van h0]
    refine MP _ (fun i hi=>?_) _ (vah _)
    have hc:=h.child i (by omega)
    exact⟨B4 tag k k' _ _ _ _ hc.2.1 (by omega) (by omega),B4 tag k k' _ _ _ _ hc.1 (by omega) (by omega)⟩
  ·rw[van h6,van h6]
def Q2(m:aQ)(tag:Int)(a b:ae)(used:List ag):ak:=DX m tag (nT a) a b used
theorem Ch.b{m:aQ}{D:Nat}(hm:ZY m D){a b:ae}{used:List ag}{L:Nat}(h:Ch a b used L):qdu m a b used where
 u:=by have:=h.u;omega
 la:=by have:=h.la;omega
 lb:=by have:=h.lb;omega
 wa:=by have:=h.wa;omega
 wb:=by have:=h.wb;omega
 ds:=by have:=hm.ds;omega
 dp:=fun d hd=>by have:=hm.dp d hd;have:=hm.D;omega
theorem WT{m:aQ}{D:Nat}(hm:ZY m D)(tag:Int){a b:ae}{used:List ag}{L:Nat}(h:Ch a b used L):nE ⟨m,tag⟩ a b used=some (Q2 m tag a b used):=by
 refine kf (F:=kX) (fun x=>nT x.2.1) (fun x=>x.1=⟨m,tag⟩/\∃L,Ch x.2.1 x.2.2.1 x.2.2.2 L) (fun x=>Q2 m tag x.2.1 x.2.2.1 x.2.2.2) (fun R x hx ih=>?_) (⟨m,tag⟩,a,b,used) ⟨rfl,L,h⟩ (f6 (by have:=Tf a;have:=h.la;show nT a<=bz;unfold bz;omega))
 obtain⟨w,a,b,used⟩:=x
 obtain⟨hw,L,h⟩:=hx
 have hw:w=⟨m,tag⟩:=hw
 subst hw
 have h:Ch a b used L:=h
 show ib (fun w a a2 used=>R (w,a,a2,used)) ⟨m,tag⟩ a b used=some (DX m tag (nT a) a b used)
 obtain⟨k,hk⟩:∃k,nT a=k+1:=⟨nT a - 1,by have:1<=nT a:=mL _;omega⟩
 have hs:DX m tag (nT a) a b used=if a.Op=6 then(if a.Args.length=0 then En []else sQ (DX m tag k) a b used (a.Args.length - 1) (a.Args.length - 1))else if Ev a=true then G8 m tag a b used else En []:=by rw[hk];rfl
 rw[hs]
 unfold ib
 by_cases h6:a.Op=6
 ·rw[vak (by simpa using h6),vak h6]
  by_cases h0:a.Args.length=0
  ·rw[vak (by simp[h0]),vak h0];rfl
  ·rw[van (by simpa using h0),van h0]
   have hc:∀i,i<a.Args.length->DX m tag (nT (rA a b used i)) (rA a b used i) (lA a b used i) (fJ a b used i).2.2=DX m tag k (rA a b used i) (lA a b used i) (fJ a b used i).2.2/\DX m tag (nT (lA a b used i)) (lA a b used i) (rA a b used i) (fJ a b used i).2.2=DX m tag k (lA a b used i) (rA a b used i) (fJ a b used i).2.2:=fun i hi=>by
    have hc:=h.child i hi
    exact⟨B4 tag _ _ _ _ _ _ hc.2.1 (vah _) (by omega),B4 tag _ _ _ _ _ _ hc.1 (vah _) (by omega)⟩
   rw[O0 (fun w a a2 used=>R (w,a,a2,used)) m tag (K:=2 * D+20) (rec:=DX m tag k) h (a.Args.length - 1) (by omega) (fun i hi=>by
    have hc:=h.child i hi
    exact⟨xn hm tag k _ _ _ _ hc.2.1 (by omega),xn hm tag k _ _ _ _ hc.1 (by omega)⟩) (by omega) (h.nB hm.D) (fun i hi=>by
    have hch:=h.child i hi
    have:=hc i hi
    exact⟨(ih (⟨m,tag⟩,rA a b used i,lA a b used i,(fJ a b used i).2.2) (by show nT (rA a b used i)<nT a;omega) ⟨rfl,_,hch.2.1⟩).trans (vbr some this.1),(ih (⟨m,tag⟩,lA a b used i,rA a b used i,(fJ a b used i).2.2) (by show nT (lA a b used i)<nT a;omega) ⟨rfl,_,hch.1⟩).trans (vbr some this.2)⟩)]
   rfl
 ·rw[van (by simpa using h6),van h6,Qt]
  simp only[vaa]
  cases hb:Ev a with
  |false=>rfl
  |true=>
   rw[van (by simp),vak rfl,UL m tag a b used (h.b hm)]
   rfl
theorem Z9{m:aQ}{D:Nat}(hm:ZY m D)(tag:Int){a b:ae}{used:List ag}{L:Nat}(h:Ch a b used L):2 * nC (Q2 m tag a b used)<=2 * bz/\nC (Q2 m tag a b used)<=(2 * D+20) * (cu a+cu b)+4 * (wT a+wT b):=by
 have h1:=xn hm tag (nT a) a b used L h (vah _)
 have h2:=h.nB hm.D
 unfold Iv at h1
 unfold Q2
 have h4:nB (2 * D+20) a b=(2 * D+20) * (cu a+cu b)+4 * (wT a+wT b):=rfl
 omega
theorem kD{α:Type}{l:List α}{i:Nat}{n most:Int}(h:i<l.length)(hm:n<=most):(if(decide ((i:Int)<(l.length:Int)))=true then some (decide (n<=most))else some false)=some true:=by
 rw[vak (by simp;omega),vbp hm]
theorem gX{α:Type}{l:List α}{i:Nat}{n most:Int}(h:i=l.length\/¬n<=most):(if(decide ((i:Int)<(l.length:Int)))=true then some (decide (n<=most))else some false)=some false:=by
 by_cases hi:i<l.length
 ·rw[vak (by simp;omega)]
  rcases h with h|h
  ·omega
  ·rw[decide_eq_false h]
 ·rw[van (by simp;omega)]
theorem Pc{α:Type}(l:List α)(hl:l.length<9223372036854775808){body:Int×Int->Option ((Int×Int)⊕Int)}(most:Int)(I:Nat->Int->Prop)
  (hin:∀(i:Nat) (h:i<l.length) n,I i n->n<=most->eO (body (n,(i:Int))) (fun r=>∃n',r=.inl (n',aR ((i:Int)+1))/\I (i+1) n'))
  (hout:∀(i:Nat) n,i<=l.length->(i=l.length\/¬n<=most)->body (n,(i:Int))=some (.inr n)) (n:Int) (h0:I 0 n):eO (loop body (n,0)) (fun r=>∃i,i<=l.length/\I i r/\(i=l.length\/¬r<=most)):=by
 have key:∀k i n,k+i=l.length->I i n->eO (loop body (n,(i:Int))) (fun r=>∃i,i<=l.length/\I i r/\(i=l.length\/¬r<=most)):=by
  intro k
  induction k with
  |zero=>
   intro i n hi hI
   rw[oK,hout i n (by omega) (.inl (by omega))]
   exact aj ⟨i,by omega,hI,.inl (by omega)⟩
  | succ k ih =>
   intro i n hi hI
   by_cases hm:n<=most
   ·obtain⟨r,e,n',rfl,hI'⟩:=hin i (by omega) n hI hm
    rw[oK,e]
    simp only
    rw[dB (by omega) (by omega),show((i:Int)+1)=((i+1:Nat):Int) by omega]
    exact ih (i+1) n' (by omega) hI'
   ·rw[oK,hout i n (by omega) (.inr hm)]
    exact aj ⟨i,by omega,hI,.inr hm⟩
 exact key l.length 0 n (by omega) h0
theorem WX(a b:Nat)(hb:0<b)(ha:a<9223372036854775808):qu .i64 (a:Int) (b:Int)=some ((a / b:Nat):Int):=by
 unfold qu
 rw[van (by omega)]
 have h:((a:Int).tdiv (b:Int))=((a / b:Nat):Int):=by
  rw[vb5 (by omega)];rfl
 rw[h]
 have h2:=vcx a b
 generalize a / b=q at *
 congr 1
 exact dB (by omega) (by omega)
theorem Bd(p:aa):fx (ac p)=1+(p.Name.length+1+(1+(bM (p.Kids.map ac)+1+0))):=by
 rw[aF];simp only[fx,pm,sl]
theorem M8{α:Type}(c:α->List PVal)(l:List α)(i:Nat)(h:i<l.length):bM ((l.take (i+1)).map c)=bM ((l.take i).map c)+fx (c l[i]):=by
 rw[vaS h,vbG]
 have:∀(a b:List (List PVal)),bM (a++b)=bM a+bM b:=by
  intro a
  induction a with
  |nil=>intro b;simp[bM]
  |cons x a ih=>intro b;rw[vaF,bM,ih,bM];omega
 rw[this]
 simp[bM]
theorem sJ{α:Type}(c:α->List PVal)(l:List α)(i:Nat):bM ((l.take i).map c)<=bM (l.map c):=by
 have:∀(l:List α) (i:Nat),bM ((l.take i).map c)<=bM (l.map c):=by
  intro l
  induction l with
  |nil=>intro i;simp
  |cons x l ih=>
   intro i
   cases i with
   |zero=>simp[bM]
   |succ i=>have:=ih i;simp only[List.take_succ_cons,vax,bM];omega
 exact this l i
theorem pN{α:Type}(c:α->List PVal)(h:∀x,1<=fx (c x)):∀(l:List α),l.length<=bM (l.map c)
 |[]=>by simp
 |x::l=>by have:=pN c h l;have:=h x;simp only[vax,bM,vaN];omega
theorem QC(p:aa):1<=fx (ac p):=by rw[Bd];omega
theorem Qn(l:List aa):nL (l.take l.length)=nL l:=by rw[vbn]
abbrev xy:Nat:=4000000
structure qba(l:List aa)(most r:Int):Prop where
 lo:0<=r
 hi:r<=(bM (l.map ac):Int)
 sm:r<=most->(nL l:Int)<=r
theorem Yg(l:List aa)(most:Int)(hl:bM (l.map ac)<=xy)(h1: -8000000<=most)(h2:most<=1000000000):eO (FQ l most) (qba l most):=by
 refine mU (F:=Ag) (fun x=>bM (x.1.map ac)) (fun x=>bM (x.1.map ac)<=xy/\-8000000<=x.2/\x.2<=1000000000) (fun x r=>qba x.1 x.2 r) (fun R x hx ih=>?_) (l,most) ⟨hl,h1,h2⟩ (f6 (vaI hl (by decide)))
 obtain⟨l,most⟩:=x
 obtain⟨hl,h1,h2⟩:=hx
 have hl:bM (l.map ac)<=xy:=hl
 have h1: -8000000<=most:=h1
 have h2:most<=1000000000:=h2
 have hlen:=pN ac QC l
 show eO (uH (fun a most=>R (a,most)) l most) _
 unfold uH xN
 unfold xy at hl
 refine au (Pc l (by omega) most (fun i n=>0<=n/\n<=(bM ((l.take i).map ac):Int)/\(n<=most->(nL (l.take i):Int)<=n)) (fun i hi n hI hm=>?_) (fun i n _ h=>?_) 0 ⟨by omega,by omega,fun _=>by simp[nL]⟩) (fun r hr=>aj ?_)
 ·obtain⟨g1,g2,g3⟩:=hI
  have e:=M8 ac l i hi
  have e2:=sJ ac l (i+1)
  have ep:=Bd l[i]
  have en:=EZ l i hi
  have enp:=M3 l[i]
  show eO (iF (fun a most=>R (a,most)) l most n i) _
  unfold iF sd
  rw[kD hi hm,bv l i hi]
  simp only[vaa,if_true]
  have hq:=vcx l[i].Name.length 50
  rw[show(50:Int)=((50:Nat):Int)from rfl,WX _ 50 (by omega) (by omega)]
  simp only[vaa]
  rw[dB (n:=n+1) (by omega) (by omega),dB (n:=n+1+_) (by omega) (by omega),dB (n:=most - _) (by omega) (by omega)]
  refine au (ih (l[i].Kids,most - (n+1+((l[i].Name.length / 50:Nat):Int))) (by show _<bM (l.map ac);show bM (l[i].Kids.map ac)<_;omega) ⟨by show bM (l[i].Kids.map ac)<=xy;unfold xy;omega,by show -8000000<=most - _;omega,by show most - _<=1000000000;omega⟩) (fun r hr=>?_)
  have q1:=hr.lo
  have q2:r<=(bM (l[i].Kids.map ac):Int):=hr.hi
  have q3:r<=most - (n+1+((l[i].Name.length / 50:Nat):Int))->(nL l[i].Kids:Int)<=r:=hr.sm
  rw[dB (n:=n+1+_+r) (by omega) (by omega)]
  refine aj ⟨_,rfl,by omega,by omega,fun hm'=>?_⟩
  have:=q3 (by omega)
  have:=g3 hm
  omega
 ·show iF (fun a most=>R (a,most)) l most n i=_
  unfold iF sd
  rw[gX h]
  rfl
 ·obtain⟨i,hi,⟨g1,g2,g3⟩,h⟩:=hr
  have e2:=sJ ac l i
  refine⟨g1,by show r<=(bM (l.map ac):Int);omega,fun hm=>?_⟩
  have hm:r<=most:=hm
  have:i=l.length:=by
   rcases h with h|h
   ·exact h
   ·exact absurd hm h
  subst this
  rw[Qn]at g3
  exact g3 hm
theorem R1(l:List ae)(i:Nat)(h:i<l.length):cM (l.take (i+1))=cM (l.take i)+cu l[i]:=by
 have ap:∀(a b:List ae),cM (a++b)=cM a+cM b:=by
  intro a
  induction a with
  |nil=>intro b;simp[cM]
  |cons x a ih=>intro b;rw[vaF,cM,ih,cM];omega
 rw[vaS h,ap]
 simp[cM]
theorem QG(t:ae):1<=fx (af t):=by rw[xh];omega
theorem Nc(t:ae):fx (af t)=1+(t.Name.length+1)+(bM (t.Args.map af)+1)+(bM (t.Names.map cS)+1)+fx (ac t.Pred)+(bM (t.Preds.map ac)+1):=by
 rw[xh,Bd];simp only[pm,sl];omega
structure qbb(l:List ae)(most r:Int):Prop where
 lo:0<=r
 hi:r<=(bM (l.map af):Int)
 sm:r<=most->(cM l:Int)<=r/\(sU l:Int)<=r
theorem Yz(l:List ae)(most:Int)(hl:bM (l.map af)<=xy)(h1: -8000000<=most)(h2:most<=1000000000):eO (BB l most) (qbb l most):=by
 refine mU (F:=Ah) (fun x=>bM (x.1.map af)) (fun x=>bM (x.1.map af)<=xy/\-8000000<=x.2/\x.2<=1000000000) (fun x r=>qbb x.1 x.2 r) (fun R x hx ih=>?_) (l,most) ⟨hl,h1,h2⟩ (f6 (vaI hl (by decide)))
 obtain⟨l,most⟩:=x
 obtain⟨hl,h1,h2⟩:=hx
 have hl:bM (l.map af)<=xy:=hl
 have h1: -8000000<=most:=h1
 have h2:most<=1000000000:=h2
 have hlen:=pN af QG l
 show eO (uI (fun a most=>R (a,most)) l most) _
 unfold uI xO
 unfold xy at hl
 refine au (Pc l (by omega) most (fun i n=>0<=n/\n<=(bM ((l.take i).map af):Int)/\(n<=most->(cM (l.take i):Int)<=n/\(sU (l.take i):Int)<=n)) (fun i hi n hI hm=>?_) (fun i n _ h=>?_) 0 ⟨by omega,by omega,fun _=>by simp[cM,sU]⟩) (fun r hr=>aj ?_)
 ·obtain⟨g1,g2,g3⟩:=hI
  have e:=M8 af l i hi
  have e2:=sJ af l (i+1)
  have ep:=Nc l[i]
  have epp:=Bd l[i].Pred
  have en:=R1 l i hi
  have en2:=Lc l i hi
  have enp:=qp l[i]
  have enp2:=uo l[i]
  have hns:=Qb l[i].Names
  have hps:=Y5 l[i].Preds
  have hpl:=DE l[i].Preds
  show eO (iG (fun a most=>R (a,most)) l most n i) _
  unfold iG sh
  rw[kD hi hm,bv l i hi]
  simp only[vaa,if_true]
  have hq:=vcx l[i].Name.length 50
  rw[show(50:Int)=((50:Nat):Int)from rfl,WX _ 50 (by omega) (by omega)]
  simp only[vaa]
  rw[dR (by simp;omega)]
  simp only[vaa]
  refine au (Yg ([l[i].Pred]++l[i].Preds) most (by unfold xy;simp only[List.singleton_append,vax,bM];omega) h1 h2) (fun rp hp=>?_)
  have p1:=hp.lo
  have p2:rp<=((fx (ac l[i].Pred)+bM (l[i].Preds.map ac):Nat):Int):=by
   have:=hp.hi
   simp only[List.singleton_append,vax,bM]at this
   exact this
  have p3:rp<=most->((nP l[i].Pred+nL l[i].Preds:Nat):Int)<=rp:=by
   have:=hp.sm
   simp only[List.singleton_append,nL]at this
   exact this
  rw[dB (n:=n+1) (by omega) (by omega),dB (n:=n+1+_) (by omega) (by omega),dB (n:=n+1+_+_) (by omega) (by omega),dB (n:=n+1+_+_+_) (by omega) (by omega),dB (n:=most - _) (by omega) (by omega)]
  refine au (ih (l[i].Args,most - (n+1+((l[i].Name.length / 50:Nat):Int)+(l[i].Names.length:Int)+rp)) (by show _<bM (l.map af);show bM (l[i].Args.map af)<_;omega) ⟨by show bM (l[i].Args.map af)<=xy;unfold xy;omega,by show -8000000<=most - _;omega,by show most - _<=1000000000;omega⟩) (fun r hr=>?_)
  have q1:=hr.lo
  have q2:r<=(bM (l[i].Args.map af):Int):=hr.hi
  have q3:r<=most - (n+1+((l[i].Name.length / 50:Nat):Int)+(l[i].Names.length:Int)+rp)->(cM l[i].Args:Int)<=r/\(sU l[i].Args:Int)<=r:=hr.sm
  rw[dB (n:=_+r) (by omega) (by omega)]
  refine aj ⟨_,rfl,by omega,by omega,fun hm'=>?_⟩
  have:=q3 (by omega)
  have:=p3 (by omega)
  have:=g3 hm
  have:=OS l[i].Pred
  omega
 ·show iG (fun a most=>R (a,most)) l most n i=_
  unfold iG sh
  rw[gX h]
  rfl
 ·obtain⟨i,hi,⟨g1,g2,g3⟩,h⟩:=hr
  have e2:=sJ af l i
  refine⟨g1,by show r<=(bM (l.map af):Int);omega,fun hm=>?_⟩
  have hm:r<=most:=hm
  have:i=l.length:=by
   rcases h with h|h
   ·exact h
   ·exact absurd hm h
  subst this
  rw[vbn]at g3
  exact g3 hm
theorem ZK(l:List ae)(most:Int)(hl:bM (l.map af)<=xy)(h1:0<=most)(h2:most<=1000000000):eO (Ea ⟨0,[],0,[],[],[],l⟩ most) (fun r=>0<=r/\(r<=most->(cM l:Int)<=r/\(sU l:Int)<=r)):=by
 unfold Ea
 refine mU (F:=C7) (fun _=>0) (fun x=>x=(⟨0,[],0,[],[],[],l⟩,most)) (fun _ r=>0<=r/\(r<=most->(cM l:Int)<=r/\(sU l:Int)<=r)) (fun R x hx ih=>?_) _ rfl (f6 (by decide))
 rw[hx]
 show eO (xM (fun a most=>R (a,most)) ⟨0,[],0,[],[],[],l⟩ most) _
 unfold xM
 refine ct (a:=0) (show qu .i64 0 50=some 0 by decide) ?_
 refine au (Yz l most hl (by omega) h2) (fun r hr=>?_)
 have q1:=hr.lo
 have q2:=hr.hi
 have q3:=hr.sm
 unfold xy at hl
 rw[dB (n:=1+0) (by omega) (by omega),dB (n:=1+0+r) (by omega) (by omega)]
 refine ct (a:=1+0+r) ?_ (ct (a:=1+0+r) ?_ (ct (a:=1+0+r) ?_ (aj ⟨by omega,fun h=>⟨by have:=(q3 (by omega)).1;omega,by have:=(q3 (by omega)).2;omega⟩⟩)))
 ·exact j2 rfl
 ·exact j2 rfl
 ·exact j2 rfl
theorem gD{α:Type}(l:List α)(hl:l.length<9223372036854775808){body:Int×Int->Option ((Int×Int)⊕Int)}(most:Int)
  (hin:∀(i:Nat) (h:i<l.length) n,n<=most->eO (body (n,(i:Int))) (fun r=>∃n',r=.inl (n',aR ((i:Int)+1))))
  (hout:∀(i:Nat) n,i<=l.length->(i=l.length\/¬n<=most)->body (n,(i:Int))=some (.inr n)) (n:Int):eO (loop body (n,0)) (fun _=>True):=
 (Pc l hl most (fun _ _=>True) (fun i h n _ hm=>(hin i h n hm).mono fun r ⟨n',e⟩=>⟨n',e,trivial⟩) hout n trivial).mono fun _ _=>trivial
theorem GM(k:IntKind)(a b:Int)(hb:b≠0):eO (qu k a b) (fun _=>True):=by
 unfold qu;rw[van hb];exact aj trivial
theorem yG(l:List aa)(most:Int)(hl:bM (l.map ac)<=xy):eO (ec l most) (fun _=>True):=by
 refine mU (F:=pz) (fun x=>bM (x.1.map ac)) (fun x=>bM (x.1.map ac)<=xy) (fun _ _=>True) (fun R x hx ih=>?_) (l,most) hl (f6 (vaI hl (by decide)))
 obtain⟨l,most⟩:=x
 have hl:bM (l.map ac)<=xy:=hx
 have hlen:=pN ac QC l
 show eO (lk (fun a most=>R (a,most)) l most) _
 unfold lk oe
 unfold xy at hl
 refine au (gD l (by omega) most (fun i hi n hm=>?_) (fun i n _ h=>?_) 0) (fun r _=>aj trivial)
 ·have e:=ua (vap.2 ⟨_,vat hi,rfl⟩:ac l[i]∈l.map ac)
  have ep:=Bd l[i]
  show eO (eC (fun a most=>R (a,most)) l most n i) _
  unfold eC j9
  rw[kD hi hm,bv l i hi]
  simp only[vaa,if_true]
  exact au (GM _ _ _ (by decide)) fun q _=>au (ih (l[i].Kids,_) (by show bM (l[i].Kids.map ac)<bM (l.map ac);omega) (by show bM (l[i].Kids.map ac)<=xy;unfold xy;omega)) fun r _=>aj ⟨_,rfl⟩
 ·show eC (fun a most=>R (a,most)) l most n i=_
  unfold eC j9
  rw[gX h]
  rfl
theorem O3(p:aa):bM ([p].map ac)=fx (ac p):=by simp[bM]
theorem B5(l:List ae)(most:Int)(hl:bM (l.map af)<=xy):eO (fg l most) (fun _=>True):=by
 refine mU (F:=pA) (fun x=>bM (x.1.map af)) (fun x=>bM (x.1.map af)<=xy) (fun _ _=>True) (fun R x hx ih=>?_) (l,most) hl (f6 (vaI hl (by decide)))
 obtain⟨l,most⟩:=x
 have hl:bM (l.map af)<=xy:=hx
 have hlen:=pN af QG l
 show eO (ll (fun a most=>R (a,most)) l most) _
 unfold ll og
 unfold xy at hl
 refine au (gD l (by omega) most (fun i hi n hm=>?_) (fun i n _ h=>?_) 0) (fun r _=>aj trivial)
 ·have e:=ua (vap.2 ⟨_,vat hi,rfl⟩:af l[i]∈l.map af)
  have ep:=Nc l[i]
  show eO (eD (fun a most=>R (a,most)) l most n i) _
  unfold eD ka
  rw[kD hi hm,bv l i hi]
  simp only[vaa,if_true]
  exact au (GM _ _ _ (by decide)) fun q _=>au (yG _ _ (by unfold xy;omega)) fun _ _=>au (yG _ _ (by rw[O3];unfold xy;omega)) fun _ _=>au (ih (l[i].Args,_) (by show bM (l[i].Args.map af)<bM (l.map af);omega) (by show bM (l[i].Args.map af)<=xy;unfold xy;omega)) fun r _=>aj ⟨_,rfl⟩
 ·show eD (fun a most=>R (a,most)) l most n i=_
  unfold eD ka
  rw[gX h]
  rfl
theorem E6(t:ae):bM ([t].map af)=fx (af t):=by simp[bM]
theorem QE(e:bL):fx (aP e)=1+(e.Name.length+1)+1+(bM (e.Kids.map aP)+1)+(bM (e.Params.map dv)+1)+(bM (e.Alts.map eI)+1)+(bM (e.Types.map af)+1):=by
 rw[dC];simp only[fx,pm,sl];omega
theorem Tp(a:rf):fx (eI a)=(a.Con.length+1)+(bM (a.Names.map cS)+1)+fx (aP a.Body):=by
 rw[qm,dC];simp only[fx,pm,sl];omega
theorem Nb(a:nF):fx (dv a)=(a.Name.length+1)+fx (af a.Type_):=by
 unfold dv;rw[dT];simp only[fx,pm]
theorem Gq(α:Type){c:α->List PVal}(h:∀x,1<=fx (c x)){l:List α}(hl:bM (l.map c)<=xy):l.length<9223372036854775808:=by
 have:=pN c h l
 unfold xy at hl;omega
theorem Gs{α:Type}{c:α->List PVal}{l:List α}{i:Nat}(h:i<l.length):fx (c l[i])<=bM (l.map c):=ua (vap.2 ⟨_,vat h,rfl⟩)
theorem Ya(e:bL)(most:Int)(he:fx (aP e)<=xy):eO (FV e most) (fun _=>True):=by
 refine mU (F:=Ai) (fun x=>fx (aP x.1)) (fun x=>fx (aP x.1)<=xy) (fun _ _=>True) (fun R x hx ih=>?_) (e,most) he (f6 (vaI he (by decide)))
 obtain⟨e,most⟩:=x
 have he:fx (aP e)<=xy:=hx
 have hp:=QE e
 show eO (uJ (fun a most=>R (a,most)) e most) _
 unfold uJ xP xQ xS
 refine au (GM _ _ _ (by decide)) fun q _=>au (B5 _ _ (by omega)) fun _ _=>au (gD e.Params (Gq _ (fun x=>by rw[Nb];omega) (c:=dv) (by omega)) most (fun i hi n hm=>?_) (fun i n _ h=>?_) _) fun _ _=>au (gD e.Kids (Gq _ (fun x=>by rw[QE];omega) (c:=aP) (by omega)) most (fun i hi n hm=>?_) (fun i n _ h=>?_) _) fun _ _=>au (gD e.Alts (Gq _ (fun x=>by rw[Tp];omega) (c:=eI) (by omega)) most (fun i hi n hm=>?_) (fun i n _ h=>?_) _) fun _ _=>aj trivial
 ·have:=Gs (c:=dv) hi
  have:=Nb e.Params[i]
  show eO (iH most e n i) _
  unfold iH sj
  rw[kD hi hm,bv _ i hi]
  simp only[vaa,if_true]
  exact au (GM _ _ _ (by decide)) fun q _=>au (B5 _ _ (by rw[E6];omega)) fun r _=>aj ⟨_,rfl⟩
 ·show iH most e n i=_
  unfold iH sj
  rw[gX h]
  rfl
 ·have:=Gs (c:=aP) hi
  show eO (iI (fun a most=>R (a,most)) most e n i) _
  unfold iI sk
  rw[kD hi hm,bv _ i hi]
  simp only[vaa,if_true]
  exact au (ih (e.Kids[i],_) (by show fx (aP e.Kids[i])<fx (aP e);omega) (by show fx (aP e.Kids[i])<=xy;omega)) fun r _=>aj ⟨_,rfl⟩
 ·show iI (fun a most=>R (a,most)) most e n i=_
  unfold iI sk
  rw[gX h]
  rfl
 ·have:=Gs (c:=eI) hi
  have:=Tp e.Alts[i]
  show eO (iJ (fun a most=>R (a,most)) most e n i) _
  unfold iJ sn
  rw[kD hi hm,bv _ i hi]
  simp only[vaa,if_true]
  exact au (ih (e.Alts[i].Body,_) (by show fx (aP e.Alts[i].Body)<fx (aP e);omega) (by show fx (aP e.Alts[i].Body)<=xy;omega)) fun r _=>aj ⟨_,rfl⟩
 ·show iJ (fun a most=>R (a,most)) most e n i=_
  unfold iJ sn
  rw[gX h]
  rfl
theorem M9(b:kY):fx (cD b)=(b.Name.length+1)+(bM (b.Vars.map bE)+1)+fx (ac b.Hyp)+fx (ac b.Goal):=by
 unfold cD;simp only[dT,fx,pm,sl];omega
theorem Yf(b:U4):(bM (b.Bounds.map cD)+1)+fx (af b.Type_)+(bM (b.Metric.map ac)+1)<=fx (yn b):=by
 unfold yn;simp only[dT,fx,pm,sl];omega
theorem Tr(b:pj):(b.Name.length+1)+fx (aP b.Body)+fx (yn b.Sig)<=fx (cT b):=by
 unfold cT;simp only[dT,fx,pm,sl];omega
theorem VT(l:List pj)(most:Int)(hl:bM (l.map cT)<=xy):eO (mt l most) (fun _=>True):=by
 unfold mt px
 refine au (gD l (Gq _ (fun x=>by have:=Tr x;omega) hl) most (fun i hi n hm=>?_) (fun i n _ h=>?_) _) fun _ _=>aj trivial
 ·have h1:=Gs (c:=cT) hi
  have h2:=Tr l[i]
  have h3:=Yf l[i].Sig
  show eO (eT l most n i) _
  unfold eT li py
  rw[kD hi hm,bv _ i hi]
  simp only[vaa,if_true]
  refine au (GM _ _ _ (by decide)) fun q _=>au (B5 _ _ (by rw[E6];omega)) fun r _=>au (yG _ _ (by omega)) fun _ _=>au (gD l[i].Sig.Bounds (Gq _ (fun x=>by rw[M9];omega) (c:=cD) (by omega)) most (fun k hk n hm=>?_) (fun k n _ h=>?_) _) fun _ _=>au (Ya _ _ (by omega)) fun _ _=>aj ⟨_,rfl⟩
  ·have h4:=Gs (c:=cD) hk
   have h5:=M9 l[i].Sig.Bounds[k]
   show eO (eU most l[i].Sig.Bounds n k) _
   unfold eU lj
   rw[kD hk hm,bv _ k hk]
   simp only[vaa,if_true]
   exact au (yG _ _ (by simp only[vax,vbU,bM];omega)) fun _ _=>aj ⟨_,rfl⟩
  ·show eU most l[i].Sig.Bounds n k=_
   unfold eU lj
   rw[gX h]
   rfl
 ·show eT l most n i=_
  unfold eT li
  rw[gX h]
  rfl
theorem KS(m:aQ):fx (aC m)=(bM (m.Datas.map co)+1)+(bM (m.Classes.map eP)+1)+(bM (m.Instances.map bP)+1)+(bM (m.Measures.map cG)+1)+(bM (m.Quals.map eM)+1)+(bM (m.Defs.map cT)+1):=by
 unfold aC;simp only[fx,pm,sl];omega
theorem E7(b:eS):fx (co b)=(b.Name.length+1)+(bM (b.Vars.map cS)+1)+(bM (b.Preds.map bE)+1)+(bM (b.Cons.map ef)+1):=by
 unfold co;simp only[dT,fx,pm,sl];omega
theorem Tq(b:iu):fx (ef b)=(b.Name.length+1)+(bM (b.Names.map cS)+1)+(bM (b.Fields.map af)+1):=by
 unfold ef;simp only[dT,fx,pm,sl];omega
theorem Na(b:pd):fx (eP b)=(b.Name.length+1)+(b.Var.length+1)+(bM (b.Methods.map dF)+1):=by
 unfold eP;simp only[dT,fx,pm,sl];omega
theorem KR(b:qz):fx (dF b)=(b.Name.length+1)+fx (af b.Type_):=by
 unfold dF;simp only[dT,fx,pm,sl]
theorem E8(b:dI):1+fx (af b.Type_)+(bM (b.Defs.map cT)+1)<=fx (bP b):=by
 unfold bP;simp only[dT,fx,pm,sl];omega
theorem Hq(b:f0):1+(bM (b.Cases.map fa)+1)+fx (ac b.Inv)<=fx (cG b):=by
 unfold cG;simp only[dT,fx,pm,sl];omega
theorem QD(b:y9):1+fx (ac b.Body)<=fx (fa b):=by
 unfold fa;simp only[dT,fx,pm,sl];omega
theorem QF(b:rY):1+fx (ac b.Body)<=fx (eM b):=by
 unfold eM;simp only[dT,fx,pm,sl];omega
theorem Yt(m:aQ)(hm:fx (aC m)<=xy):eO (wF m) (fun _=>True):=by
 have hp:=KS m
 unfold wF
 refine au (R:=fun _=>True) ?_ fun o _=>aJ (fun _=>aj trivial) fun _=>?_
 ·unfold xT
  exact aJ (fun _=>aj trivial) fun _=>aJ (fun _=>aj trivial) fun _=>aJ (fun _=>aj trivial) fun _=>aJ (fun _=>aj trivial) fun _=>aJ (fun _=>aj trivial) fun _=>aj trivial
 unfold xU xW vQ vR vU
 refine au (VT _ _ (by omega)) fun _ _=>au (gD m.Datas (Gq _ (fun x=>by rw[E7];omega) (c:=co) (by omega)) 4000 (fun i hi n hn=>?_) (fun i n hi h=>?_) _) fun _ _=>au (gD m.Classes (Gq _ (fun x=>by rw[Na];omega) (c:=eP) (by omega)) 4000 (fun i hi n hn=>?_) (fun i n hi h=>?_) _) fun _ _=>au (gD m.Instances (Gq _ (fun x=>by have:=E8 x;omega) (c:=bP) (by omega)) 4000 (fun i hi n hn=>?_) (fun i n hi h=>?_) _) fun _ _=>au (gD m.Measures (Gq _ (fun x=>by have:=Hq x;omega) (c:=cG) (by omega)) 4000 (fun i hi n hn=>?_) (fun i n hi h=>?_) _) fun _ _=>au (gD m.Quals (Gq _ (fun x=>by have:=QF x;omega) (c:=eM) (by omega)) 4000 (fun i hi n hn=>?_) (fun i n hi h=>?_) _) fun _ _=>aj trivial
 ·have h1:=Gs (c:=co) hi
  have h2:=E7 m.Datas[i]
  show eO (iK m n i) _
  unfold iK sq xV
  rw[kD hi hn,bv _ i hi]
  simp only[vaa,if_true]
  refine au (GM _ _ _ (by decide)) fun q _=>au (gD m.Datas[i].Cons (Gq _ (fun x=>by rw[Tq];omega) (c:=ef) (by omega)) 4000 (fun k hk n hn=>?_) (fun k n _ h=>?_) _) fun _ _=>aj ⟨_,rfl⟩
  ·have h3:=Gs (c:=ef) hk
   have h4:=Tq m.Datas[i].Cons[k]
   show eO (iL m i n k) _
   unfold iL su
   rw[bv _ i hi]
   simp only[vaa]
   rw[kD hk hn,bv _ k hk]
   simp only[vaa,if_true]
   exact au (B5 _ _ (by omega)) fun _ _=>aj ⟨_,rfl⟩
  ·show iL m i n k=_
   unfold iL su
   rw[bv _ i hi]
   simp only[vaa]
   rw[gX h]
   rfl
 ·show iK m n i=_
  unfold iK sq
  rw[gX h]
  rfl
 ·have h1:=Gs (c:=eP) hi
  have h2:=Na m.Classes[i]
  show eO (iM m n i) _
  unfold iM sw xX
  rw[kD hi hn]
  simp only[vaa,if_true]
  refine au (gD m.Classes[i].Methods (Gq _ (fun x=>by rw[KR];omega) (c:=dF) (by omega)) 4000 (fun k hk n hn=>?_) (fun k n _ h=>?_) _) fun _ _=>aj ⟨_,rfl⟩
  ·have h3:=Gs (c:=dF) hk
   have h4:=KR m.Classes[i].Methods[k]
   show eO (iN m i n k) _
   unfold iN sA
   rw[bv _ i hi]
   simp only[vaa]
   rw[kD hk hn,bv _ k hk]
   simp only[vaa,if_true]
   exact au (B5 _ _ (by rw[E6];omega)) fun _ _=>aj ⟨_,rfl⟩
  ·show iN m i n k=_
   unfold iN sA
   rw[bv _ i hi]
   simp only[vaa]
   rw[gX h]
   rfl
 ·show iM m n i=_
  unfold iM sw
  rw[gX h]
  rfl
 ·have h1:=Gs (c:=bP) hi
  have h2:=E8 m.Instances[i]
  show eO (gK m n i) _
  unfold gK qe
  rw[kD hi hn,bv _ i hi]
  simp only[vaa,if_true]
  exact au (B5 _ _ (by rw[E6];omega)) fun _ _=>au (VT _ _ (by omega)) fun _ _=>aj ⟨_,rfl⟩
 ·show gK m n i=_
  unfold gK qe
  rw[gX h]
  rfl
 ·have h1:=Gs (c:=cG) hi
  have h2:=Hq m.Measures[i]
  show eO (gL m n i) _
  unfold gL qf vS
  rw[kD hi hn,bv _ i hi]
  simp only[vaa,if_true]
  refine au (yG _ _ (by rw[O3];omega)) fun _ _=>au (gD m.Measures[i].Cases (Gq _ (fun x=>by have:=QD x;omega) (c:=fa) (by omega)) 4000 (fun k hk n hn=>?_) (fun k n _ h=>?_) _) fun _ _=>aj ⟨_,rfl⟩
  ·have h3:=Gs (c:=fa) hk
   have h4:=QD m.Measures[i].Cases[k]
   show eO (gM m i n k) _
   unfold gM qg
   rw[bv _ i hi]
   simp only[vaa]
   rw[kD hk hn,bv _ k hk]
   simp only[vaa,if_true]
   exact au (yG _ _ (by rw[O3];omega)) fun _ _=>aj ⟨_,rfl⟩
  ·show gM m i n k=_
   unfold gM qg
   rw[bv _ i hi]
   simp only[vaa]
   rw[gX h]
   rfl
 ·show gL m n i=_
  unfold gL qf
  rw[gX h]
  rfl
 ·have h1:=Gs (c:=eM) hi
  have h2:=QF m.Quals[i]
  show eO (gN m n i) _
  unfold gN qh
  rw[kD hi hn,bv _ i hi]
  simp only[vaa,if_true]
  exact au (yG _ _ (by rw[O3];omega)) fun _ _=>aj ⟨_,rfl⟩
 ·show gN m n i=_
  unfold gN qh
  rw[gX h]
  rfl
theorem Dj:wI=some true:=by kernel_rfl
theorem TA(t:ae)(h:fx (af t)<=1048576):eO (pB t) (fun r=>(!r)=true\/(cu t<=160/\wT t<=160)):=by
 unfold pB
 refine au (ZK [t] 150 (by rw[E6];unfold xy;omega) (by omega) (by omega)) fun r hr=>aj ?_
 by_cases hc:r<=150
 ·have h1:=hr.2 hc
  simp only[cM,sU]at h1
  exact .inr ⟨by omega,by omega⟩
 ·exact .inl (by simp;omega)
theorem qbp(l:List ag)(h:l.length<9223372036854775808):eO (El l) (fun _=>True):=by
 unfold El Dg
 refine au (xt l h (fun i (_:Unit)=>i) (fun _ _=>True) (Q:=fun _=>True) (fun i hi s _=>?_) (fun s _=>?_) () trivial) fun o _=>by cases o<;>exact aj trivial
 ·show eO (lr l (i:Int)) _
  unfold lr Df
  rw[vak (by simp;omega)]
  refine au (R:=fun _=>True) (aJ (fun _=>aj trivial) fun _=>ct (bv l i hi) (aj trivial)) fun o _=>aJ (fun _=>aj trivial) fun _=>aj ⟨(),rfl,trivial⟩
 ·show eO (lr l (l.length:Int)) _
  unfold lr
  rw[van (by simp)]
  exact aj trivial
theorem Ym(x:aD)(ha:cu x.A<=bz)(hb:cu x.B<=bz)(pa:Di (fun p=>nP p<=bz) x.A)(pb:Di (fun p=>nP p<=bz) x.B):eO (wJ x) (fun r=>(!r)=true\/(zd x.A/\zd x.B)):=by
 unfold wJ
 refine au (I1 x.A ha pa) fun r hr=>aJ (fun h=>?_) (fun _=>aj (.inl rfl))
 refine au (I1 x.B hb pb) fun r' hr'=>aj ?_
 by_cases h':r'=0
 ·exact .inr ⟨hr (by simpa using h),hr' (by simpa using h')⟩
 ·exact .inl (by simpa using h')
structure V6(m:aQ)(x:aD)(used:List ag):Prop where
 la:cu x.A<=160
 lb:cu x.B<=160
 wa:wT x.A<=160
 wb:wT x.B<=160
 ea:zd x.A
 eb:zd x.B
theorem O2(x:aD):fx (ay x)=fx (af x.A)+fx (af x.B)+1:=by
 unfold ay;simp only[dT,fx,pm];omega
abbrev XR(m:aQ)(x:aD)(used:List ag):Prop:=fx (aC m)+(fx (ay x)+(pm (sl cS used)+0))<=1048576
theorem Vy{t:ae}(h:fx (af t)<=1048576):cu t<=bz/\Di (fun p=>nP p<=bz) t:=⟨by have:=Ta t;unfold bz;omega,Mx (fun p hp=>vaI hp (by decide)) t (SI 1048576 t h)⟩
theorem XV(m:aQ)(x:aD)(used:List ag)(h:XR m x used):eO (lF used m x) (fun o=>o=true\/V6 m x used):=by
 have hp:=O2 x
 have hl:=Qb used
 have hu:pm (sl cS used)=bM (used.map cS)+1:=by simp only[pm,sl]
 unfold XR at h
 have ga:=Vy (t:=x.A) (by omega)
 have gb:=Vy (t:=x.B) (by omega)
 unfold lF
 refine au (Yt m (by unfold xy;omega)) fun _ _=>aJ (fun _=>aj (.inl rfl)) fun _=>au (TA x.A (by omega)) fun r1 h1=>aJ (fun _=>aj (.inl rfl)) fun n1=>au (TA x.B (by omega)) fun r2 h2=>aJ (fun _=>aj (.inl rfl)) fun n2=>au (qbp used (by omega)) fun _ _=>aJ (fun _=>aj (.inl rfl)) fun _=>au (Ym x ga.1 gb.1 ga.2 gb.2) fun r3 h3=>aj ?_
 have h1:=h1.resolve_left n1
 have h2:=h2.resolve_left n2
 rcases h3 with h3|h3
 ·exact .inl h3
 ·exact .inr ⟨h1.1,h2.1,h1.2,h2.2,h3.1,h3.2⟩
theorem V6.f{m:aQ}{x:aD}{used:List ag}(h:V6 m x used)(hf:XR m x used)(hs:xl x.A x.B=true):Ch x.A x.B used 1048576/\Ch x.B x.A used 1048576:=by
 have hp:=O2 x
 have hl:=Qb used
 have hu:pm (sl cS used)=bM (used.map cS)+1:=by simp only[pm,sl]
 unfold XR at hf
 have n1:=Tf x.A
 have n2:=Tf x.B
 have:=h.la;have:=h.lb
 have e:=(Tw _ _).1 hs
 exact⟨⟨e,h.la,h.lb,h.wa,h.wb,Eo _ _ (by omega),Eo _ _ (by omega),by omega,by omega,h.ea,h.eb⟩,⟨e.symm,h.lb,h.la,h.wb,h.wa,Eo _ _ (by omega),Eo _ _ (by omega),by omega,by omega,h.eb,h.ea⟩⟩
theorem KQ{α:Type}(c:α->List PVal)(h:∀x,2<=fx (c x)):∀(l:List α),2 * l.length<=bM (l.map c)
 |[]=>by simp
 |x::l=>by have:=KQ c h l;have:=h x;simp only[vax,bM,vaN];omega
theorem ZZ{m:aQ}(h:fx (aC m)<=1048576):ZY m 524288:=by
 have hp:=KS m
 have hd:=pN co (fun x=>by rw[E7];omega) m.Datas
 refine⟨by omega,fun d hd'=>?_,by decide⟩
 have h1:=ua (vap.2 ⟨d,hd',rfl⟩:co d∈m.Datas.map co)
 have h2:=E7 d
 have h3:=KQ bE (fun x=>by unfold bE;simp only[fx,pm];omega) d.Preds
 omega
theorem X9{m:aQ}{a b:ae}{used:List ag}{L D:Nat}(hm:ZY m D)(tag:Int)(hl:cu a<=bz)(h:xl a b=true->Ch a b used L):kW m a b tag used=some (if xl a b=true then(Q2 m tag a b used,0)else(Zf,12)):=by
 unfold kW
 rw[UX a b hl]
 simp only[vaa]
 cases hs:xl a b with
 |false=>rfl
 |true=>
  rw[van (by simp),WT hm tag (h hs)]
  rfl
end Go.Proofs.YtbaamopmfmpfaaaGreatDoor
