/- PROVED: parts of the proof (Ck3 In2 Ps1 Su1 Su2 Su3). Conditions: none. -/
import Derived.Test.YtbaamopmfmpfaaaGreatDoorPkA30
noncomputable section
namespace Go.Proofs.YtbaamopmfmpfaaaGreatDoor
open Go
set_option linter.unusedVariables false
set_option linter.unusedSimpArgs false
theorem Qz{α σ τ X:Type}(l:List α)(hl:l.length<9223372036854775808)(mk:Int->σ->τ)(body:τ->Option (τ⊕X))(I:Nat->σ->Prop)(g:Nat->α->σ->σ)(e:σ->X)(s0:σ)(h0:I 0 s0)
  (hin:∀(i:Nat) (h:i<l.length) s,I i s->body (mk (i:Int) s)=some (.inl (mk (aR ((i:Int)+1)) (g i l[i] s)))/\I (i+1) (g i l[i] s)) (hend:∀s,I l.length s->body (mk (l.length:Int) s)=some (.inr (e s))):loop body (mk 0 s0)=some (e (ru g l 0 s0)):=by
 have:=kP l hl mk body I (fun i x s=>.inl (g i x s)) e (fun i h s hs=>⟨(hin i h s hs).1,fun s' hs'=>by cases hs';exact(hin i h s hs).2⟩) hend 0 s0 (vaN _) h0
 rw[vaV,show((0:Nat):Int)=0 from rfl]at this
 rw[this]
 have key:∀(l:List α) (i:Nat) (s:σ),mV (fun i x (s:σ)=>(Sum.inl (g i x s):σ⊕X)) e l i s=e (ru g l i s):=by
  intro l
  induction l with
  |nil=>intro i s;rfl
  |cons x l ih=>intro i s;unfold mV;simp only;rw[ih];rfl
 rw[key]
mutual
def vw:ae->ae
 |⟨o,n,xs,_,_,_⟩=>⟨o,n,Fc xs,[],gQ,[]⟩
def Fc:List ae->List ae
 |[]=>[]
 |t::l=>vw t::Fc l
end
theorem Xu:∀(l:List ae),Fc l=l.map vw
 |[]=>by rw[Fc];rfl
 |t::l=>by rw[Fc,Xu l];rfl
theorem Iu(t:ae):vw t=⟨t.Op,t.Name,t.Args.map vw,[],gQ,[]⟩:=by obtain⟨o,n,xs,ns,p,ps⟩:=t;rw[vw,Xu];rfl
theorem TC(t:ae)(h:cn t<=bq):zf t=some (vw t):=by
 refine eP (F:=Ah) cn (fun t=>cn t<=bq) vw (fun R t ht ih=>?_) t h (ed h)
 show tQ (fun t=>R t) t=some (vw t)
 unfold tQ ye
 have h1:=fA t
 unfold bq at ht
 rw[qk t.Args (by omega) (fun i s=>(i,s)) _ R vw id (fun i s=>rfl) (fun x hx=>ih x (gy hx) (by have:=gy hx;unfold bq;omega)),Iu]
 rfl
theorem qbN(t:ae)(h:cn t<=bq):KV t=some (vw t):=by
 refine eP (F:=DX) cn (fun t=>cn t<=bq) vw (fun R t ht ih=>?_) t h (ed h)
 show yF (fun t=>R t) t=some (vw t)
 unfold yF Bx
 have h1:=fA t
 unfold bq at ht
 rw[qk t.Args (by omega) (fun i s=>(i,s)) _ R vw id (fun i s=>rfl) (fun x hx=>ih x (gy hx) (by have:=gy hx;unfold bq;omega)),Iu]
 rfl
def Fu(t:ae):ag×Bool:=(Gm t).getD ([],false)
theorem Q0(t:ae):Gm t=some (Fu t):=by
 unfold Fu Gm
 by_cases h1:(t.Op==1)=true
 ·rw[vad h1];rfl
 ·rw [vae h1]
  by_cases h2:(t.Op==2)=true
  ·rw[vad h2];rfl
  ·rw [vae h2]
   by_cases h3:(t.Op==3)=true
   ·rw[vad h3];rfl
   ·rw[vae h3]
    by_cases h4:(t.Op==4)=true
    ·rw[vad h4]
     by_cases h5:((t.Args.length:Int)==0)=true
     ·rw[vad h5];rfl
     ·rw[vae h5];rfl
    ·rw[vae h4];rfl
theorem qdU(t:ae):Ye t=some (Fu t):=by
 rw[<-Q0];rfl
def WG(t:ae)(q:aa):aa:=if t.Op=6\/t.Pred=gQ then qr else GM (MB [118] q) t.Pred
theorem Y4(t:ae)(q:aa)(h:nP t.Pred<=bq)(hq:nP q<=bq):te t q=some (WG t q):=by
 unfold te Ae CJ WG
 by_cases h6:t.Op=6
 ·rw[vad (by simpa using h6),vad (.inl h6)];rfl
 ·rw[vae (by simpa using h6),show jZ t.Pred (⟨0,[],0,[]⟩:aa)=some (decide (t.Pred=gQ))from Kz t.Pred gQ h]
  simp only[vaa]
  by_cases hz:t.Pred=gQ
  ·rw[vad (by simpa using hz),vad (.inr hz)];rfl
  ·rw[vae (by simpa using hz),vae (by simp[h6,hz]),TF _ _ _ h hq];rfl
theorem qdO(t:ae)(q:aa)(h:nP t.Pred<=bq):Pm t q=some (WG t q):=by
 unfold Pm Li WG
 by_cases h6:t.Op=6
 ·rw[vad (by simpa using h6),vad (.inl h6)];rfl
 ·rw[vae (by simpa using h6),L9]
  simp only[vaa]
  by_cases hz:t.Pred=gQ
  ·rw[vad (by simpa using hz),vad (.inr hz)];rfl
  ·rw[vae (by simpa using hz),vae (by simp[h6,hz]),TL _ _ _ h];rfl
theorem qak(f:ag->Option aa)(hf:∀n q,f n=some q->nP q=1):∀(p:aa),nP (GM f p)<=nP p:=fun p=>by
 have:=qf0 f 1 (vah 1) (fun n q h=>by rw[hf n q h];exact vah 1) p
 omega
theorem TI{v x n:ag}{q:aa}(h:MB v (lN x) n=some q):nP q=1:=by
 unfold MB at h
 split at h
 ·cases h;rfl
 ·cases h
theorem qck(t:ae)(x:ag):nP (WG t (lN x))<=nP t.Pred:=by
 unfold WG
 split
 ·rename_i h
  have:=Vq t.Pred
  show 1<=_
  omega
 ·exact qak _ (fun n q h=>TI h) _
def iA(m:aH)(name:ag):d8×Bool:=(m.Datas.find? (fun d=>d.Name==name)).elim (⟨[],[],[],[]⟩,false) (fun d=>(d,true))
abbrev T4:Type:=ag×List ag×List cG×List ee
theorem LA{α β:Type}(p:α->Bool)(f:α->β):∀(l:List α),l.findSome? (fun x=>if p x=true then some (f x)else none)=(l.find? p).map f
 |[]=>rfl
 |x::l=>by
  rw[List.findSome?_cons,List.find?_cons]
  cases h:p x with
  |true=>rfl
  |false=>simpa using LA p f l
theorem qdt(m:aH)(name:ag)(h1:m.Datas.length<9223372036854775808):zd m name=some (iA m name):=by
 unfold zd yc iA
 have:=Qx m.Datas h1 (fun i=>(i,[],[],[],[])) (fun(zz:Int×ag×(List ag)×(List cG)×(List ee))=>fN name m.Datas (m.Datas.length:Int) zz.1 zz.2.1 zz.2.2.1 zz.2.2.2.1 zz.2.2.2.2)
  (fun d=>if(d.Name==name)=true then some (Sum.inl (d.Name,d.Vars,d.Preds,d.Cons):T4⊕T4)else none) (.inr ([],[],[],[])) (fun i hi=>?_) ?_
 ·rw[this]
  simp only[vaa]
  rw[show m.Datas.findSome? (fun d=>if(d.Name==name)=true then some (Sum.inl (d.Name,d.Vars,d.Preds,d.Cons):T4⊕T4)else none)=_ from LA (fun d:d8=>d.Name==name) (fun d=>(Sum.inl (d.Name,d.Vars,d.Preds,d.Cons):T4⊕T4)) m.Datas]
  cases m.Datas.find? (fun d=>d.Name==name)<;>rfl
 ·show fN name m.Datas (m.Datas.length:Int) (i:Int) [] [] [] []=_
  unfold fN
  rw[vad (by simp;omega),bo _ i hi]
  simp only[vaa]
  by_cases hn:(m.Datas[i].Name==name)=true<;>simp[hn]
 ·show fN name m.Datas (m.Datas.length:Int) (m.Datas.length:Int) [] [] [] []=_
  unfold fN
  rw[vae (by simp)]
theorem qdP(m:aH)(name:ag)(h1:m.Datas.length<9223372036854775808):I2 m name=some (iA m name):=by
 unfold I2 D9 iA
 have:=Qx m.Datas h1 (fun i=>(i,[],[],[],[])) (fun(zz:Int×ag×(List ag)×(List cG)×(List ee))=>jd name m zz.1 zz.2.1 zz.2.2.1 zz.2.2.2.1 zz.2.2.2.2)
  (fun d=>if(d.Name==name)=true then some (Sum.inl (d.Name,d.Vars,d.Preds,d.Cons):T4⊕T4)else none) (.inr ([],[],[],[])) (fun i hi=>?_) ?_
 ·rw[this]
  simp only[vaa]
  rw[show m.Datas.findSome? (fun d=>if(d.Name==name)=true then some (Sum.inl (d.Name,d.Vars,d.Preds,d.Cons):T4⊕T4)else none)=_ from LA (fun d:d8=>d.Name==name) (fun d=>(Sum.inl (d.Name,d.Vars,d.Preds,d.Cons):T4⊕T4)) m.Datas]
  cases m.Datas.find? (fun d=>d.Name==name)<;>rfl
 ·show jd name m (i:Int) [] [] [] []=_
  unfold jd
  rw[vad (by simp;omega),bo _ i hi]
  simp only[vaa]
  by_cases hn:(m.Datas[i].Name==name)=true<;>simp[hn]
 ·show jd name m (m.Datas.length:Int) [] [] [] []=_
  unfold jd
  rw[vae (by simp)]
theorem H9(m:aH)(name:ag)(B:Nat)(h:∀d∈m.Datas,d.Preds.length<=B):(iA m name).1.Preds.length<=B:=by
 unfold iA
 cases hf:m.Datas.find? (fun d=>d.Name==name)with
 |none=>exact vaN _
 |some d=>exact h d (vbl hf)
theorem qbF(a b:ae)(ht:cn a<=bq):IL a b=some (pu a b):=by
 refine eP (F:=CR) (fun x=>cn x.1) (fun x=>cn x.1<=bq) (fun x=>pu x.1 x.2) (fun R x hx ih=>?_) (a,b) ht (ed ht)
 obtain⟨a,b⟩:=x
 have hl:cn a<=bq:=hx
 show wl (fun a a2=>R (a,a2)) a b=some (pu a b)
 unfold wl Ai Aj
 have h1:=fA a
 rw[qai]
 by_cases e1:a.Op=b.Op
 ·by_cases e2:a.Name=b.Name
  ·by_cases e3:a.Args.length=b.Args.length
   ·rw[vae (by simp[e1]),vae (by simp[e2])]
    simp only[vaa]
    rw[vae (by simp[e3]),Tq (X:=Unit⊕Unit) e3 (by unfold bq at hl;omega) (fun zz=>vg (fun a a2=>R (a,a2)) a b (a.Args.length:Int) zz) (fun i y z=>(R (y,z)).bind fun r11=>if(!r11)=true then some (.inr (.inl ()))else some (.inl (aR (i+1)))) pu (.inl ()) (.inr ()) (fun i=>rfl) (fun y hy z hz i=>by
     have he:=ih (y,z) (gy hy) (by have:=gy hy;show cn y<=bq;omega)
     rw[he]
     show(if(!pu y z)=true then _ else _)=_
     cases pu y z<;>rfl)]
    simp only[vaa,e1,e2,decide_true,Bool.true_and]
    cases Da pu a.Args b.Args<;>rfl
   ·rw[vae (by simp[e1]),vae (by simp[e2])]
    simp only[vaa]
    rw[vad (by simp;omega),Zr e3]
    simp
  ·rw[vae (by simp[e1]),vad (by simp[e2])]
   simp[e2]
 ·rw[vad (by simp[e1])]
  simp[e1]
theorem qih(o:Int)(ns:List ag)(i:Nat)(s:S3):(CW o ns i s).2.2.length=s.2.2.length:=by
 unfold CW
 split
 ·split
  ·simp only[vbq]
  ·rfl
 ·rfl
mutual
theorem ZY:∀(t:ae) (c:Sb),cn (AC t c)=cn t
 |⟨o,n,xs,ns,p,ps⟩,c=>by
  obtain⟨h1,h2⟩:=ZW o ns xs 0 (((kB c).flatMap d7++freeT ⟨o,n,xs,ns,p,ps⟩)++ns,c,ns)
  rw[AC,cn,cn,h1,h2,vaF]
theorem ZW(o:Int)(ns:List ag):∀(xs:List ae) (i:Nat) (s:S3),dv (NL o ns i xs s).1=dv xs/\(NL o ns i xs s).2.length=s.2.2.length
 |[],i,s=>by rw[NL];exact⟨rfl,rfl⟩
 | a :: xs,i,s => by
  have h1:=ZY a s.2.1
  obtain⟨h2,h3⟩:=ZW o ns xs (i+1) (CW o ns i s)
  rw[NL]
  refine⟨?_,?_⟩
  ·show dv (AC a s.2.1::(NL o ns (i+1) xs (CW o ns i s)).1)=_
   rw[dv,dv,h1,h2]
  ·show(NL o ns (i+1) xs (CW o ns i s)).2.length=_
   rw[h3,qih]
end
def SM(c:Sb):Prop:=∀e∈c,nP e.2=1
theorem TT{c:Sb}(h:SM c)(x:ag):SM (cY x c):=fun e he=>h e (vaR.1 he).1
theorem qbU{c:Sb}(h:SM c)(x y:ag):SM (c++[(x,lN y)]):=fun e he=>by
 rcases vaE.1 he with he|he
 ·exact h e he
 ·rw[va3.1 he];exact E3 y
theorem qd1(o:Int)(ns:List ag)(i:Nat)(s:S3)(h:SM s.2.1):SM (CW o ns i s).2.1:=by
 unfold CW
 split
 ·split
  ·exact qbU (TT h _) _ _
  ·exact TT h _
 ·exact h
theorem TU{c:Sb}(h:SM c){n:ag}{q:aa}(hq:ph (kN c) (kB c) n=some q):nP q=1:=by
 have:=qc7 hq
 obtain⟨e,he,rfl⟩:=vaq.1 this
 exact h e he
mutual
theorem XW(f:ag->Option aa)(hf:∀n q,f n=some q->nP q=1):∀(p:aa),(∀q,nP q=1->True)->nP (GM f p)<=nP p
 | ⟨o,n,k,ks⟩,hh => by
  have:=Rb f hf ks
  rw[GM]
  cases h:(if o=3 then f n else none)with
  |none=>simp only[Option.getD_none];rw[nP,nP];omega
  | some q =>
   simp only[Option.getD_some]
   have h2:f n=some q:=by
    split at h
    ·exact h
    ·cases h
   rw[hf n q h2,nP];omega
theorem Rb(f:ag->Option aa)(hf:∀n q,f n=some q->nP q=1):∀(l:List aa),nL (qaj f l)<=nL l
 |[]=>by rw[qaj];omega
 |p::l=>by
  have:=XW f hf p (fun _ _=>trivial)
  have:=Rb f hf l
  rw[qaj,nL,nL];omega
end
mutual
theorem qf7:∀(t:ae) (c:Sb),SM c->wT (AC t c)<=wT t
 |⟨o,n,xs,ns,p,ps⟩,c,h=>by
  have h1:=qf6 o ns xs 0 (((kB c).flatMap d7++freeT ⟨o,n,xs,ns,p,ps⟩)++ns,c,ns) h
  have h2:=XW (ph (kN c) (kB c)) (fun _ _ hq=>TU h hq) p (fun _ _=>trivial)
  have h3:=Rb (ph (kN c) (kB c)) (fun _ _ hq=>TU h hq) ps
  rw[VM]at h3
  rw[AC,wT,wT]
  omega
theorem qf6(o:Int)(ns:List ag):∀(xs:List ae) (i:Nat) (s:S3),SM s.2.1->uA (NL o ns i xs s).1<=uA xs
 |[],i,s,_=>by rw[NL];exact vah _
 |a::xs,i,s,h=>by
  have h1:=qf7 a s.2.1 h
  have h2:=qf6 o ns xs (i+1) (CW o ns i s) (qd1 o ns i s h)
  rw[NL]
  show uA (AC a s.2.1::(NL o ns (i+1) xs (CW o ns i s)).1)<=_
  rw[uA,uA];omega
end
theorem qaN{L:Nat}(o:Int)(ns:List ag)(i:Nat)(s:S3)(h:∀x∈ns,x.length<=L)(hw:∀x∈s.2.2,x.length<=L+10):∀x∈(CW o ns i s).2.2,x.length<=L+10:=by
 unfold CW
 split
 ·rename_i hc
  split
  ·intro x hx
   rcases vcj hx with hx|hx
   ·exact hw x hx
   ·have h1:=YL s.1 (ns.getD i [])
    have h2:(ns.getD i []).length<=L:=by rw[Cn _ i hc.2];exact h _ (vak hc.2)
    rw[hx];omega
  ·exact hw
 ·exact hw
mutual
theorem Zt(L:Nat):∀(t:ae) (c:Sb),yh L t->yh (L+10) (AC t c)
 |⟨o,n,xs,ns,p,ps⟩,c,h=>by
  rw[yh]at h
  obtain⟨h1,h2⟩:=WB L o ns h.1 xs 0 (((kB c).flatMap d7++freeT ⟨o,n,xs,ns,p,ps⟩)++ns,c,ns) (fun x hx=>vaI (h.1 x hx) (by omega)) h.2
  rw[AC,yh]
  exact⟨h2,h1⟩
theorem WB(L:Nat)(o:Int)(ns:List ag)(hn:∀x∈ns,x.length<=L):∀(xs:List ae) (i:Nat) (s:S3),(∀x∈s.2.2,x.length<=L+10)->vj L xs->vj (L+10) (NL o ns i xs s).1/\∀x∈(NL o ns i xs s).2,x.length<=L+10
 |[],i,s,hw,_=>by rw[NL];exact⟨trivial,hw⟩
 |a::xs,i,s,hw,h=>by
  rw[vj]at h
  have h1:=Zt L a s.2.1 h.1
  obtain⟨h2,h3⟩:=WB L o ns hn xs (i+1) (CW o ns i s) (qaN o ns i s hn hw) h.2
  rw[NL]
  refine⟨?_,h3⟩
  show vj (L+10) (AC a s.2.1::(NL o ns (i+1) xs (CW o ns i s)).1)
  rw[vj]
  exact⟨h1,h2⟩
end
theorem qbV(x y:ag):SM (rS x (lN y)):=by
 unfold rS
 split
 ·intro e he;cases he
 ·intro e he
  rw[va3.1 he];exact E3 y
mutual
theorem qdD:∀(t:ae) (c:Sb),vw (AC t c)=vw t
 |⟨o,n,xs,ns,p,ps⟩,c=>by rw[AC,vw,vw,Z9]
theorem Z9:∀(xs:List ae) (o:Int) (ns:List ag) (i:Nat) (s:S3),Fc (NL o ns i xs s).1=Fc xs
 |[],o,ns,i,s=>by rw[NL,Fc]
 |a::xs,o,ns,i,s=>by rw[NL,Fc,Fc,qdD a,Z9 xs]
end
mutual
theorem VL:∀(a b:ae),pu a b=true↔vw a=vw b
 |⟨o,n,xs,ns,p,ps⟩,⟨o',n',xs',ns',p',ps'⟩=>by
  have:=XT xs xs'
  rw[pu,vw,vw]
  simp only[vaj,vao,this,ae.mk.injEq,vcN]
theorem XT:∀(a b:List ae),C5 a b=true↔Fc a=Fc b
 |[],[]=>by simp[C5,Fc]
 |x::xs,y::ys=>by
  rw[C5,Fc,Fc,vaj,VL x y,XT xs ys,vbv]
 |[],y::ys=>by simp[C5,Fc]
 |x::xs,[]=>by simp[C5,Fc]
end
def nT(t:ae):Nat:=cn (vw t)
theorem qde(t:ae):nT t=dv (t.Args.map vw)+1:=by
 unfold nT;rw[Iu,tI];rfl
mutual
theorem Xk:∀(t:ae),nT t<=cn t
 |⟨o,n,xs,ns,p,ps⟩=>by
  have:=qdd xs
  rw[qde,cn]
  show dv (xs.map vw)+1<=_
  omega
theorem qdd:∀(l:List ae),dv (l.map vw)<=dv l
 |[]=>by simp[dv]
 |t::l=>by
  have h1:cn (vw t)<=cn t:=Xk t
  have:=qdd l
  rw[vay,dv,dv];omega
end
theorem qe1{l:List ae}{x:ae}(h:x∈l):nT x+l.length<=dv (l.map vw)+1:=by
 induction l with
 |nil=>cases h
 | cons y l ih =>
  have hy:1<=nT y:=pd _
  have hl:l.length<=dv (l.map vw):=by have:=F8 (l.map vw);rwa[vaF]at this
  rw[vay,dv,vaP]
  show _<=nT y+_+1
  rcases vaw.1 h with rfl|h
  ·omega
  ·have:=ih h;omega
theorem XQ{α:Type}(f:α->α)(n:Nat)(hn:n<4611686018427387904)(body:Int×List α->Option ((Int×List α)⊕List α))(P:α->Prop)
  (hin:∀(k:Nat) (w:List α) (h:k<w.length),w.length=n->P w[k]->body ((k:Int),w)=some (.inl (aR ((k:Int)+1),w.set k (f w[k]))))
  (hend:∀w:List α,body ((n:Int),w)=some (.inr w)):∀(j k:Nat) (w:List α),j+k=n->w.length=n->(∀x∈w.drop k,P x)->loop body ((k:Int),w)=some (w.take k++(w.drop k).map f):=by
 intro j
 induction j with
 |zero=>
  intro k w hk hw hP
  have:k=n:=by omega
  subst this
  rw[jV (hend w),<-hw,vbm,vb1]
  simp
 | succ j ih =>
  intro k w hk hw hP
  have hlt:k<w.length:=by omega
  have hd:=va8 hlt
  rw[ql (hin k w hlt hw (hP _ (by rw[hd];exact vcP))),dB (by omega) (by omega),show((k:Int)+1)=((k+1:Nat):Int) by omega,ih (k+1) (w.set k (f w[k])) (by omega) (by rw[vbq];exact hw) (fun x hx=>?_)]
  ·rw[hd,vay]
   have e1:(w.set k (f w[k])).take (k+1)=w.take k++[f w[k]]:=by
    rw[vaM (by rw[vbq];exact hlt)]
    rw[List.take_set,List.set_eq_of_length_le (by rw[vaO];omega)]
    simp
   have e2:(w.set k (f w[k])).drop (k+1)=w.drop (k+1):=by
    rw[vcM (by omega)]
   rw[e1,e2]
   simp
  ·rw[vcM (by omega)]at hx
   exact hP x (by rw[hd];exact va0 _ hx)
def Fp(l:List ae)(ns:List ag)(i:Nat)(y:ag):List ae:=if i<ns.length then l.take (i+1)++(l.drop (i+1)).map (fun t=>AC t (rS (ns.getD i []) (lN y)))else l
theorem Vt{t:ae}(x y:ag)(h1:cn t<=10000000)(h2:wT t<=10000000)(h3:yh 1000000000000000 t):qbh t (rS x (lN y)) where
 nd:=Zk _ _
 sz:=by have:=qg0 x (lN y);rw[E3]at this;omega
 w:=by omega
 n:=h3
structure okV(t:ae):Prop where
 l:cn t<=10000000
 w:wT t<=10000000
 n:yh 1000000000000000 t
theorem Ks(l:List ae)(t:ae)(i:Nat)(y:ag)(hl:l.length<=1073741824)(hi:i<l.length)(h:∀x∈l,okV x)(hn:t.Names.length<=1073741824):j2 l t (i:Int) y=some (Fp l t.Names i y):=by
 unfold j2 Fp
 rw[AE l hl]
 simp only[vaa]
 by_cases hlt:i<t.Names.length
 ·rw[vad (by simp;omega),vad hlt]
  unfold n8
  rw[dB (by omega) (by omega),show((i:Int)+1)=((i+1:Nat):Int) by omega,XQ (fun x=>AC x (rS (t.Names.getD i []) (lN y))) l.length (by omega) _ okV (fun k w hk hw hP=>?_) (fun w=>?_) (l.length - (i+1)) (i+1) l (by omega) rfl (fun x hx=>h x (vcG hx))]
  ·simp only[vaa]
   rw[LC _ _ (by simp;omega)]
   rfl
  ·show ez (i:Int) y t l.length (k:Int) w=_
   unfold ez
   rw[vad (by simp;omega),LD l.length w k (by omega) hk,bo _ i hlt]
   simp only[vaa]
   rw[Cn _ i hlt,show(⟨3,y,0,[]⟩:aa)=lN y from rfl,qbr _ _ _ (Vt _ _ hP.l hP.w hP.n)]
   simp only[vaa]
   rw[VV w k _ hk]
   rfl
  ·show ez (i:Int) y t l.length (l.length:Int) w=_
   unfold ez
   rw[vae (by simp)]
 ·rw[vae (by simp;omega),vae hlt,LC _ _ rfl]
  rfl
theorem Q2(t:ae)(i:Nat)(y:ag)(hl:t.Args.length<=1073741824)(hi:i<t.Args.length)(h:∀x∈t.Args,okV x)(hn:t.Names.length<=1073741824)(he:∀s∈t.Names,s≠[]):xn t (i:Int) y=some ⟨t.Op,t.Name,Fp t.Args t.Names i y,t.Names,t.Pred,t.Preds⟩:=by
 unfold xn zQ Fp
 rw[cN (by simpa using hl),vaC]
 simp only[vaa]
 by_cases hlt:i<t.Names.length
 ·rw[vae (by simp;omega),vad hlt,bo _ i hlt]
  simp only[vaa]
  rw[vae (by have:=he _ (vak hlt);simpa using this)]
  unfold zR
  rw[dB (by omega) (by omega),show((i:Int)+1)=((i+1:Nat):Int) by omega,XQ (fun x=>AC x (rS (t.Names.getD i []) (lN y))) t.Args.length (by omega) _ okV (fun k w hk hw hP=>?_) (fun w=>?_) (t.Args.length - (i+1)) (i+1) t.Args (by omega) rfl (fun x hx=>h x (vcG hx))]
  ·simp only[vaa]
   rw[LC _ _ (by simp;omega)]
   rfl
  ·show iG (i:Int) y t t.Args.length (k:Int) w=_
   unfold iG gR
   rw[vad (by simp;omega),LD t.Args.length w k (by omega) hk,bo _ i hlt]
   simp only[vaa]
   rw[Cn _ i hlt,show(⟨3,y,0,[]⟩:aa)=lN y from rfl,qbH _ _ _ (Vt _ _ hP.l hP.w hP.n)]
   simp only[vaa]
   rw[VV w k _ hk]
   rfl
  ·show iG (i:Int) y t t.Args.length (t.Args.length:Int) w=_
   unfold iG
   rw[vae (by simp)]
 ·rw[vad (by simp;omega),vae hlt]
  simp only[vaa,if_true]
  rw[LC _ _ rfl]
  rfl
def xw(t:ae):Bool:=decide (t.Op=1)||(decide (t.Op=2)||(decide (t.Op=3)||decide (t.Op=4)))
theorem QG(t:ae):kv t=some (xw t):=by
 unfold kv xw
 by_cases h1:t.Op=1
 ·rw[vad (by simpa using h1)];simp[h1]
 ·rw[vae (by simpa using h1)]
  by_cases h2:t.Op=2
  ·rw[vad (by simpa using h2)];simp[h2]
  ·rw[vae (by simpa using h2)]
   by_cases h3:t.Op=3
   ·rw[vad (by simpa using h3)];simp[h3]
   ·rw[vae (by simpa using h3)]
    by_cases h4:t.Op=4<;>simp[h1,h2,h3,h4]
theorem XI(t:ae):Jk t=some (xw t):=by rw[<-QG];rfl
def CV(t:ae)(x:ag)(c:ai):ai:=if xw t=true then Ss x (Fu (vw t)).1 (WG t (lN x)) c else c
theorem qdo(t:ae)(x:ag)(c:ai)(h:cn t<=bq)(hp:nP t.Pred<=bq):wk t x c=some (CV t x c):=by
 unfold wk CV
 rw[QG]
 simp only[vaa]
 cases hb:xw t with
 |false=>rfl
 |true=>
  rw[vae (by simp),vad rfl,TC t h]
  simp only[vaa]
  rw[Q0,show(⟨3,x,0,[]⟩:aa)=lN x from rfl]
  simp only[vaa]
  rw[Y4 t _ hp (by rw[E3];decide)]
  rfl
theorem XJ(t:ae)(x:ag)(c:ai)(h:cn t<=bq)(hp:nP t.Pred<=bq):ED t x c=some (CV t x c):=by
 unfold ED CV HX gR
 rw[XI]
 simp only[vaa]
 cases hb:xw t with
 |false=>rfl
 |true=>
  rw[vae (by simp),vad rfl,qbN t h]
  simp only[vaa]
  rw[qdU,show(⟨3,x,0,[]⟩:aa)=lN x from rfl]
  simp only[vaa]
  rw[qdO t _ hp]
  rfl
def V6(l:List aa)(i:Nat)(x:ag):aa:=(l[i]?).elim qr (fun p=>if p=gQ then qr else GM (MB [118] (lN x)) p)
theorem qdw(l:List aa)(i:Nat)(x:ag)(h:∀p∈l,nP p<=bq):xZ l (i:Int) (lN x)=some (V6 l i x):=by
 unfold xZ Ag V6
 by_cases hi:i<l.length
 ·rw[vae (by simp;omega),bo l i hi,vab hi]
  simp only[vaa]
  have hp:=h _ (vak hi)
  rw[show jZ l[i] (⟨0,[],0,[]⟩:aa)=some (decide (l[i]=gQ))from Kz l[i] gQ hp]
  simp only[vaa,Option.elim]
  by_cases hz:l[i]=gQ
  ·rw[vad (by simpa using hz),vad hz,qcg [] (by simp) (by simp)]
   rfl
  ·rw[vae (by simpa using hz),vae hz,TF _ _ _ hp (by rw[E3];decide)]
   rfl
 ·rw[vad (by simp;omega),vat (by omega)]
  simp only[vaa,if_true]
  rw[qcg [] (by simp) (by simp)]
  rfl
theorem qdQ(l:List aa)(i:Nat)(x:ag)(h:∀p∈l,nP p<=bq):tX l (i:Int) x=some (V6 l i x):=by
 unfold tX xo V6 gR
 by_cases hi:i<l.length
 ·rw[vae (by simp;omega),bo l i hi,vab hi]
  simp only[vaa]
  have hp:=h _ (vak hi)
  rw[show qK l[i] (⟨0,[],0,[]⟩:aa)=some (decide (l[i]=gQ))from Q8 l[i] gQ Z3]
  simp only[vaa,Option.elim]
  by_cases hz:l[i]=gQ
  ·rw[vad (by simpa using hz),vad hz]
   rfl
  ·rw[vae (by simpa using hz),vae hz,show(⟨3,x,0,[]⟩:aa)=lN x from rfl,TL _ _ _ hp]
   rfl
 ·rw[vad (by simp;omega),vat (by omega)]
  rfl
theorem qfR(l:List aa)(i:Nat)(x:ag):nP (V6 l i x)<=(l[i]?).elim 1 nP:=by
 unfold V6
 cases l[i]? with
 |none=>exact vah 1
 | some p =>
  simp only[Option.elim]
  split
  ·exact Vq p
  ·exact qak _ (fun n q h=>TI h) _
def qeh(tag:Int)(a b:ae)(x:ag):List cG->Nat->List ai
 |[],_=>[]
 |d::ds,i=>Ss x d.Sort_ (V6 a.Preds i x) (JU (V6 b.Preds i x) tag)::qeh tag a b x ds (i+1)
theorem Qh(tag:Int)(a b:ae)(x:ag):∀(l:List cG) (i:Nat) (s:List ai),ru (fun i d s=>s++[Ss x d.Sort_ (V6 a.Preds i x) (JU (V6 b.Preds i x) tag)]) l i s=s++qeh tag a b x l i
 |[],i,s=>by rw[ru,qeh,va1]
 |d::l,i,s=>by rw[ru,Qh tag a b x l (i+1),qeh,vba];rfl
theorem qcE(l:List aa)(i:Nat):(l[i]?).elim 1 nP+nL (l.drop (i+1))<=nL (l.drop i)+1:=by
 by_cases h:i<l.length
 ·rw[vab h,va8 h,nL]
  simp only[Option.elim];omega
 ·rw[vat (by omega),vbD (by omega)]
  simp only[Option.elim,nL];omega
theorem qfT(tag:Int)(a b:ae)(x:ag):∀(l:List cG) (i:Nat),yj (qeh tag a b x l i)<=4 * l.length+nL (a.Preds.drop i)+nL (b.Preds.drop i)
 |[],i=>by rw[qeh,yj];omega
 | d :: l,i => by
  have ih:=qfT tag a b x l (i+1)
  have h1:=qfR a.Preds i x
  have h2:=qfR b.Preds i x
  have h3:=qcE a.Preds i
  have h4:=qcE b.Preds i
  have e:nC (Ss x d.Sort_ (V6 a.Preds i x) (JU (V6 b.Preds i x) tag))=nP (V6 a.Preds i x)+(nP (V6 b.Preds i x)+1)+1:=by
   simp[nC,yj]
  rw[qeh,yj,e,vaP]
  omega
def JC(m:aH)(tag:Int)(a b:ae)(used:List ag):ai:=
 let x:=eQ used [118,49]
 let c:=Ss x (Fu (vw a)).1 (WG a (lN x)) (JU (WG b (lN x)) tag)
 if a.Op=4 then Db (fO (c::qeh tag a b x (iA m a.Name).1.Preds 0))else c
theorem Ym(m:aH)(tag:Int)(a b:ae)(x:ag)(D:Nat)(hD:(iA m a.Name).1.Preds.length<=D):yj (Ss x (Fu (vw a)).1 (WG a (lN x)) (JU (WG b (lN x)) tag)::qeh tag a b x (iA m a.Name).1.Preds 0)<=4 * D+wT a+wT b+4:=by
 have h1:=qfT tag a b x (iA m a.Name).1.Preds 0
 have h2:=qck a x
 have h3:=qck b x
 have h4:=rX a
 have h5:=rX b
 have e:nC (Ss x (Fu (vw a)).1 (WG a (lN x)) (JU (WG b (lN x)) tag))=nP (WG a (lN x))+(nP (WG b (lN x))+1)+1:=by
  simp[nC,yj]
 rw[yj,e]
 rw[vaV,vaV]at h1
 omega
theorem qeH(m:aH)(tag:Int)(a b:ae)(used:List ag)(D:Nat)(hD:(iA m a.Name).1.Preds.length<=D):nC (JC m tag a b used)<=4 * D+wT a+wT b+6:=by
 have h:=Ym m tag a b (eQ used [118,49]) D hD
 unfold JC
 simp only
 split
 ·rw[nC]
  have:=Jz (Ss (eQ used [118,49]) (Fu (vw a)).1 (WG a (lN (eQ used [118,49]))) (JU (WG b (lN (eQ used [118,49]))) tag)::qeh tag a b (eQ used [118,49]) (iA m a.Name).1.Preds 0)
  have e:nP gQ=1:=by simp[nP,nL,gQ]
  omega
 ·rw[yj]at h
  omega
structure qkg(m:aH)(a b:ae)(used:List ag):Prop where
 u:used.length<=100000000
 la:cn a<=10000000
 lb:cn b<=10000000
 wa:wT a<=10000000
 wb:wT b<=10000000
 ds:m.Datas.length<=10000000
 dp:∀d∈m.Datas,d.Preds.length<=10000000
theorem qbu(m:aH)(tag:Int)(a b:ae)(used:List ag)(h:qkg m a b used):jA ⟨m,tag⟩ a b used=some (JC m tag a b used):=by
 have w1:=rX a
 have w2:=rX b
 have:=h.wa;have:=h.wb;have:=h.la;have:=h.ds
 have hD:=H9 m a.Name _ h.dp
 unfold jA JC
 rw[(Al used [118,49] h.u (by simp)).1]
 simp only[vaa]
 generalize eQ used [118,49]=x
 rw[TC a (by unfold bq;omega)]
 simp only[vaa]
 rw[Q0,show(⟨3,x,0,[]⟩:aa)=lN x from rfl]
 simp only[vaa]
 rw[Y4 a _ (by unfold bq;omega) (by rw[E3];decide)]
 simp only[vaa]
 rw[Y4 b _ (by unfold bq;omega) (by rw[E3];decide)]
 simp only[vaa]
 unfold fh jB
 simp only[vaa]
 by_cases h4:a.Op=4
 ·rw[vad (by simpa using h4),vad h4,qdt _ _ (by show m.Datas.length<_;omega)]
  simp only[vaa]
  have hn:=Ym m tag a b x 10000000 hD
  unfold kw
  rw[Qz (iA m a.Name).1.Preds (by omega) (fun i s=>(s,i)) _ (fun i s=>s.length=i+1) (fun i d s=>s++[Ss x d.Sort_ (V6 a.Preds i x) (JU (V6 b.Preds i x) tag)]) id _ rfl (fun i hi s hs=>⟨?_,by simp[hs]⟩) (fun s hs=>?_),Qh]
  ·simp only[vaa,id]
   rw[List.singleton_append,Zy _ (vaI hn (by unfold bq;omega))]
   rfl
  ·show dS ⟨m,tag⟩ a b x (iA m a.Name).1.Preds ((iA m a.Name).1.Preds.length:Int) [] s (i:Int)=_
   unfold dS fh jB
   rw[vad (by simp;omega),bo _ i hi,show(⟨3,x,0,[]⟩:aa)=lN x from rfl]
   simp only[vaa]
   rw[qdw a.Preds i x (fun p hp=>by have:=Cy hp;unfold bq;omega)]
   simp only[vaa]
   rw[qdw b.Preds i x (fun p hp=>by have:=Cy hp;unfold bq;omega)]
   simp only[vaa]
   rw[cN (by simp;omega)]
   rfl
  ·show dS ⟨m,tag⟩ a b x (iA m a.Name).1.Preds ((iA m a.Name).1.Preds.length:Int) [] s ((iA m a.Name).1.Preds.length:Int)=_
   unfold dS
   rw[vae (by simp)]
   rfl
 ·rw[vae (by simpa using h4),vae h4]
  rfl
theorem qbI(m:aH)(tag:Int)(a b:ae)(used:List ag)(h:qkg m a b used)(hb:xw a=true):Jl m a b tag used=some (JC m tag a b used):=by
 have w1:=rX a
 have w2:=rX b
 have:=h.wa;have:=h.wb;have:=h.la;have:=h.ds
 have hD:=H9 m a.Name _ h.dp
 unfold Jl JC gR
 rw[(Al used [118,49] h.u (by simp)).2.1]
 simp only[vaa]
 generalize eQ used [118,49]=x
 rw[show(⟨3,x,0,[]⟩:aa)=lN x from rfl,qdO b _ (by unfold bq;omega)]
 simp only[vaa]
 rw[XJ a x _ (by unfold bq;omega) (by unfold bq;omega)]
 unfold CV
 rw[vad hb]
 simp only[vaa]
 by_cases h4:a.Op=4
 ·rw[vae (by simpa using h4),vad h4,qdP _ _ (by omega)]
  simp only[vaa]
  have hn:=Ym m tag a b x 10000000 hD
  unfold EE
  rw[Qz (iA m a.Name).1.Preds (by omega) (fun i s=>(s,i)) _ (fun i s=>s.length=i+1) (fun i d s=>s++[Ss x d.Sort_ (V6 a.Preds i x) (JU (V6 b.Preds i x) tag)]) id _ rfl (fun i hi s hs=>⟨?_,by simp[hs]⟩) (fun s hs=>?_),Qh]
  ·simp only[vaa,id]
   rw[List.singleton_append,TH _ (vaI hn (by unfold bq;omega))]
   rfl
  ·show lz tag a b x (iA m a.Name).1.Preds s (i:Int)=_
   unfold lz
   rw[vad (by simp;omega),bo _ i hi]
   rw[qdQ b.Preds i x (fun p hp=>by have:=Cy hp;unfold bq;omega)]
   simp only[vaa]
   rw[qdQ a.Preds i x (fun p hp=>by have:=Cy hp;unfold bq;omega)]
   simp only[vaa]
   rw[cN (by simp;omega)]
   rfl
  ·show lz tag a b x (iA m a.Name).1.Preds s ((iA m a.Name).1.Preds.length:Int)=_
   unfold lz
   rw[vae (by simp)]
   rfl
 ·rw[vad (by simpa using h4),vae h4]
  rfl
mutual
def Dc:ae->Prop
 |⟨_,_,xs,ns,_,_⟩=>(∀s∈ns,s≠[])/\SS xs
def SS:List ae->Prop
 |[]=>True
 |a::xs=>Dc a/\SS xs
end
theorem xv(t:ae):Dc t↔(∀s∈t.Names,s≠[])/\SS t.Args:=by obtain⟨o,n,xs,ns,p,ps⟩:=t;rw[Dc];exact Iff.rfl
theorem wn:∀(l:List ae),SS l↔∀t∈l,Dc t
 |[]=>by simp[SS]
 |a::l=>by rw[SS,wn l];simp
theorem qb7(s:ag):fy (sw s) (fun r=>(r !=0)=false->s≠[]):=by
 cases s with
 |nil=>exact VU (show sw []=some 3 by kernel_rfl) (fun h=>by cases h)
 |cons c s=>exact(SO (c::s)).mono fun _ _ _ h=>by cases h
theorem qbe(t:ae)(ht:cn t<=bq)(hp:nP t.Pred<=bq)(hq:∀q∈t.Preds,nP q<=bq):fy (Jg t) (fun r=>(r !=0)=false->∀s∈t.Names,s≠[]):=by
 unfold Jg
 have h1:=iL t
 have h2:=AV t
 have hb:bq=1073741824:=rfl
 refine ax (R:=fun _=>True) ?_ fun _ _=>aT (fun _=>aq (fun h=>by cases h)) fun _=>?_
 ·unfold Ev
  repeat' first|exact aq trivial|refine aT (fun _=>?_) (fun _=>?_)|refine cT (L9 _) ?_
 unfold Ex
 refine ax (tn t.Names (by omega) _ (fun s=>s≠[]) (fun _=>True) (fun i=>rfl) (fun x hx i=>ax (qb7 x) fun r hr=>aT (fun _=>aq trivial) fun h=>aq ⟨rfl,hr (by simpa using h)⟩)) fun o ho=>?_
 cases o with
 |inl _=>exact aq (fun h=>by cases h)
 | inr _ =>
  have ho:∀s∈t.Names,s≠[]:=ho
  refine ax (T6 t.Names (by omega)) fun _ _=>aT (fun _=>aq fun _=>ho) fun _=>cT (cN (by simp;omega)) ?_
  unfold Ez
  refine ax (tn ([t.Pred]++t.Preds) (by simp;omega) _ (fun _=>True) (fun _=>True) (fun i=>rfl) (fun x hx i=>?_)) fun o _=>?_
  ·have hxn:nP x<=bq:=by
    rcases vaE.1 hx with h|h
    ·rw[va3.1 h];exact hp
    ·exact hq x h
   refine ax (V8 x hxn) fun e _=>ax (R:=fun _=>True) ?_ fun _ _=>aT (fun _=>aq trivial) fun _=>aq ⟨rfl,trivial⟩
   unfold Ew
   exact cT (L9 _) (aT (fun _=>aq trivial) fun _=>aq trivial)
  ·cases o<;>exact aq fun _=>ho
theorem qa0(t:ae)(ht:cn t<=bq)(hp:H1 (fun p=>nP p<=bq) t):fy (Pu t) (fun r=>(r !=0)=false->Dc t):=by
 refine px (F:=HQ) cn (fun x=>cn x<=bq/\H1 (fun p=>nP p<=bq) x) (fun x r=>(r !=0)=false->Dc x) (fun R x hx ih=>?_) t ⟨ht,hp⟩ (ed ht)
 obtain⟨hx,hq⟩:=hx
 show fy (BP (fun t=>R t) x) _
 unfold BP Es
 have h1:=fA x
 have hq':=(qce _ _).1 hq
 refine ax (qbe x hx hq'.1 hq'.2.1) fun r hr=>aT (fun h=>aq (fun h'=>by rw[h]at h';cases h')) fun h=>ax (tn x.Args (by unfold bq at hx;omega) _ Dc (fun r=>(r !=0)=true) (fun i=>rfl) (fun y hy i=>ax (ih _ (gy hy) ⟨by have:=gy hy;omega,(SU _ _).1 hq'.2.2 y hy⟩) fun r hr=>aT (fun h=>aq h) fun h=>aq ⟨rfl,hr (by simpa using h)⟩)) fun o ho=>?_
 cases o with
 |inl r=>
  have ho:(r !=0)=true:=ho
  exact aq fun h'=>by rw[ho]at h';cases h'
 |inr _=>exact aq fun _=>(xv x).2 ⟨hr (by simpa using h),(wn _).2 ho⟩
theorem Ou(t:ae)(ht:cn t<=bq)(hp:H1 (fun p=>nP p<=bq) t):fy (Aq t) (fun r=>(r !=0)=false->Dc t):=by
 unfold Aq
 exact ax (V9 t ht) fun _ _=>aT (fun h=>aq (fun h'=>by rw[h]at h';cases h')) fun _=>ax (qa0 t ht hp) fun _ h=>aq h
theorem qcN(used:List ag)(base:ag)(h:used.length<=100000000)(hb:base≠[]):eQ used base≠[]:=by
 unfold eQ
 split
 ·have key:∀k n,mO used base k n=[]->(∀j,n<=j->j<n+k->base++Lib.decDigits j∈used):=by
   intro k
   induction k with
   |zero=>intro n _ j h1 h2;omega
   | succ k ih =>
    intro n hk j h1 h2
    rw[mO]at hk
    split at hk
    ·rename_i hc
     by_cases hj:j=n
     ·subst hj;simpa using hc
     ·exact ih (n+1) hk j (by omega) (by omega)
    ·exact absurd (List.append_eq_nil_iff.1 hk).1 hb
  intro he
  obtain⟨n,h1,h2,h3⟩:=WW used base
  exact h3 (key _ _ he n h1 (by omega))
 ·exact hb
theorem qct(t:ae)(c:Sb)(h:qbh t c)(he:∀s∈t.Names,s≠[]):∀i,i<=t.Args.length->∀s∈(jw t.Op t.Names (bM t c) i).2.2,s≠[]
 |0,_=>he
 | i + 1,hi => by
  have ih:=qct t c h he i (by omega)
  have h1:=ZC t.Op t.Names (bM t c) i
  have h2:=VQ t c
  have h3:=h.sz
  have h4:=h.w
  have h5:=fA t
  show ∀s∈(CW t.Op t.Names i (jw t.Op t.Names (bM t c) i)).2.2,s≠[]
  unfold CW
  split
  ·rename_i hc
   split
   ·intro s hs
    rcases vcj hs with hs|hs
    ·exact ih s hs
    ·rw[hs]
     exact qcN _ _ (by omega) (by rw[Cn _ i hc.2];exact he _ (vak hc.2))
   ·exact ih
  ·exact ih
theorem Zs:∀(n:Nat) (t:ae) (c:Sb),cn t<=n->qbh t c->Dc t->Dc (AC t c)
 |0,t,c,hn,_,_=>by have:=pd t;omega
 |n+1,t,c,hn,h,he=>by
  rw[xv]at he
  rw[UP,xv]
  refine⟨qct t c h he.1 _ (vah _),(wn _).2 fun x hx=>?_⟩
  obtain⟨y,hy,rfl⟩:=vaq.1 hx
  obtain⟨a,i⟩:=y
  obtain⟨h1,h2,h3⟩:=List.mem_zipIdx hy
  have h2:i<t.Args.length:=by omega
  have h3:a=t.Args[i]:=by simpa using h3
  subst h3
  exact Zs n _ _ (by have:=gy (vak h2:t.Args[i]∈t.Args);show cn t.Args[i]<=n;omega) (Vs h i h2) ((wn _).1 he.2 _ (vak h2))
structure J3(L:Nat)(t t':ae):Prop where
 l:cn t'=cn t
 w:wT t'<=wT t
 p:vw t'=vw t
 n:yh L t'
 e:Dc t'
theorem J3.step{L:Nat}{t t':ae}(h:J3 L t t')(x y:ag)(h1:cn t<=10000000)(h2:wT t<=10000000)(h3:L<=1000000000000000):J3 (L+10) t (AC t' (rS x (lN y))) where
 l:=by rw[ZY];exact h.l
 w:=vaI (qf7 _ _ (qbV x y)) h.w
 p:=by rw[qdD];exact h.p
 n:=Zt L _ _ h.n
 e:=Zs _ _ _ (vah _) (Vt x y (by have:=h.l;omega) (by have:=h.w;omega) (FW h3 _ h.n)) h.e
theorem J3.up{L M:Nat}{t t':ae}(h:J3 L t t')(hM:L<=M):J3 M t t':=⟨h.l,h.w,h.p,FW hM _ h.n,h.e⟩
def zt:ae:=⟨0,[],[],[],gQ,[]⟩
theorem L4(l:List ae)(ns:List ag)(i:Nat)(y:ag):(Fp l ns i y).length=l.length:=by
 unfold Fp
 split
 ·rw[vag,vaF,vaO,vaY];omega
 ·rfl
theorem L3(l:List ae)(ns:List ag)(i:Nat)(y:ag)(k:Nat):(Fp l ns i y)[k]? =if k<=i\/ns.length<=i then l[k]? else(l[k]?).map (fun t=>AC t (rS (ns.getD i []) (lN y))):=by
 unfold Fp
 by_cases hi:i<ns.length
 ·rw[vad hi]
  by_cases hk:k<=i
  ·rw[vad (.inl hk)]
   by_cases hl:k<l.length
   ·rw[vaf (by rw[vaO];omega),vap (by omega)]
   ·rw[vat (by rw[vag,vaF,vaO,vaY];omega),vat (by omega)]
  ·rw[vae (by omega)]
   by_cases hl:k<l.length
   ·rw[vai (by rw[vaO];omega),vaB,vbg,vaO,show i+1+(k - min (i+1) l.length)=k by omega]
   ·rw[vat (by rw[vag,vaF,vaO,vaY];omega),vat (by omega)]
    rfl
 ·rw[vae hi,vad (.inr (by omega))]
def AK(L:Nat)(l l':List ae):Prop:=l'.length=l.length/\∀(k:Nat) (t:ae),l[k]? =some t->∃t':ae,l'[k]? =some t'/\J3 L t t'
theorem AK.step{L:Nat}{l l':List ae}(h:AK L l l')(ns:List ag)(i:Nat)(y:ag)(h1:∀t∈l,cn t<=10000000/\wT t<=10000000)(h3:L<=1000000000000000):AK (L+10) l (Fp l' ns i y):=by
 refine⟨by rw[L4];exact h.1,fun k t ht=>?_⟩
 obtain⟨t',e,hl⟩:=h.2 k t ht
 have hm:=h1 t (vaA ht)
 rw[L3,e]
 split
 ·exact⟨t',rfl,hl.up (by omega)⟩
 ·exact⟨_,rfl,hl.step _ _ hm.1 hm.2 h3⟩
theorem AK.mem{L:Nat}{l l':List ae}(h:AK L l l'){x:ae}(hx:x∈l'):∃t∈l,J3 L t x:=by
 obtain⟨k,hk⟩:=vbh.1 hx
 have hlt:k<l'.length:=by
  by_cases hc:k<l'.length
  ·exact hc
  ·rw[vat (by omega)]at hk;cases hk
 have hlt2:k<l.length:=by rw[<-h.1];exact hlt
 obtain⟨t',e,hl⟩:=h.2 k l[k] (vab hlt2)
 rw[hk]at e
 cases e
 exact⟨_,vak hlt2,hl⟩
theorem AK.refl{L:Nat}{l:List ae}(hn:∀t∈l,yh L t)(he:∀t∈l,Dc t):AK L l l:=⟨rfl,fun k t ht=>⟨t,ht,rfl,vah _,rfl,hn t (vaA ht),he t (vaA ht)⟩⟩
abbrev FS:Type:=List ae×List ae×List ag
def YI(a b:ae)(u:List ag)(i:Nat):ag:=eQ ((u++a.Names.drop (i+1))++b.Names.drop (i+1)) (b.Names.getD i [120])
def qlI(a b:ae)(i:Nat)(s:FS):FS:=(Fp s.1 a.Names i (YI a b s.2.2 i),Fp s.2.1 b.Names i (YI a b s.2.2 i),s.2.2++[YI a b s.2.2 i])
def d9(a b:ae)(used:List ag):Nat->FS
 |0=>(a.Args,b.Args,used)
 |i+1=>qlI a b i (d9 a b used i)
theorem Mo(a b:ae)(used:List ag):∀i,(d9 a b used i).2.2.length=used.length+i
 |0=>rfl
 |i+1=>by
  have:=Mo a b used i
  show((d9 a b used i).2.2++[_]).length=_
  rw[vag,this];simp;omega
theorem WV(a b:ae)(used:List ag)(i:Nat):∀j,i<=j->(d9 a b used j).2.2.take (used.length+i)=(d9 a b used i).2.2
 |0,h=>by
  have:i=0:=by omega
  subst this
  exact vbm
 | j + 1,h => by
  by_cases he:i=j+1
  ·subst he
   have:=Mo a b used (j+1)
   rw[<-this,vbm]
  ·have ih:=WV a b used i j (by omega)
   have hl:=Mo a b used j
   show((d9 a b used j).2.2++[_]).take _=_
   rw[List.take_append_of_le_length (by omega)]
   exact ih
theorem qcK(a b:ae)(used:List ag):∀i,(d9 a b used i).1.length=a.Args.length/\(d9 a b used i).2.1.length=b.Args.length
 |0=>⟨rfl,rfl⟩
 |i+1=>by
  have:=qcK a b used i
  exact⟨(L4 _ _ _ _).trans this.1,(L4 _ _ _ _).trans this.2⟩
theorem ZO(a b:ae)(used:List ag)(i:Nat):∀j,i<=j->(d9 a b used j).1[i]? =(d9 a b used i).1[i]?/\(d9 a b used j).2.1[i]? =(d9 a b used i).2.1[i]?
 |0,h=>by
  have:i=0:=by omega
  subst this
  exact⟨rfl,rfl⟩
 | j + 1,h => by
  by_cases he:i=j+1
  ·subst he;exact⟨rfl,rfl⟩
  ·have ih:=ZO a b used i j (by omega)
   refine⟨Eq.trans ?_ ih.1,Eq.trans ?_ ih.2⟩
   ·exact(L3 _ _ _ _ i).trans (vad (.inl (by omega)))
   ·exact(L3 _ _ _ _ i).trans (vad (.inl (by omega)))
structure E7(a b:ae)(used:List ag)(L:Nat):Prop where
 pl:vw a=vw b
 la:cn a<=160
 lb:cn b<=160
 wa:wT a<=160
 wb:wT b<=160
 na:yh L a
 nb:yh L b
 nl:L+10 * nT a<=100000000000000
 u:used.length+nT a<=10000000
 ea:Dc a
 eb:Dc b
theorem E7.al{a b:ae}{used:List ag}{L:Nat}(h:E7 a b used L):a.Args.length=b.Args.length:=by
 have h1:=h.pl
 rw[Iu,Iu]at h1
 have:a.Args.map vw=b.Args.map vw:=by injection h1
 simpa using va9 List.length this
theorem L8{t x:ae}(h:x∈t.Args):wT x<=wT t:=by rw[rX t];have:=V1 h;omega
theorem P7{a b:ae}{used:List ag}{L:Nat}(h:E7 a b used L):∀i,i<=a.Args.length->AK (L+10 * i) a.Args (d9 a b used i).1/\AK (L+10 * i) b.Args (d9 a b used i).2.1
 |0,_=>⟨AK.refl ((FV _ _).1 ((Aw _ _).1 h.na).2) ((wn _).1 ((xv _).1 h.ea).2),AK.refl ((FV _ _).1 ((Aw _ _).1 h.nb).2) ((wn _).1 ((xv _).1 h.eb).2)⟩
 |i+1,hi=>by
  have ih:=P7 h i (by omega)
  have h1:=fA a
  have h2:=h.la
  have h3:=h.nl
  have h4:=h.lb
  have h5:=h.wa
  have h6:=h.wb
  have e:L+10 * (i+1)=L+10 * i+10:=by omega
  rw[e]
  exact⟨ih.1.step _ _ _ (fun t ht=>⟨by have:=gy ht;omega,by have:=L8 ht;omega⟩) (by omega),ih.2.step _ _ _ (fun t ht=>⟨by have:=gy ht;omega,by have:=L8 ht;omega⟩) (by omega)⟩
def lA(a b:ae)(used:List ag)(i:Nat):ae:=(d9 a b used i).1.getD i zt
def rA(a b:ae)(used:List ag)(i:Nat):ae:=(d9 a b used i).2.1.getD i zt
theorem Qk{a b:ae}{used:List ag}{L:Nat}(h:E7 a b used L)(i j:Nat)(hi:i<a.Args.length)(hj:i<=j):(d9 a b used j).1[i]? =some (lA a b used i)/\(d9 a b used j).2.1[i]? =some (rA a b used i)/\J3 (L+10 * i) (a.Args.getD i zt) (lA a b used i)/\J3 (L+10 * i) (b.Args.getD i zt) (rA a b used i):=by
 have hl:=P7 h i (by omega)
 have hg:=ZO a b used i j hj
 have hb:i<b.Args.length:=by rw[<-h.al];exact hi
 obtain⟨t,e,hk⟩:=hl.1.2 i _ (vab hi)
 obtain⟨t',e',hk'⟩:=hl.2.2 i _ (vab hb)
 have e1:lA a b used i=t:=by unfold lA;rw[vac,e];rfl
 have e2:rA a b used i=t':=by unfold rA;rw[vac,e'];rfl
 rw[hg.1,hg.2,e,e',e1,e2]
 refine⟨rfl,rfl,?_,?_⟩
 ·rw[vac,vab hi];exact hk
 ·rw[vac,vab hb];exact hk'
theorem E7.child{a b:ae}{used:List ag}{L:Nat}(h:E7 a b used L)(i:Nat)(hi:i<a.Args.length):
  E7 (lA a b used i) (rA a b used i) (d9 a b used i).2.2 (L+10 * i)/\E7 (rA a b used i) (lA a b used i) (d9 a b used i).2.2 (L+10 * i)/\nT (lA a b used i)<nT a/\nT (rA a b used i)<nT a:=by
 obtain⟨_,_,h1,h2⟩:=Qk h i i hi (vah _)
 have hb:i<b.Args.length:=by rw[<-h.al];exact hi
 rw[vac,vab hi]at h1
 rw[vac,vab hb]at h2
 have h1:J3 (L+10 * i) a.Args[i] (lA a b used i):=h1
 have h2:J3 (L+10 * i) b.Args[i] (rA a b used i):=h2
 have hpl:vw a.Args[i]=vw b.Args[i]:=by
  have h3:=h.pl
  rw[Iu,Iu]at h3
  have h4:a.Args.map vw=b.Args.map vw:=by injection h3
  have h5:(a.Args.map vw)[i]? =(b.Args.map vw)[i]?:=by rw[h4]
  rw[vaB,vaB,vab hi,vab hb]at h5
  simpa using h5
 have hm:=vak hi
 have hm':=vak hb
 have n1:=qe1 hm
 have n2:=qde a
 have e1:nT (lA a b used i)=nT a.Args[i]:=by unfold nT;rw[h1.p]
 have e2:nT (rA a b used i)=nT a.Args[i]:=by unfold nT;rw[h2.p,hpl]
 have p1:vw (lA a b used i)=vw (rA a b used i):=by rw[h1.p,h2.p,hpl]
 have u1:=Mo a b used i
 have a1:=gy hm;have a2:=gy hm';have a3:=L8 hm;have a4:=L8 hm'
 have b1:=h1.l;have b2:=h2.l;have b3:=h1.w;have b4:=h2.w
 have c1:=h.la;have c2:=h.lb;have c3:=h.wa;have c4:=h.wb;have c5:=h.nl;have c6:=h.u
 exact⟨⟨p1,by omega,by omega,by omega,by omega,h1.n,h2.n,by omega,by omega,h1.e,h2.e⟩,⟨p1.symm,by omega,by omega,by omega,by omega,h2.n,h1.n,by omega,by omega,h2.e,h1.e⟩,by omega,by omega⟩
abbrev Rc:Type:=ae->ae->List ag->ai
def tH(rec:Rc)(a b:ae)(used:List ag)(n:Nat):Nat->ai
 |0=>rec (lA a b used n) (rA a b used n) (d9 a b used n).2.2
 |k+1=>Db (fO [rec (rA a b used (n - (k+1))) (lA a b used (n - (k+1))) (d9 a b used (n - (k+1))).2.2,CV (rA a b used (n - (k+1))) (YI a b (d9 a b used (n - (k+1))).2.2 (n - (k+1))) (tH rec a b used n k)])
abbrev nB(K:Nat)(a b:ae):Nat:=K * (cn a+cn b)+4 * (wT a+wT b)
def JR(K:Nat)(rec:Rc)(a b:ae)(u:List ag):Prop:=nC (rec a b u)+8+nP a.Pred+nP b.Pred<=nB K a b
theorem Zw(t:ae)(x:ag)(c:ai):nC (CV t x c)<=nP t.Pred+nC c+1:=by
 have:=qck t x
 unfold CV
 split
 ·simp[nC,yj];omega
 ·omega
theorem qgR(l:List ai):nC (Db (fO l))<=2+yj l:=by
 have:=Jz l
 have e:nP gQ=1:=by simp[nP,nL,gQ]
 rw[nC];omega
theorem Qp(l:List ae)(i:Nat)(h:i<l.length):dv (l.drop i)=cn l[i]+dv (l.drop (i+1)):=by
 rw[va8 h,dv]
theorem X4(l:List ae)(i:Nat)(h:i<l.length):uA (l.drop i)=wT l[i]+uA (l.drop (i+1)):=by
 rw[va8 h,uA]
def G5(K:Nat)(a b:ae)(i:Nat):Nat:=K * (dv (a.Args.drop i)+dv (b.Args.drop i))+4 * (uA (a.Args.drop i)+uA (b.Args.drop i))
theorem Ia{K:Nat}{a b:ae}{used:List ag}{L:Nat}(h:E7 a b used L)(i:Nat)(hi:i<a.Args.length):nB K (rA a b used i) (lA a b used i)+G5 K a b (i+1)<=G5 K a b i/\nB K (lA a b used i) (rA a b used i)=nB K (rA a b used i) (lA a b used i):=by
 obtain⟨_,_,h1,h2⟩:=Qk h i i hi (vah _)
 have hb:i<b.Args.length:=by rw[<-h.al];exact hi
 rw[vac,vab hi]at h1
 rw[vac,vab hb]at h2
 have h1:J3 (L+10 * i) a.Args[i] (lA a b used i):=h1
 have h2:J3 (L+10 * i) b.Args[i] (rA a b used i):=h2
 have e1:=Qp a.Args i hi
 have e2:=Qp b.Args i hb
 have e3:=X4 a.Args i hi
 have e4:=X4 b.Args i hb
 have l1:=h1.l;have l2:=h2.l;have l3:=h1.w;have l4:=h2.w
 unfold nB G5
 rw[l1,l2,e1,e2,e3,e4]
 constructor
 ·have:K * (cn a.Args[i]+dv (a.Args.drop (i+1))+(cn b.Args[i]+dv (b.Args.drop (i+1))))=K * (cn b.Args[i]+cn a.Args[i])+K * (dv (a.Args.drop (i+1))+dv (b.Args.drop (i+1))):=by rw[<-Nat.mul_add];congr 1;omega
  rw[this];omega
 ·rw[vcd (cn a.Args[i])];omega
theorem Td(K:Nat)(a b:ae)(hK:20<=K):G5 K a b 0+16+nP a.Pred+nP b.Pred<=nB K a b:=by
 have h1:=tI a
 have h2:=tI b
 have h3:=rX a
 have h4:=rX b
 unfold G5 nB
 rw[vaV,vaV]
 have:K * (dv a.Args+dv b.Args)+K * 2<=K * (cn a+cn b):=by rw[<-Nat.mul_add];exact vbK K (by omega)
 omega
theorem qcJ{K:Nat}{rec:Rc}{a b:ae}{used:List ag}{L:Nat}(h:E7 a b used L)(n:Nat)(hn:n+1=a.Args.length)(hr:∀i,i<a.Args.length->JR K rec (rA a b used i) (lA a b used i) (d9 a b used i).2.2/\JR K rec (lA a b used i) (rA a b used i) (d9 a b used i).2.2):
  ∀k,k<=n->nC (tH rec a b used n k)<=G5 K a b (n - k)
 |0,_=>by
  have h1:=(hr n (by omega)).2
  have h2:=Ia (K:=K) h n (by omega)
  unfold JR at h1
  show nC (rec (lA a b used n) (rA a b used n) (d9 a b used n).2.2)<=G5 K a b n
  omega
 |k+1,hk=>by
  have ih:=qcJ h n hn hr k (by omega)
  have h1:=(hr (n - (k+1)) (by omega)).1
  have h2:=(Ia (K:=K) h (n - (k+1)) (by omega)).1
  unfold JR at h1
  rw[tH]
  have h3:=qgR [rec (rA a b used (n - (k+1))) (lA a b used (n - (k+1))) (d9 a b used (n - (k+1))).2.2,CV (rA a b used (n - (k+1))) (YI a b (d9 a b used (n - (k+1))).2.2 (n - (k+1))) (tH rec a b used n k)]
  have h4:=Zw (rA a b used (n - (k+1))) (YI a b (d9 a b used (n - (k+1))).2.2 (n - (k+1))) (tH rec a b used n k)
  simp only[yj]at h3
  rw[show n - (k+1)+1=n - k by omega]at h2
  omega
theorem WU{K:Nat}{rec:Rc}{a b:ae}{used:List ag}{L:Nat}(h:E7 a b used L)(n:Nat)(hn:n+1=a.Args.length)(hr:∀i,i<a.Args.length->JR K rec (rA a b used i) (lA a b used i) (d9 a b used i).2.2/\JR K rec (lA a b used i) (rA a b used i) (d9 a b used i).2.2)(hK:20<=K)(k:Nat)(hk:k<n):
  yj [rec (rA a b used (n - (k+1))) (lA a b used (n - (k+1))) (d9 a b used (n - (k+1))).2.2,CV (rA a b used (n - (k+1))) (YI a b (d9 a b used (n - (k+1))).2.2 (n - (k+1))) (tH rec a b used n k)]<=nB K a b:=by
 have h0:=qcJ h n hn hr k (by omega)
 have h1:=(hr (n - (k+1)) (by omega)).1
 have h2:=(Ia (K:=K) h (n - (k+1)) (by omega)).1
 have h4:=Zw (rA a b used (n - (k+1))) (YI a b (d9 a b used (n - (k+1))).2.2 (n - (k+1))) (tH rec a b used n k)
 have h5:=Td K a b hK
 have h6:G5 K a b (n - (k+1))<=G5 K a b 0:=by
  unfold G5
  have m1:∀(l:List ae) (i:Nat),dv (l.drop i)<=dv l:=by
   intro l
   induction l with
   |nil=>intro i;simp
   |cons x l ih=>
    intro i
    cases i with
    |zero=>exact vah _
    |succ i=>have:=ih i;rw[vb7,dv];omega
  have m2:∀(l:List ae) (i:Nat),uA (l.drop i)<=uA l:=by
   intro l
   induction l with
   |nil=>intro i;simp
   |cons x l ih=>
    intro i
    cases i with
    |zero=>exact vah _
    |succ i=>have:=ih i;rw[vb7,uA];omega
  rw[vaV,vaV]
  have:=m1 a.Args (n - (k+1));have:=m1 b.Args (n - (k+1));have:=m2 a.Args (n - (k+1));have:=m2 b.Args (n - (k+1))
  exact Nat.add_le_add (vbK K (by omega)) (by omega)
 unfold JR at h1
 simp only[yj]
 rw[show n - (k+1)+1=n - k by omega]at h2
 omega
abbrev T9:Type:=Int×ag×ag×Int×ag×Int×List aa×Int×List ai
def t9(c:ai):T9:=(c.Op,c.Name,c.Sort_,c.Pred.Op,c.Pred.Name,c.Pred.N,c.Pred.Kids,c.Tag,c.Kids)
def ys(a b:ae)(used:List ag):Nat->List ag
 |0=>[]
 |i+1=>ys a b used i++[YI a b (d9 a b used i).2.2 i]
theorem Zo(a b:ae)(used:List ag):∀i,(ys a b used i).length=i
 |0=>rfl
 |i+1=>by rw[ys,vag,Zo];rfl
theorem qd8(a b:ae)(used:List ag)(i:Nat):∀n,i<n->(ys a b used n)[i]? =some (YI a b (d9 a b used i).2.2 i)
 |0,h=>absurd h (vaS _)
 | n + 1,h => by
  have hl:=Zo a b used n
  rw[ys]
  by_cases he:i=n
  ·subst he
   rw[vai (by omega),hl,vby];rfl
  ·rw[vaf (by omega)]
   exact qd8 a b used i n (by omega)
theorem Cr{α:Type}{l:List α}{i:Nat}{x:α}(h:l[i]? =some x):cz l (i:Int)=some x:=by
 have hlt:i<l.length:=by
  by_cases hc:i<l.length
  ·exact hc
  ·rw[vat (by omega)]at h;cases h
 rw[bo l i hlt,<-vab hlt,h]
theorem qcL{a b:ae}{used:List ag}{L:Nat}(h:E7 a b used L)(i:Nat)(hi:i<a.Args.length):
  mR (((d9 a b used i).2.2++a.Names.drop (i+1))++b.Names.drop (i+1)) (b.Names.getD i [120])=some (YI a b (d9 a b used i).2.2 i)/\sA ((b.Names.drop (i+1)++a.Names.drop (i+1))++(d9 a b used i).2.2) (b.Names.getD i [120])=some (YI a b (d9 a b used i).2.2 i):=by
 have h1:=Mo a b used i
 have h2:=iL a
 have h3:=iL b
 have h4:=h.u
 have h5:=qde a
 have h6:=fA a
 have h7:=h.la;have h8:=h.lb;have h9:=h.nl
 have hu:used.length+i<=10000000:=by
  have:a.Args.length<=dv (a.Args.map vw):=by have:=F8 (a.Args.map vw);rwa[vaF]at this
  omega
 have hbase:(b.Names.getD i [120]).length<=4000000000000000000:=by
  by_cases hb:i<b.Names.length
  ·rw[vac,vab hb,Option.getD_some]
   have:=((Aw _ _).1 h.nb).1 _ (vak hb)
   omega
  ·rw[vac,vat (by omega)]
   simp
 constructor
 ·exact(Al _ _ (by rw[vag,vag,vaY,vaY];omega) hbase).1
 ·rw[(Al _ _ (by rw[vag,vag,vaY,vaY];omega) hbase).2.1]
  unfold YI
  congr 1
  exact JS (fun x=>by simp only[vaE];constructor<;>(rintro((h|h)|h)<;>simp[h])) _
theorem Cv{σ X:Type}(n:Nat)(body:σ->Option (σ⊕X))(S:Nat->σ)(e:X)(hin:∀i,i<n->body (S i)=some (.inl (S (i+1))))(hend:body (S n)=some (.inr e)):loop body (S 0)=some e:=by
 have key:∀k i,k+i=n->loop body (S i)=some e:=by
  intro k
  induction k with
  |zero=>
   intro i hi
   have:i=n:=by omega
   subst this
   exact jV hend
  |succ k ih=>
   intro i hi
   rw[ql (hin i (by omega))]
   exact ih (i+1) (by omega)
 exact key n 0 (by omega)
theorem AK.okV{L:Nat}{l l':List ae}(h:AK L l l')(h1:∀t∈l,cn t<=10000000/\wT t<=10000000)(h3:L<=1000000000000000):∀x∈l',okV x:=fun x hx=>by
 obtain⟨t,ht,hl⟩:=h.mem hx
 have:=h1 t ht
 exact⟨by have:=hl.l;omega,by have:=hl.w;omega,FW h3 _ hl.n⟩
theorem E7.okVs{a b:ae}{used:List ag}{L:Nat}(h:E7 a b used L)(i:Nat)(hi:i<=a.Args.length):(∀x∈(d9 a b used i).1,okV x)/\(∀x∈(d9 a b used i).2.1,okV x):=by
 have hl:=P7 h i hi
 have h1:=fA a
 have c1:=h.la;have c2:=h.lb;have c3:=h.wa;have c4:=h.wb;have c5:=h.nl
 exact⟨hl.1.okV (fun t ht=>⟨by have:=gy ht;omega,by have:=L8 ht;omega⟩) (by omega),hl.2.okV (fun t ht=>⟨by have:=gy ht;omega,by have:=L8 ht;omega⟩) (by omega)⟩
theorem XY{α:Type}(l:List α)(i:Nat)(hi:i<4611686018427387904)(hl:l.length<4611686018427387904):N2 l (some (if(l.length:Int)<aR ((i:Int)+1)then(l.length:Int)else aR ((i:Int)+1))) none=some (l.drop (i+1)):=by
 rw[dB (by omega) (by omega)]
 by_cases h:(l.length:Int)<(i:Int)+1
 ·rw[vad h,Ft l l.length (vah _),vb1,vbD (by omega)]
 ·rw[vae h,show((i:Int)+1)=((i+1:Nat):Int) by omega,Ft l (i+1) (by omega)]
theorem qgX(a b:ae)(i:Nat)(taken:List ag)(hi:i<1000)(ha:a.Names.length<=1000)(hb:b.Names.length<=1000)(ht:taken.length<=100000000):fg (i:Int) [a,b] (([a,b]:List ae).length:Int) taken 0=some ((taken++a.Names.drop (i+1))++b.Names.drop (i+1)):=by
 unfold fg
 refine Cv 2 _ (fun k=>((match k with|0=>taken|1=>taken++a.Names.drop (i+1)|_=>(taken++a.Names.drop (i+1))++b.Names.drop (i+1)),(k:Int))) _ (fun k hk=>?_) ?_
 ·match k,hk with
  |0,_=>
   show cf (i:Int) [a,b] 2 taken 0=_
   unfold cf
   rw[vad (by decide),JV]
   simp only[vaa]
   rw[XY _ i (by omega) (by omega)]
   simp only[vaa]
   rw[cN (by rw[vaY];omega)]
   rfl
  |1,_=>
   show cf (i:Int) [a,b] 2 (taken++a.Names.drop (i+1)) 1=_
   unfold cf
   rw[vad (by decide),show cz [a,b] (1:Int)=some b from bo [a,b] 1 (by simp)]
   simp only[vaa]
   rw[XY _ i (by omega) (by omega)]
   simp only[vaa]
   rw[cN (by rw[vag,vaY,vaY];omega)]
   rfl
 ·show cf (i:Int) [a,b] 2 ((taken++a.Names.drop (i+1))++b.Names.drop (i+1)) 2=_
  unfold cf
  rw[vae (by decide)]
theorem qgW{a b:ae}{used:List ag}{L:Nat}(h:E7 a b used L)(n:Nat)(hn:n+1=a.Args.length):
  ff a b (n:Int) a.Args b.Args [] used 0=some ((d9 a b used n).1,(d9 a b used n).2.1,ys a b used n,(d9 a b used n).2.2):=by
 have h1:=fA a
 have h2:=iL a
 have h3:=iL b
 have c1:=h.la;have c2:=h.lb;have c6:=h.u
 unfold ff
 refine Cv n _ (fun i=>((d9 a b used i).1,(d9 a b used i).2.1,ys a b used i,(d9 a b used i).2.2,(i:Int))) _ (fun i hi=>?_) ?_
 ·show dl a b (n:Int) (d9 a b used i).1 (d9 a b used i).2.1 (ys a b used i) (d9 a b used i).2.2 (i:Int)=_
  have u1:=Mo a b used i
  have y1:=Zo a b used i
  have l1:=qcK a b used i
  have v1:=h.okVs i (by omega)
  have al:=h.al
  unfold dl
  rw[vad (by simp;omega)]
  have hj:fe b (i:Int)=some (b.Names.getD i [120]):=by
   unfold fe
   by_cases hb:i<b.Names.length
   ·rw[vad (by simp;omega),bo _ i hb,vac,vab hb];rfl
   ·rw[vae (by simp;omega),vac,vat (by omega)];rfl
  rw[hj]
  simp only[vaa]
  rw[AE _ (by omega)]
  simp only[vaa]
  rw[qgX a b i _ (by omega) (by omega) (by omega) (by omega)]
  simp only[vaa]
  rw[(qcL h i (by omega)).1]
  simp only[vaa]
  rw[cN (by simp;omega),cN (by simp;omega)]
  simp only[vaa]
  rw[Ks _ a i _ (by omega) (by omega) v1.1 (by omega)]
  simp only[vaa]
  rw[Ks _ b i _ (by omega) (by omega) v1.2 (by omega)]
  simp only[vaa]
  rw[dB (by omega) (by omega),show((i:Int)+1)=((i+1:Nat):Int) by omega]
  rfl
 ·show dl a b (n:Int) (d9 a b used n).1 (d9 a b used n).2.1 (ys a b used n) (d9 a b used n).2.2 (n:Int)=_
  unfold dl
  rw[vae (by simp)]
theorem Vz(R:d4)(m:aH)(tag:Int){K:Nat}{rec:Rc}{a b:ae}{used:List ag}{L:Nat}(h:E7 a b used L)(n:Nat)(hn:n+1=a.Args.length)(hr:∀i,i<a.Args.length->JR K rec (rA a b used i) (lA a b used i) (d9 a b used i).2.2/\JR K rec (lA a b used i) (rA a b used i) (d9 a b used i).2.2)(hK:20<=K)(hB:nB K a b<=bq)
  (hR:∀i,i<a.Args.length->R ⟨m,tag⟩ (rA a b used i) (lA a b used i) (d9 a b used i).2.2=some (rec (rA a b used i) (lA a b used i) (d9 a b used i).2.2)/\R ⟨m,tag⟩ (lA a b used i) (rA a b used i) (d9 a b used i).2.2=some (rec (lA a b used i) (rA a b used i) (d9 a b used i).2.2)):
  gw R ⟨m,tag⟩ a b used=some (tH rec a b used n n):=by
 have al:=h.al
 have h1:=fA a
 have c1:=h.la;have c2:=h.lb;have c6:=h.u
 unfold gw
 rw[AE _ (by omega)]
 simp only[vaa]
 rw[dB (n:=(b.Args.length:Int) - 1) (by omega) (by omega),show((b.Args.length:Int) - 1)=(n:Int) by omega,qgW h n hn]
 simp only[vaa]
 obtain⟨g1,g2,_,_⟩:=Qk h n n (by omega) (vah _)
 rw[Cr g1,Cr g2]
 simp only[vaa]
 rw[(hR n (by omega)).2]
 simp only[vaa]
 unfold it
 rw[dB (n:=(n:Int) - 1) (by omega) (by omega)]
 have e:=Cv n (fun(zz:Int×T9)=>ch R used ⟨m,tag⟩ (d9 a b used n).1 (d9 a b used n).2.1 (ys a b used n) (d9 a b used n).2.2 zz.1 zz.2.1 zz.2.2.1 zz.2.2.2.1 zz.2.2.2.2.1 zz.2.2.2.2.2.1 zz.2.2.2.2.2.2.1 zz.2.2.2.2.2.2.2.1 zz.2.2.2.2.2.2.2.2.1 zz.2.2.2.2.2.2.2.2.2) (fun k=>((n:Int) - 1 - (k:Int),t9 (tH rec a b used n k))) (t9 (tH rec a b used n n)) (fun k hk=>?_) ?_
 ·have e':(n:Int) - 1 - ((0:Nat):Int)=(n:Int) - 1:=by omega
  rw[e']at e
  rw[show loop (fun(zz:Int×T9)=>ch R used ⟨m,tag⟩ (d9 a b used n).1 (d9 a b used n).2.1 (ys a b used n) (d9 a b used n).2.2 zz.1 zz.2.1 zz.2.2.1 zz.2.2.2.1 zz.2.2.2.2.1 zz.2.2.2.2.2.1 zz.2.2.2.2.2.2.1 zz.2.2.2.2.2.2.2.1 zz.2.2.2.2.2.2.2.2.1 zz.2.2.2.2.2.2.2.2.2) ((n:Int) - 1,(rec (lA a b used n) (rA a b used n) (d9 a b used n).2.2).Op,(rec (lA a b used n) (rA a b used n) (d9 a b used n).2.2).Name,(rec (lA a b used n) (rA a b used n) (d9 a b used n).2.2).Sort_,(rec (lA a b used n) (rA a b used n) (d9 a b used n).2.2).Pred.Op,(rec (lA a b used n) (rA a b used n) (d9 a b used n).2.2).Pred.Name,(rec (lA a b used n) (rA a b used n) (d9 a b used n).2.2).Pred.N,(rec (lA a b used n) (rA a b used n) (d9 a b used n).2.2).Pred.Kids,(rec (lA a b used n) (rA a b used n) (d9 a b used n).2.2).Tag,(rec (lA a b used n) (rA a b used n) (d9 a b used n).2.2).Kids)=_ from e]
  show some (⟨(tH rec a b used n n).Op,(tH rec a b used n n).Name,(tH rec a b used n n).Sort_,⟨(tH rec a b used n n).Pred.Op,(tH rec a b used n n).Pred.Name,(tH rec a b used n n).Pred.N,(tH rec a b used n n).Pred.Kids⟩,(tH rec a b used n n).Tag,(tH rec a b used n n).Kids⟩:ai)=_
  rw[PX]
 ·show ch R used ⟨m,tag⟩ (d9 a b used n).1 (d9 a b used n).2.1 (ys a b used n) (d9 a b used n).2.2 ((n:Int) - 1 - (k:Int)) (tH rec a b used n k).Op (tH rec a b used n k).Name (tH rec a b used n k).Sort_ (tH rec a b used n k).Pred.Op (tH rec a b used n k).Pred.Name (tH rec a b used n k).Pred.N (tH rec a b used n k).Pred.Kids (tH rec a b used n k).Tag (tH rec a b used n k).Kids=_
  have hp:=WU h n hn hr hK k hk
  obtain⟨i,hi⟩:∃i,i=n - (k+1):=⟨_,rfl⟩
  have hin:i<n:=by omega
  rw[<-hi]at hp
  have ei:(n:Int) - 1 - (k:Int)=(i:Int):=by omega
  obtain⟨q1,q2,_,_⟩:=Qk h i n (by omega) (by omega)
  have ok:=h.child i (by omega)
  have ok1:=ok.1.lb
  have ok2:=ok.1.wb
  have w1:=rX (rA a b used i)
  have u1:=Mo a b used n
  have ht:=WV a b used i n (by omega)
  unfold ch
  rw[ei,vad (by simp),dB (n:=(used.length:Int)+i) (by omega) (by omega),show((used.length:Int)+(i:Int))=((used.length+i:Nat):Int) by omega,Zj _ _ (by omega),ht,Cr q2,Cr q1]
  simp only[vaa]
  rw[(hR i (by omega)).1,Cr (qd8 a b used i n hin)]
  simp only[vaa]
  rw[PX,qdo _ _ _ (by unfold bq;omega) (by unfold bq;omega)]
  simp only[vaa]
  rw[Zy _ (vaI hp hB)]
  simp only[vaa]
  rw[dB (by omega) (by omega),show(i:Int) - 1=(n:Int) - 1 - ((k+1:Nat):Int) by omega]
  have:tH rec a b used n (k+1)=Db (fO [rec (rA a b used i) (lA a b used i) (d9 a b used i).2.2,CV (rA a b used i) (YI a b (d9 a b used i).2.2 i) (tH rec a b used n k)]):=by rw[tH,<-hi]
  rw[this]
  rfl
 ·show ch R used ⟨m,tag⟩ (d9 a b used n).1 (d9 a b used n).2.1 (ys a b used n) (d9 a b used n).2.2 ((n:Int) - 1 - (n:Int)) (tH rec a b used n n).Op (tH rec a b used n n).Name (tH rec a b used n n).Sort_ (tH rec a b used n n).Pred.Op (tH rec a b used n n).Pred.Name (tH rec a b used n n).Pred.N (tH rec a b used n n).Pred.Kids (tH rec a b used n n).Tag (tH rec a b used n n).Kids=_
  unfold ch
  rw[vae (by simp;omega)]
  rfl
end Go.Proofs.YtbaamopmfmpfaaaGreatDoor
