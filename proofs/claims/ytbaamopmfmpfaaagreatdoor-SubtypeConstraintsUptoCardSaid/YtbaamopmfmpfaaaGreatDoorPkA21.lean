/- PROVED: a part of the proof. Conditions: none. -/
import Derived.Test.YtbaamopmfmpfaaaGreatDoorPkA20
import Derived.Test.YtbaamopmfmpfaaaGreatDoorPkA19
noncomputable section
namespace Go.Proofs.YtbaamopmfmpfaaaGreatDoor
open Go
set_option linter.unusedVariables false
set_option linter.unusedSimpArgs false
mutual
def Dc:ae->Prop
 |⟨_,_,xs,ns,_,_⟩=>(∀s∈ns,s≠[])/\SS xs
def SS:List ae->Prop
 |[]=>True
 |a::xs=>Dc a/\SS xs
end
theorem xv(t:ae):Dc t↔(∀s∈t.Names,s≠[])/\SS t.Args:=by obtain⟨o,n,xs,ns,p,ps⟩:=t;rw[Dc];exact Iff.rfl
theorem wn:∀(l:List ae),SS l↔∀t∈l,Dc t
 |[]=>by simp[SS]
 |a::l=>by rw[SS,wn l];simp
theorem qb7(s:ag):fy (sw s) (fun r=>(r !=0)=false->s≠[]):=by
 cases s with
 |nil=>exact VU (show sw []=some 3 by kernel_rfl) (fun h=>by cases h)
 |cons c s=>exact(SO (c::s)).mono fun _ _ _ h=>by cases h
theorem qbe(t:ae)(ht:cn t<=bq)(hp:nP t.Pred<=bq)(hq:∀q∈t.Preds,nP q<=bq):fy (Jg t) (fun r=>(r !=0)=false->∀s∈t.Names,s≠[]):=by
 unfold Jg
 have h1:=iL t
 have h2:=AV t
 have hb:bq=1073741824:=rfl
 refine ax (R:=fun _=>True) ?_ fun _ _=>aT (fun _=>aq (fun h=>by cases h)) fun _=>?_
 ·unfold Ev
  repeat' first|exact aq trivial|refine aT (fun _=>?_) (fun _=>?_)|refine cT (L9 _) ?_
 unfold Ex
 refine ax (tn t.Names (by omega) _ (fun s=>s≠[]) (fun _=>True) (fun i=>rfl) (fun x hx i=>ax (qb7 x) fun r hr=>aT (fun _=>aq trivial) fun h=>aq ⟨rfl,hr (by simpa using h)⟩)) fun o ho=>?_
 cases o with
 |inl _=>exact aq (fun h=>by cases h)
 | inr _ =>
  have ho:∀s∈t.Names,s≠[]:=ho
  refine ax (T6 t.Names (by omega)) fun _ _=>aT (fun _=>aq fun _=>ho) fun _=>cT (cN (by simp;omega)) ?_
  unfold Ez
  refine ax (tn ([t.Pred]++t.Preds) (by simp;omega) _ (fun _=>True) (fun _=>True) (fun i=>rfl) (fun x hx i=>?_)) fun o _=>?_
  ·have hxn:nP x<=bq:=by
    rcases vaE.1 hx with h|h
    ·rw[va3.1 h];exact hp
    ·exact hq x h
   refine ax (V8 x hxn) fun e _=>ax (R:=fun _=>True) ?_ fun _ _=>aT (fun _=>aq trivial) fun _=>aq ⟨rfl,trivial⟩
   unfold Ew
   exact cT (L9 _) (aT (fun _=>aq trivial) fun _=>aq trivial)
  ·cases o<;>exact aq fun _=>ho
theorem qa0(t:ae)(ht:cn t<=bq)(hp:H1 (fun p=>nP p<=bq) t):fy (Pu t) (fun r=>(r !=0)=false->Dc t):=by
 refine px (F:=HQ) cn (fun x=>cn x<=bq/\H1 (fun p=>nP p<=bq) x) (fun x r=>(r !=0)=false->Dc x) (fun R x hx ih=>?_) t ⟨ht,hp⟩ (ed ht)
 obtain⟨hx,hq⟩:=hx
 show fy (BP (fun t=>R t) x) _
 unfold BP Es
 have h1:=fA x
 have hq':=(qce _ _).1 hq
 refine ax (qbe x hx hq'.1 hq'.2.1) fun r hr=>aT (fun h=>aq (fun h'=>by rw[h]at h';cases h')) fun h=>ax (tn x.Args (by unfold bq at hx;omega) _ Dc (fun r=>(r !=0)=true) (fun i=>rfl) (fun y hy i=>ax (ih _ (gy hy) ⟨by have:=gy hy;omega,(SU _ _).1 hq'.2.2 y hy⟩) fun r hr=>aT (fun h=>aq h) fun h=>aq ⟨rfl,hr (by simpa using h)⟩)) fun o ho=>?_
 cases o with
 |inl r=>
  have ho:(r !=0)=true:=ho
  exact aq fun h'=>by rw[ho]at h';cases h'
 |inr _=>exact aq fun _=>(xv x).2 ⟨hr (by simpa using h),(wn _).2 ho⟩
theorem Ou(t:ae)(ht:cn t<=bq)(hp:H1 (fun p=>nP p<=bq) t):fy (Aq t) (fun r=>(r !=0)=false->Dc t):=by
 unfold Aq
 exact ax (V9 t ht) fun _ _=>aT (fun h=>aq (fun h'=>by rw[h]at h';cases h')) fun _=>ax (qa0 t ht hp) fun _ h=>aq h
theorem qcN(used:List ag)(base:ag)(h:used.length<=100000000)(hb:base≠[]):eQ used base≠[]:=by
 unfold eQ
 split
 ·have key:∀k n,mO used base k n=[]->(∀j,n<=j->j<n+k->base++Lib.decDigits j∈used):=by
   intro k
   induction k with
   |zero=>intro n _ j h1 h2;omega
   | succ k ih =>
    intro n hk j h1 h2
    rw[mO]at hk
    split at hk
    ·rename_i hc
     by_cases hj:j=n
     ·subst hj;simpa using hc
     ·exact ih (n+1) hk j (by omega) (by omega)
    ·exact absurd (List.append_eq_nil_iff.1 hk).1 hb
  intro he
  obtain⟨n,h1,h2,h3⟩:=WW used base
  exact h3 (key _ _ he n h1 (by omega))
 ·exact hb
theorem qct(t:ae)(c:Sb)(h:qbh t c)(he:∀s∈t.Names,s≠[]):∀i,i<=t.Args.length->∀s∈(jw t.Op t.Names (bM t c) i).2.2,s≠[]
 |0,_=>he
 | i + 1,hi => by
  have ih:=qct t c h he i (by omega)
  have h1:=ZC t.Op t.Names (bM t c) i
  have h2:=VQ t c
  have h3:=h.sz
  have h4:=h.w
  have h5:=fA t
  show ∀s∈(CW t.Op t.Names i (jw t.Op t.Names (bM t c) i)).2.2,s≠[]
  unfold CW
  split
  ·rename_i hc
   split
   ·intro s hs
    rcases vcj hs with hs|hs
    ·exact ih s hs
    ·rw[hs]
     exact qcN _ _ (by omega) (by rw[Cn _ i hc.2];exact he _ (vak hc.2))
   ·exact ih
  ·exact ih
theorem Zs:∀(n:Nat) (t:ae) (c:Sb),cn t<=n->qbh t c->Dc t->Dc (AC t c)
 |0,t,c,hn,_,_=>by have:=pd t;omega
 |n+1,t,c,hn,h,he=>by
  rw[xv]at he
  rw[UP,xv]
  refine⟨qct t c h he.1 _ (vah _),(wn _).2 fun x hx=>?_⟩
  obtain⟨y,hy,rfl⟩:=vaq.1 hx
  obtain⟨a,i⟩:=y
  obtain⟨h1,h2,h3⟩:=List.mem_zipIdx hy
  have h2:i<t.Args.length:=by omega
  have h3:a=t.Args[i]:=by simpa using h3
  subst h3
  exact Zs n _ _ (by have:=gy (vak h2:t.Args[i]∈t.Args);show cn t.Args[i]<=n;omega) (Vs h i h2) ((wn _).1 he.2 _ (vak h2))
structure J3(L:Nat)(t t':ae):Prop where
 l:cn t'=cn t
 w:wT t'<=wT t
 p:vw t'=vw t
 n:yh L t'
 e:Dc t'
theorem J3.step{L:Nat}{t t':ae}(h:J3 L t t')(x y:ag)(h1:cn t<=10000000)(h2:wT t<=10000000)(h3:L<=1000000000000000):J3 (L+10) t (AC t' (rS x (lN y))) where
 l:=by rw[ZY];exact h.l
 w:=vaI (qf7 _ _ (qbV x y)) h.w
 p:=by rw[qdD];exact h.p
 n:=Zt L _ _ h.n
 e:=Zs _ _ _ (vah _) (Vt x y (by have:=h.l;omega) (by have:=h.w;omega) (FW h3 _ h.n)) h.e
theorem J3.up{L M:Nat}{t t':ae}(h:J3 L t t')(hM:L<=M):J3 M t t':=⟨h.l,h.w,h.p,FW hM _ h.n,h.e⟩
def zt:ae:=⟨0,[],[],[],gQ,[]⟩
theorem L4(l:List ae)(ns:List ag)(i:Nat)(y:ag):(Fp l ns i y).length=l.length:=by
 unfold Fp
 split
 ·rw[vag,vaF,vaO,vaY];omega
 ·rfl
theorem L3(l:List ae)(ns:List ag)(i:Nat)(y:ag)(k:Nat):(Fp l ns i y)[k]? =if k<=i\/ns.length<=i then l[k]? else(l[k]?).map (fun t=>AC t (rS (ns.getD i []) (lN y))):=by
 unfold Fp
 by_cases hi:i<ns.length
 ·rw[vad hi]
  by_cases hk:k<=i
  ·rw[vad (.inl hk)]
   by_cases hl:k<l.length
   ·rw[vaf (by rw[vaO];omega),vap (by omega)]
   ·rw[vat (by rw[vag,vaF,vaO,vaY];omega),vat (by omega)]
  ·rw[vae (by omega)]
   by_cases hl:k<l.length
   ·rw[vai (by rw[vaO];omega),vaB,vbg,vaO,show i+1+(k - min (i+1) l.length)=k by omega]
   ·rw[vat (by rw[vag,vaF,vaO,vaY];omega),vat (by omega)]
    rfl
 ·rw[vae hi,vad (.inr (by omega))]
def AK(L:Nat)(l l':List ae):Prop:=l'.length=l.length/\∀(k:Nat) (t:ae),l[k]? =some t->∃t':ae,l'[k]? =some t'/\J3 L t t'
theorem AK.step{L:Nat}{l l':List ae}(h:AK L l l')(ns:List ag)(i:Nat)(y:ag)(h1:∀t∈l,cn t<=10000000/\wT t<=10000000)(h3:L<=1000000000000000):AK (L+10) l (Fp l' ns i y):=by
 refine⟨by rw[L4];exact h.1,fun k t ht=>?_⟩
 obtain⟨t',e,hl⟩:=h.2 k t ht
 have hm:=h1 t (vaA ht)
 rw[L3,e]
 split
 ·exact⟨t',rfl,hl.up (by omega)⟩
 ·exact⟨_,rfl,hl.step _ _ hm.1 hm.2 h3⟩
theorem AK.mem{L:Nat}{l l':List ae}(h:AK L l l'){x:ae}(hx:x∈l'):∃t∈l,J3 L t x:=by
 obtain⟨k,hk⟩:=vbh.1 hx
 have hlt:k<l'.length:=by
  by_cases hc:k<l'.length
  ·exact hc
  ·rw[vat (by omega)]at hk;cases hk
 have hlt2:k<l.length:=by rw[<-h.1];exact hlt
 obtain⟨t',e,hl⟩:=h.2 k l[k] (vab hlt2)
 rw[hk]at e
 cases e
 exact⟨_,vak hlt2,hl⟩
theorem AK.refl{L:Nat}{l:List ae}(hn:∀t∈l,yh L t)(he:∀t∈l,Dc t):AK L l l:=⟨rfl,fun k t ht=>⟨t,ht,rfl,vah _,rfl,hn t (vaA ht),he t (vaA ht)⟩⟩
abbrev FS:Type:=List ae×List ae×List ag
def YI(a b:ae)(u:List ag)(i:Nat):ag:=eQ ((u++a.Names.drop (i+1))++b.Names.drop (i+1)) (b.Names.getD i [120])
def qlI(a b:ae)(i:Nat)(s:FS):FS:=(Fp s.1 a.Names i (YI a b s.2.2 i),Fp s.2.1 b.Names i (YI a b s.2.2 i),s.2.2++[YI a b s.2.2 i])
def d9(a b:ae)(used:List ag):Nat->FS
 |0=>(a.Args,b.Args,used)
 |i+1=>qlI a b i (d9 a b used i)
theorem Mo(a b:ae)(used:List ag):∀i,(d9 a b used i).2.2.length=used.length+i
 |0=>rfl
 |i+1=>by
  have:=Mo a b used i
  show((d9 a b used i).2.2++[_]).length=_
  rw[vag,this];simp;omega
theorem WV(a b:ae)(used:List ag)(i:Nat):∀j,i<=j->(d9 a b used j).2.2.take (used.length+i)=(d9 a b used i).2.2
 |0,h=>by
  have:i=0:=by omega
  subst this
  exact vbm
 | j + 1,h => by
  by_cases he:i=j+1
  ·subst he
   have:=Mo a b used (j+1)
   rw[<-this,vbm]
  ·have ih:=WV a b used i j (by omega)
   have hl:=Mo a b used j
   show((d9 a b used j).2.2++[_]).take _=_
   rw[List.take_append_of_le_length (by omega)]
   exact ih
theorem qcK(a b:ae)(used:List ag):∀i,(d9 a b used i).1.length=a.Args.length/\(d9 a b used i).2.1.length=b.Args.length
 |0=>⟨rfl,rfl⟩
 |i+1=>by
  have:=qcK a b used i
  exact⟨(L4 _ _ _ _).trans this.1,(L4 _ _ _ _).trans this.2⟩
theorem ZO(a b:ae)(used:List ag)(i:Nat):∀j,i<=j->(d9 a b used j).1[i]? =(d9 a b used i).1[i]?/\(d9 a b used j).2.1[i]? =(d9 a b used i).2.1[i]?
 |0,h=>by
  have:i=0:=by omega
  subst this
  exact⟨rfl,rfl⟩
 | j + 1,h => by
  by_cases he:i=j+1
  ·subst he;exact⟨rfl,rfl⟩
  ·have ih:=ZO a b used i j (by omega)
   refine⟨Eq.trans ?_ ih.1,Eq.trans ?_ ih.2⟩
   ·exact(L3 _ _ _ _ i).trans (vad (.inl (by omega)))
   ·exact(L3 _ _ _ _ i).trans (vad (.inl (by omega)))
structure E7(a b:ae)(used:List ag)(L:Nat):Prop where
 pl:vw a=vw b
 la:cn a<=160
 lb:cn b<=160
 wa:wT a<=160
 wb:wT b<=160
 na:yh L a
 nb:yh L b
 nl:L+10 * nT a<=100000000000000
 u:used.length+nT a<=10000000
 ea:Dc a
 eb:Dc b
theorem E7.al{a b:ae}{used:List ag}{L:Nat}(h:E7 a b used L):a.Args.length=b.Args.length:=by
 have h1:=h.pl
 rw[Iu,Iu]at h1
 have:a.Args.map vw=b.Args.map vw:=by injection h1
 simpa using va9 List.length this
theorem L8{t x:ae}(h:x∈t.Args):wT x<=wT t:=by rw[rX t];have:=V1 h;omega
theorem P7{a b:ae}{used:List ag}{L:Nat}(h:E7 a b used L):∀i,i<=a.Args.length->AK (L+10 * i) a.Args (d9 a b used i).1/\AK (L+10 * i) b.Args (d9 a b used i).2.1
 |0,_=>⟨AK.refl ((FV _ _).1 ((Aw _ _).1 h.na).2) ((wn _).1 ((xv _).1 h.ea).2),AK.refl ((FV _ _).1 ((Aw _ _).1 h.nb).2) ((wn _).1 ((xv _).1 h.eb).2)⟩
 |i+1,hi=>by
  have ih:=P7 h i (by omega)
  have h1:=fA a
  have h2:=h.la
  have h3:=h.nl
  have h4:=h.lb
  have h5:=h.wa
  have h6:=h.wb
  have e:L+10 * (i+1)=L+10 * i+10:=by omega
  rw[e]
  exact⟨ih.1.step _ _ _ (fun t ht=>⟨by have:=gy ht;omega,by have:=L8 ht;omega⟩) (by omega),ih.2.step _ _ _ (fun t ht=>⟨by have:=gy ht;omega,by have:=L8 ht;omega⟩) (by omega)⟩
def lA(a b:ae)(used:List ag)(i:Nat):ae:=(d9 a b used i).1.getD i zt
def rA(a b:ae)(used:List ag)(i:Nat):ae:=(d9 a b used i).2.1.getD i zt
theorem Qk{a b:ae}{used:List ag}{L:Nat}(h:E7 a b used L)(i j:Nat)(hi:i<a.Args.length)(hj:i<=j):(d9 a b used j).1[i]? =some (lA a b used i)/\(d9 a b used j).2.1[i]? =some (rA a b used i)/\J3 (L+10 * i) (a.Args.getD i zt) (lA a b used i)/\J3 (L+10 * i) (b.Args.getD i zt) (rA a b used i):=by
 have hl:=P7 h i (by omega)
 have hg:=ZO a b used i j hj
 have hb:i<b.Args.length:=by rw[<-h.al];exact hi
 obtain⟨t,e,hk⟩:=hl.1.2 i _ (vab hi)
 obtain⟨t',e',hk'⟩:=hl.2.2 i _ (vab hb)
 have e1:lA a b used i=t:=by unfold lA;rw[vac,e];rfl
 have e2:rA a b used i=t':=by unfold rA;rw[vac,e'];rfl
 rw[hg.1,hg.2,e,e',e1,e2]
 refine⟨rfl,rfl,?_,?_⟩
 ·rw[vac,vab hi];exact hk
 ·rw[vac,vab hb];exact hk'
theorem E7.child{a b:ae}{used:List ag}{L:Nat}(h:E7 a b used L)(i:Nat)(hi:i<a.Args.length):E7 (lA a b used i) (rA a b used i) (d9 a b used i).2.2 (L+10 * i)/\E7 (rA a b used i) (lA a b used i) (d9 a b used i).2.2 (L+10 * i)/\nT (lA a b used i)<nT a/\nT (rA a b used i)<nT a:=by
 obtain⟨_,_,h1,h2⟩:=Qk h i i hi (vah _)
 have hb:i<b.Args.length:=by rw[<-h.al];exact hi
 rw[vac,vab hi]at h1
 rw[vac,vab hb]at h2
 have h1:J3 (L+10 * i) a.Args[i] (lA a b used i):=h1
 have h2:J3 (L+10 * i) b.Args[i] (rA a b used i):=h2
 have hpl:vw a.Args[i]=vw b.Args[i]:=by
  have h3:=h.pl
  rw[Iu,Iu]at h3
  have h4:a.Args.map vw=b.Args.map vw:=by injection h3
  have h5:(a.Args.map vw)[i]? =(b.Args.map vw)[i]?:=by rw[h4]
  rw[vaB,vaB,vab hi,vab hb]at h5
  simpa using h5
 have hm:=vak hi
 have hm':=vak hb
 have n1:=qe1 hm
 have n2:=qde a
 have e1:nT (lA a b used i)=nT a.Args[i]:=by unfold nT;rw[h1.p]
 have e2:nT (rA a b used i)=nT a.Args[i]:=by unfold nT;rw[h2.p,hpl]
 have p1:vw (lA a b used i)=vw (rA a b used i):=by rw[h1.p,h2.p,hpl]
 have u1:=Mo a b used i
 have a1:=gy hm;have a2:=gy hm';have a3:=L8 hm;have a4:=L8 hm'
 have b1:=h1.l;have b2:=h2.l;have b3:=h1.w;have b4:=h2.w
 have c1:=h.la;have c2:=h.lb;have c3:=h.wa;have c4:=h.wb;have c5:=h.nl;have c6:=h.u
 exact⟨⟨p1,by omega,by omega,by omega,by omega,h1.n,h2.n,by omega,by omega,h1.e,h2.e⟩,⟨p1.symm,by omega,by omega,by omega,by omega,h2.n,h1.n,by omega,by omega,h2.e,h1.e⟩,by omega,by omega⟩
abbrev Rc:Type:=ae->ae->List ag->ai
def tH(rec:Rc)(a b:ae)(used:List ag)(n:Nat):Nat->ai
 |0=>rec (lA a b used n) (rA a b used n) (d9 a b used n).2.2
 |k+1=>Db (fO [rec (rA a b used (n - (k+1))) (lA a b used (n - (k+1))) (d9 a b used (n - (k+1))).2.2,CV (rA a b used (n - (k+1))) (YI a b (d9 a b used (n - (k+1))).2.2 (n - (k+1))) (tH rec a b used n k)])
abbrev nB(K:Nat)(a b:ae):Nat:=K * (cn a+cn b)+4 * (wT a+wT b)
def JR(K:Nat)(rec:Rc)(a b:ae)(u:List ag):Prop:=nC (rec a b u)+8+nP a.Pred+nP b.Pred<=nB K a b
theorem Zw(t:ae)(x:ag)(c:ai):nC (CV t x c)<=nP t.Pred+nC c+1:=by
 have:=qck t x
 unfold CV
 split
 ·simp[nC,yj];omega
 ·omega
theorem qgR(l:List ai):nC (Db (fO l))<=2+yj l:=by
 have:=Jz l
 have e:nP gQ=1:=by simp[nP,nL,gQ]
 rw[nC];omega
theorem Qp(l:List ae)(i:Nat)(h:i<l.length):dv (l.drop i)=cn l[i]+dv (l.drop (i+1)):=by
 rw[va8 h,dv]
theorem X4(l:List ae)(i:Nat)(h:i<l.length):uA (l.drop i)=wT l[i]+uA (l.drop (i+1)):=by
 rw[va8 h,uA]
def G5(K:Nat)(a b:ae)(i:Nat):Nat:=K * (dv (a.Args.drop i)+dv (b.Args.drop i))+4 * (uA (a.Args.drop i)+uA (b.Args.drop i))
theorem Ia{K:Nat}{a b:ae}{used:List ag}{L:Nat}(h:E7 a b used L)(i:Nat)(hi:i<a.Args.length):nB K (rA a b used i) (lA a b used i)+G5 K a b (i+1)<=G5 K a b i/\nB K (lA a b used i) (rA a b used i)=nB K (rA a b used i) (lA a b used i):=by
 obtain⟨_,_,h1,h2⟩:=Qk h i i hi (vah _)
 have hb:i<b.Args.length:=by rw[<-h.al];exact hi
 rw[vac,vab hi]at h1
 rw[vac,vab hb]at h2
 have h1:J3 (L+10 * i) a.Args[i] (lA a b used i):=h1
 have h2:J3 (L+10 * i) b.Args[i] (rA a b used i):=h2
 have e1:=Qp a.Args i hi
 have e2:=Qp b.Args i hb
 have e3:=X4 a.Args i hi
 have e4:=X4 b.Args i hb
 have l1:=h1.l;have l2:=h2.l;have l3:=h1.w;have l4:=h2.w
 unfold nB G5
 rw[l1,l2,e1,e2,e3,e4]
 constructor
 ·have:K * (cn a.Args[i]+dv (a.Args.drop (i+1))+(cn b.Args[i]+dv (b.Args.drop (i+1))))=K * (cn b.Args[i]+cn a.Args[i])+K * (dv (a.Args.drop (i+1))+dv (b.Args.drop (i+1))):=by rw[<-Nat.mul_add];congr 1;omega
  rw[this];omega
 ·rw[vcd (cn a.Args[i])];omega
theorem Td(K:Nat)(a b:ae)(hK:20<=K):G5 K a b 0+16+nP a.Pred+nP b.Pred<=nB K a b:=by
 have h1:=tI a
 have h2:=tI b
 have h3:=rX a
 have h4:=rX b
 unfold G5 nB
 rw[vaV,vaV]
 have:K * (dv a.Args+dv b.Args)+K * 2<=K * (cn a+cn b):=by rw[<-Nat.mul_add];exact vbK K (by omega)
 omega
theorem qcJ{K:Nat}{rec:Rc}{a b:ae}{used:List ag}{L:Nat}(h:E7 a b used L)(n:Nat)(hn:n+1=a.Args.length)(hr:∀i,i<a.Args.length->JR K rec (rA a b used i) (lA a b used i) (d9 a b used i).2.2/\JR K rec (lA a b used i) (rA a b used i) (d9 a b used i).2.2):∀k,k<=n->nC (tH rec a b used n k)<=G5 K a b (n - k)
 |0,_=>by
  have h1:=(hr n (by omega)).2
  have h2:=Ia (K:=K) h n (by omega)
  unfold JR at h1
  show nC (rec (lA a b used n) (rA a b used n) (d9 a b used n).2.2)<=G5 K a b n
  omega
 |k+1,hk=>by
  have ih:=qcJ h n hn hr k (by omega)
  have h1:=(hr (n - (k+1)) (by omega)).1
  have h2:=(Ia (K:=K) h (n - (k+1)) (by omega)).1
  unfold JR at h1
  rw[tH]
  have h3:=qgR [rec (rA a b used (n - (k+1))) (lA a b used (n - (k+1))) (d9 a b used (n - (k+1))).2.2,CV (rA a b used (n - (k+1))) (YI a b (d9 a b used (n - (k+1))).2.2 (n - (k+1))) (tH rec a b used n k)]
  have h4:=Zw (rA a b used (n - (k+1))) (YI a b (d9 a b used (n - (k+1))).2.2 (n - (k+1))) (tH rec a b used n k)
  simp only[yj]at h3
  rw[show n - (k+1)+1=n - k by omega]at h2
  omega
theorem WU{K:Nat}{rec:Rc}{a b:ae}{used:List ag}{L:Nat}(h:E7 a b used L)(n:Nat)(hn:n+1=a.Args.length)(hr:∀i,i<a.Args.length->JR K rec (rA a b used i) (lA a b used i) (d9 a b used i).2.2/\JR K rec (lA a b used i) (rA a b used i) (d9 a b used i).2.2)(hK:20<=K)(k:Nat)(hk:k<n):yj [rec (rA a b used (n - (k+1))) (lA a b used (n - (k+1))) (d9 a b used (n - (k+1))).2.2,CV (rA a b used (n - (k+1))) (YI a b (d9 a b used (n - (k+1))).2.2 (n - (k+1))) (tH rec a b used n k)]<=nB K a b:=by
 have h0:=qcJ h n hn hr k (by omega)
 have h1:=(hr (n - (k+1)) (by omega)).1
 have h2:=(Ia (K:=K) h (n - (k+1)) (by omega)).1
 have h4:=Zw (rA a b used (n - (k+1))) (YI a b (d9 a b used (n - (k+1))).2.2 (n - (k+1))) (tH rec a b used n k)
 have h5:=Td K a b hK
 have h6:G5 K a b (n - (k+1))<=G5 K a b 0:=by
  unfold G5
  have m1:∀(l:List ae) (i:Nat),dv (l.drop i)<=dv l:=by
   intro l
   induction l with
   |nil=>intro i;simp
   |cons x l ih=>
    intro i
    cases i with
    |zero=>exact vah _
    |succ i=>have:=ih i;rw[vb7,dv];omega
  have m2:∀(l:List ae) (i:Nat),uA (l.drop i)<=uA l:=by
   intro l
   induction l with
   |nil=>intro i;simp
   |cons x l ih=>
    intro i
    cases i with
    |zero=>exact vah _
    |succ i=>have:=ih i;rw[vb7,uA];omega
  rw[vaV,vaV]
  have:=m1 a.Args (n - (k+1));have:=m1 b.Args (n - (k+1));have:=m2 a.Args (n - (k+1));have:=m2 b.Args (n - (k+1))
  exact Nat.add_le_add (vbK K (by omega)) (by omega)
 unfold JR at h1
 simp only[yj]
 rw[show n - (k+1)+1=n - k by omega]at h2
 omega
abbrev T9:Type:=Int×ag×ag×Int×ag×Int×List aa×Int×List ai
def t9(c:ai):T9:=(c.Op,c.Name,c.Sort_,c.Pred.Op,c.Pred.Name,c.Pred.N,c.Pred.Kids,c.Tag,c.Kids)
def ys(a b:ae)(used:List ag):Nat->List ag
 |0=>[]
 |i+1=>ys a b used i++[YI a b (d9 a b used i).2.2 i]
theorem Zo(a b:ae)(used:List ag):∀i,(ys a b used i).length=i
 |0=>rfl
 |i+1=>by rw[ys,vag,Zo];rfl
theorem qd8(a b:ae)(used:List ag)(i:Nat):∀n,i<n->(ys a b used n)[i]? =some (YI a b (d9 a b used i).2.2 i)
 |0,h=>absurd h (vaS _)
 | n + 1,h => by
  have hl:=Zo a b used n
  rw[ys]
  by_cases he:i=n
  ·subst he
   rw[vai (by omega),hl,vby];rfl
  ·rw[vaf (by omega)]
   exact qd8 a b used i n (by omega)
theorem Cr{α:Type}{l:List α}{i:Nat}{x:α}(h:l[i]? =some x):cz l (i:Int)=some x:=by
 have hlt:i<l.length:=by
  by_cases hc:i<l.length
  ·exact hc
  ·rw[vat (by omega)]at h;cases h
 rw[bo l i hlt,<-vab hlt,h]
theorem qcL{a b:ae}{used:List ag}{L:Nat}(h:E7 a b used L)(i:Nat)(hi:i<a.Args.length):mR (((d9 a b used i).2.2++a.Names.drop (i+1))++b.Names.drop (i+1)) (b.Names.getD i [120])=some (YI a b (d9 a b used i).2.2 i)/\sA ((b.Names.drop (i+1)++a.Names.drop (i+1))++(d9 a b used i).2.2) (b.Names.getD i [120])=some (YI a b (d9 a b used i).2.2 i):=by
 have h1:=Mo a b used i
 have h2:=iL a
 have h3:=iL b
 have h4:=h.u
 have h5:=qde a
 have h6:=fA a
 have h7:=h.la;have h8:=h.lb;have h9:=h.nl
 have hu:used.length+i<=10000000:=by
  have:a.Args.length<=dv (a.Args.map vw):=by have:=F8 (a.Args.map vw);rwa[vaF]at this
  omega
 have hbase:(b.Names.getD i [120]).length<=4000000000000000000:=by
  by_cases hb:i<b.Names.length
  ·rw[vac,vab hb,Option.getD_some]
   have:=((Aw _ _).1 h.nb).1 _ (vak hb)
   omega
  ·rw[vac,vat (by omega)]
   simp
 constructor
 ·exact(Al _ _ (by rw[vag,vag,vaY,vaY];omega) hbase).1
 ·rw[(Al _ _ (by rw[vag,vag,vaY,vaY];omega) hbase).2.1]
  unfold YI
  congr 1
  exact JS (fun x=>by simp only[vaE];constructor<;>(rintro((h|h)|h)<;>simp[h])) _
theorem Cv{σ X:Type}(n:Nat)(body:σ->Option (σ⊕X))(S:Nat->σ)(e:X)(hin:∀i,i<n->body (S i)=some (.inl (S (i+1))))(hend:body (S n)=some (.inr e)):loop body (S 0)=some e:=by
 have key:∀k i,k+i=n->loop body (S i)=some e:=by
  intro k
  induction k with
  |zero=>
   intro i hi
   have:i=n:=by omega
   subst this
   exact jV hend
  |succ k ih=>
   intro i hi
   rw[ql (hin i (by omega))]
   exact ih (i+1) (by omega)
 exact key n 0 (by omega)
theorem AK.okV{L:Nat}{l l':List ae}(h:AK L l l')(h1:∀t∈l,cn t<=10000000/\wT t<=10000000)(h3:L<=1000000000000000):∀x∈l',okV x:=fun x hx=>by
 obtain⟨t,ht,hl⟩:=h.mem hx
 have:=h1 t ht
 exact⟨by have:=hl.l;omega,by have:=hl.w;omega,FW h3 _ hl.n⟩
theorem E7.okVs{a b:ae}{used:List ag}{L:Nat}(h:E7 a b used L)(i:Nat)(hi:i<=a.Args.length):(∀x∈(d9 a b used i).1,okV x)/\(∀x∈(d9 a b used i).2.1,okV x):=by
 have hl:=P7 h i hi
 have h1:=fA a
 have c1:=h.la;have c2:=h.lb;have c3:=h.wa;have c4:=h.wb;have c5:=h.nl
 exact⟨hl.1.okV (fun t ht=>⟨by have:=gy ht;omega,by have:=L8 ht;omega⟩) (by omega),hl.2.okV (fun t ht=>⟨by have:=gy ht;omega,by have:=L8 ht;omega⟩) (by omega)⟩
theorem XY{α:Type}(l:List α)(i:Nat)(hi:i<4611686018427387904)(hl:l.length<4611686018427387904):N2 l (some (if(l.length:Int)<aR ((i:Int)+1)then(l.length:Int)else aR ((i:Int)+1))) none=some (l.drop (i+1)):=by
 rw[dB (by omega) (by omega)]
 by_cases h:(l.length:Int)<(i:Int)+1
 ·rw[vad h,Ft l l.length (vah _),vb1,vbD (by omega)]
 ·rw[vae h,show((i:Int)+1)=((i+1:Nat):Int) by omega,Ft l (i+1) (by omega)]
theorem qgX(a b:ae)(i:Nat)(taken:List ag)(hi:i<1000)(ha:a.Names.length<=1000)(hb:b.Names.length<=1000)(ht:taken.length<=100000000):fg (i:Int) [a,b] (([a,b]:List ae).length:Int) taken 0=some ((taken++a.Names.drop (i+1))++b.Names.drop (i+1)):=by
 unfold fg
 refine Cv 2 _ (fun k=>((match k with|0=>taken|1=>taken++a.Names.drop (i+1)|_=>(taken++a.Names.drop (i+1))++b.Names.drop (i+1)),(k:Int))) _ (fun k hk=>?_) ?_
 ·match k,hk with
  |0,_=>
   show cf (i:Int) [a,b] 2 taken 0=_
   unfold cf
   rw[vad (by decide),JV]
   simp only[vaa]
   rw[XY _ i (by omega) (by omega)]
   simp only[vaa]
   rw[cN (by rw[vaY];omega)]
   rfl
  |1,_=>
   show cf (i:Int) [a,b] 2 (taken++a.Names.drop (i+1)) 1=_
   unfold cf
   rw[vad (by decide),show cz [a,b] (1:Int)=some b from bo [a,b] 1 (by simp)]
   simp only[vaa]
   rw[XY _ i (by omega) (by omega)]
   simp only[vaa]
   rw[cN (by rw[vag,vaY,vaY];omega)]
   rfl
 ·show cf (i:Int) [a,b] 2 ((taken++a.Names.drop (i+1))++b.Names.drop (i+1)) 2=_
  unfold cf
  rw[vae (by decide)]
theorem qgW{a b:ae}{used:List ag}{L:Nat}(h:E7 a b used L)(n:Nat)(hn:n+1=a.Args.length):ff a b (n:Int) a.Args b.Args [] used 0=some ((d9 a b used n).1,(d9 a b used n).2.1,ys a b used n,(d9 a b used n).2.2):=by
 have h1:=fA a
 have h2:=iL a
 have h3:=iL b
 have c1:=h.la;have c2:=h.lb;have c6:=h.u
 unfold ff
 refine Cv n _ (fun i=>((d9 a b used i).1,(d9 a b used i).2.1,ys a b used i,(d9 a b used i).2.2,(i:Int))) _ (fun i hi=>?_) ?_
 ·show dl a b (n:Int) (d9 a b used i).1 (d9 a b used i).2.1 (ys a b used i) (d9 a b used i).2.2 (i:Int)=_
  have u1:=Mo a b used i
  have y1:=Zo a b used i
  have l1:=qcK a b used i
  have v1:=h.okVs i (by omega)
  have al:=h.al
  unfold dl
  rw[vad (by simp;omega)]
  have hj:fe b (i:Int)=some (b.Names.getD i [120]):=by
   unfold fe
   by_cases hb:i<b.Names.length
   ·rw[vad (by simp;omega),bo _ i hb,vac,vab hb];rfl
   ·rw[vae (by simp;omega),vac,vat (by omega)];rfl
  rw[hj]
  simp only[vaa]
  rw[AE _ (by omega)]
  simp only[vaa]
  rw[qgX a b i _ (by omega) (by omega) (by omega) (by omega)]
  simp only[vaa]
  rw[(qcL h i (by omega)).1]
  simp only[vaa]
  rw[cN (by simp;omega),cN (by simp;omega)]
  simp only[vaa]
  rw[Ks _ a i _ (by omega) (by omega) v1.1 (by omega)]
  simp only[vaa]
  rw[Ks _ b i _ (by omega) (by omega) v1.2 (by omega)]
  simp only[vaa]
  rw[dB (by omega) (by omega),show((i:Int)+1)=((i+1:Nat):Int) by omega]
  rfl
 ·show dl a b (n:Int) (d9 a b used n).1 (d9 a b used n).2.1 (ys a b used n) (d9 a b used n).2.2 (n:Int)=_
  unfold dl
  rw[vae (by simp)]
theorem Vz(R:d4)(m:aH)(tag:Int){K:Nat}{rec:Rc}{a b:ae}{used:List ag}{L:Nat}(h:E7 a b used L)(n:Nat)(hn:n+1=a.Args.length)(hr:∀i,i<a.Args.length->JR K rec (rA a b used i) (lA a b used i) (d9 a b used i).2.2/\JR K rec (lA a b used i) (rA a b used i) (d9 a b used i).2.2)(hK:20<=K)(hB:nB K a b<=bq)
  (hR:∀i,i<a.Args.length->R ⟨m,tag⟩ (rA a b used i) (lA a b used i) (d9 a b used i).2.2=some (rec (rA a b used i) (lA a b used i) (d9 a b used i).2.2)/\R ⟨m,tag⟩ (lA a b used i) (rA a b used i) (d9 a b used i).2.2=some (rec (lA a b used i) (rA a b used i) (d9 a b used i).2.2)):
  gw R ⟨m,tag⟩ a b used=some (tH rec a b used n n):=by
 have al:=h.al
 have h1:=fA a
 have c1:=h.la;have c2:=h.lb;have c6:=h.u
 unfold gw
 rw[AE _ (by omega)]
 simp only[vaa]
 rw[dB (n:=(b.Args.length:Int) - 1) (by omega) (by omega),show((b.Args.length:Int) - 1)=(n:Int) by omega,qgW h n hn]
 simp only[vaa]
 obtain⟨g1,g2,_,_⟩:=Qk h n n (by omega) (vah _)
 rw[Cr g1,Cr g2]
 simp only[vaa]
 rw[(hR n (by omega)).2]
 simp only[vaa]
 unfold it
 rw[dB (n:=(n:Int) - 1) (by omega) (by omega)]
 have e:=Cv n (fun(zz:Int×T9)=>ch R used ⟨m,tag⟩ (d9 a b used n).1 (d9 a b used n).2.1 (ys a b used n) (d9 a b used n).2.2 zz.1 zz.2.1 zz.2.2.1 zz.2.2.2.1 zz.2.2.2.2.1 zz.2.2.2.2.2.1 zz.2.2.2.2.2.2.1 zz.2.2.2.2.2.2.2.1 zz.2.2.2.2.2.2.2.2.1 zz.2.2.2.2.2.2.2.2.2) (fun k=>((n:Int) - 1 - (k:Int),t9 (tH rec a b used n k))) (t9 (tH rec a b used n n)) (fun k hk=>?_) ?_
 ·have e':(n:Int) - 1 - ((0:Nat):Int)=(n:Int) - 1:=by omega
  rw[e']at e
  rw[show loop (fun(zz:Int×T9)=>ch R used ⟨m,tag⟩ (d9 a b used n).1 (d9 a b used n).2.1 (ys a b used n) (d9 a b used n).2.2 zz.1 zz.2.1 zz.2.2.1 zz.2.2.2.1 zz.2.2.2.2.1 zz.2.2.2.2.2.1 zz.2.2.2.2.2.2.1 zz.2.2.2.2.2.2.2.1 zz.2.2.2.2.2.2.2.2.1 zz.2.2.2.2.2.2.2.2.2) ((n:Int) - 1,(rec (lA a b used n) (rA a b used n) (d9 a b used n).2.2).Op,(rec (lA a b used n) (rA a b used n) (d9 a b used n).2.2).Name,(rec (lA a b used n) (rA a b used n) (d9 a b used n).2.2).Sort_,(rec (lA a b used n) (rA a b used n) (d9 a b used n).2.2).Pred.Op,(rec (lA a b used n) (rA a b used n) (d9 a b used n).2.2).Pred.Name,(rec (lA a b used n) (rA a b used n) (d9 a b used n).2.2).Pred.N,(rec (lA a b used n) (rA a b used n) (d9 a b used n).2.2).Pred.Kids,(rec (lA a b used n) (rA a b used n) (d9 a b used n).2.2).Tag,(rec (lA a b used n) (rA a b used n) (d9 a b used n).2.2).Kids)=_ from e]
  show some (⟨(tH rec a b used n n).Op,(tH rec a b used n n).Name,(tH rec a b used n n).Sort_,⟨(tH rec a b used n n).Pred.Op,(tH rec a b used n n).Pred.Name,(tH rec a b used n n).Pred.N,(tH rec a b used n n).Pred.Kids⟩,(tH rec a b used n n).Tag,(tH rec a b used n n).Kids⟩:ai)=_
  rw[PX]
 ·show ch R used ⟨m,tag⟩ (d9 a b used n).1 (d9 a b used n).2.1 (ys a b used n) (d9 a b used n).2.2 ((n:Int) - 1 - (k:Int)) (tH rec a b used n k).Op (tH rec a b used n k).Name (tH rec a b used n k).Sort_ (tH rec a b used n k).Pred.Op (tH rec a b used n k).Pred.Name (tH rec a b used n k).Pred.N (tH rec a b used n k).Pred.Kids (tH rec a b used n k).Tag (tH rec a b used n k).Kids=_
  have hp:=WU h n hn hr hK k hk
  obtain⟨i,hi⟩:∃i,i=n - (k+1):=⟨_,rfl⟩
  have hin:i<n:=by omega
  rw[<-hi]at hp
  have ei:(n:Int) - 1 - (k:Int)=(i:Int):=by omega
  obtain⟨q1,q2,_,_⟩:=Qk h i n (by omega) (by omega)
  have ok:=h.child i (by omega)
  have ok1:=ok.1.lb
  have ok2:=ok.1.wb
  have w1:=rX (rA a b used i)
  have u1:=Mo a b used n
  have ht:=WV a b used i n (by omega)
  unfold ch
  rw[ei,vad (by simp),dB (n:=(used.length:Int)+i) (by omega) (by omega),show((used.length:Int)+(i:Int))=((used.length+i:Nat):Int) by omega,Zj _ _ (by omega),ht,Cr q2,Cr q1]
  simp only[vaa]
  rw[(hR i (by omega)).1,Cr (qd8 a b used i n hin)]
  simp only[vaa]
  rw[PX,qdo _ _ _ (by unfold bq;omega) (by unfold bq;omega)]
  simp only[vaa]
  rw[Zy _ (vaI hp hB)]
  simp only[vaa]
  rw[dB (by omega) (by omega),show(i:Int) - 1=(n:Int) - 1 - ((k+1:Nat):Int) by omega]
  have:tH rec a b used n (k+1)=Db (fO [rec (rA a b used i) (lA a b used i) (d9 a b used i).2.2,CV (rA a b used i) (YI a b (d9 a b used i).2.2 i) (tH rec a b used n k)]):=by rw[tH,<-hi]
  rw[this]
  rfl
 ·show ch R used ⟨m,tag⟩ (d9 a b used n).1 (d9 a b used n).2.1 (ys a b used n) (d9 a b used n).2.2 ((n:Int) - 1 - (n:Int)) (tH rec a b used n n).Op (tH rec a b used n n).Name (tH rec a b used n n).Sort_ (tH rec a b used n n).Pred.Op (tH rec a b used n n).Pred.Name (tH rec a b used n n).Pred.N (tH rec a b used n n).Pred.Kids (tH rec a b used n n).Tag (tH rec a b used n n).Kids=_
  unfold ch
  rw[vae (by simp;omega)]
  rfl
theorem TJ(t:ae)(i:Nat)(v:List ag)(hi:i<1000000)(hn:t.Names.length<=1000000)(hv:v.length<=100000000):Au t (i:Int) v=some (v++t.Names.drop (i+1)):=by
 unfold Au BX
 rw[dB (by omega) (by omega),show((i:Int)+1)=((i+1:Nat):Int) by omega]
 have e:=Cv ((t.Names.drop (i+1)).length) (fun(zz:(List ag)×Int)=>ig t zz.1 zz.2) (fun j=>(v++(t.Names.drop (i+1)).take j,((i+1+j:Nat):Int))) (v++t.Names.drop (i+1)) (fun j hj=>?_) ?_
 ·rw[List.take_zero,va1,Nat.add_zero]at e
  rw[e]
  rfl
 ·have hj':i+1+j<t.Names.length:=by rw[vaY]at hj;omega
  show ig t (v++(t.Names.drop (i+1)).take j) ((i+1+j:Nat):Int)=_
  unfold ig
  rw[vad (by simp;omega),bo _ _ hj']
  simp only[vaa]
  rw[cN (by simp;omega),dB (by omega) (by omega)]
  simp only[vaa]
  rw[vaM hj,List.getElem_drop,vba,show(((i+1+j:Nat):Int)+1)=((i+1+(j+1):Nat):Int) by omega]
 ·show ig t (v++(t.Names.drop (i+1)).take (t.Names.drop (i+1)).length) ((i+1+(t.Names.drop (i+1)).length:Nat):Int)=_
  unfold ig
  rw[vae (by simp;omega),vbm]
abbrev qt(t:ae)(l:List ae):ae:=⟨t.Op,t.Name,l,t.Names,t.Pred,t.Preds⟩
theorem VI(R:nw)(m:aH)(tag:Int){K:Nat}{rec:Rc}{a b:ae}{used:List ag}{L:Nat}(h:E7 a b used L)(n:Nat)(hn:n+1=a.Args.length)(hr:∀i,i<a.Args.length->JR K rec (rA a b used i) (lA a b used i) (d9 a b used i).2.2/\JR K rec (lA a b used i) (rA a b used i) (d9 a b used i).2.2)(hK:20<=K)(hB:nB K a b<=bq)
  (hR:∀i,i<a.Args.length->R m (rA a b used i) (lA a b used i) tag (d9 a b used i).2.2=some (rec (rA a b used i) (lA a b used i) (d9 a b used i).2.2,0)/\R m (lA a b used i) (rA a b used i) tag (d9 a b used i).2.2=some (rec (lA a b used i) (rA a b used i) (d9 a b used i).2.2,0)):
  BW R m a b 0 tag used=some (tH rec a b used n n,0):=by
 have al:=h.al
 have h1:=fA a
 have h2:=iL a
 have h3:=iL b
 have c1:=h.la;have c2:=h.lb;have c6:=h.u
 have key:=eP (F:=xp R) (fun x=>n - x.2.2.2.1.toNat) (fun x=>∃i:Nat,i<=n/\x=(m,qt a (d9 a b used i).1,qt b (d9 a b used i).2.1,(i:Int),tag,(d9 a b used i).2.2)) (fun x=>(tH rec a b used n (n - x.2.2.2.1.toNat),0)) (fun R2 x hx ih=>?_) (m,a,b,0,tag,used) ⟨0,by omega,by rw[show qt a (d9 a b used 0).1=a from Te a,show qt b (d9 a b used 0).2.1=b from Te b];rfl⟩ (ed (by show n - 0<=bq;unfold bq;omega))
 ·exact key
 ·obtain⟨i,hi,rfl⟩:=hx
  obtain⟨q1,q2,_,_⟩:=Qk h i i (by omega) (vah _)
  have l1:=qcK a b used i
  have u1:=Mo a b used i
  have v1:=h.okVs i (by omega)
  show qU R (fun m a a2 i tag used=>R2 (m,a,a2,i,tag,used)) m (qt a (d9 a b used i).1) (qt b (d9 a b used i).2.1) (i:Int) tag (d9 a b used i).2.2=some (tH rec a b used n (n - i),0)
  unfold qU
  have hlen:(qt b (d9 a b used i).2.1).Args.length=n+1:=by show(d9 a b used i).2.1.length=_;omega
  rw[hlen,dB (n:=((n+1:Nat):Int) - 1) (by omega) (by omega)]
  by_cases he:i=n
  ·subst he
   rw[vad (by simp),show(qt a (d9 a b used i).1).Args=(d9 a b used i).1 from rfl,show(qt b (d9 a b used i).2.1).Args=(d9 a b used i).2.1 from rfl,Cr q1,Cr q2]
   simp only[vaa]
   rw[(hR i (by omega)).2,vby]
   rfl
  ·have hin:i<n:=by omega
   have hne:∀s∈b.Names,s≠[]:=((xv _).1 h.eb).1
   have hnea:∀s∈a.Names,s≠[]:=((xv _).1 h.ea).1
   rw[vae (by simp;omega)]
   have hj:pz (i:Int) (qt b (d9 a b used i).2.1)=some (b.Names.getD i [120]):=by
    unfold pz uV
    show(if decide ((i:Int)<(b.Names.length:Int))=true then(cz b.Names (i:Int)).bind fun x8=>some (!(x8==([]:ag)))else some false).bind (fun o9=>if o9=true then(cz b.Names (i:Int)).bind fun x12=>some x12 else some ([120]:ag))=_
    by_cases hb:i<b.Names.length
    ·rw[vad (by simp;omega),bo _ i hb,vac,vab hb]
     simp only[vaa]
     rw[vad (by have:=hne _ (vak hb);simpa using this)]
     rfl
    ·rw[vae (by simp;omega),vac,vat (by omega)];rfl
   rw[hj]
   simp only[vaa]
   rw[TJ _ i [] (by omega) (by show b.Names.length<=_;omega) (by simp)]
   simp only[vaa]
   rw[TJ _ i _ (by omega) (by show a.Names.length<=_;omega) (by show(([]:List ag)++b.Names.drop (i+1)).length<=_;simp;omega)]
   simp only[vaa]
   rw[show(qt a (d9 a b used i).1).Names=a.Names from rfl,show(qt b (d9 a b used i).2.1).Names=b.Names from rfl,vaC,cN (by simp;omega)]
   simp only[vaa]
   rw[(qcL h i (by omega)).2,show(qt a (d9 a b used i).1).Args=(d9 a b used i).1 from rfl,show(qt b (d9 a b used i).2.1).Args=(d9 a b used i).2.1 from rfl,Cr q1,Cr q2]
   simp only[vaa]
   rw[(hR i (by omega)).1]
   simp only[vaa]
   rw[vae (by simp),Q2 (qt a (d9 a b used i).1) i _ (by show(d9 a b used i).1.length<=_;omega) (by show i<(d9 a b used i).1.length;omega) v1.1 (by show a.Names.length<=_;omega) hnea,Q2 (qt b (d9 a b used i).2.1) i _ (by show(d9 a b used i).2.1.length<=_;omega) (by show i<(d9 a b used i).2.1.length;omega) v1.2 (by show b.Names.length<=_;omega) hne]
   simp only[vaa]
   rw[cN (by simp;omega),vaC]
   simp only[vaa]
   rw[cN (by simp;omega)]
   simp only[vaa]
   rw[dB (by omega) (by omega),show((i:Int)+1)=((i+1:Nat):Int) by omega]
   have hi2:=ih (m,qt a (d9 a b used (i+1)).1,qt b (d9 a b used (i+1)).2.1,((i+1:Nat):Int),tag,(d9 a b used (i+1)).2.2) (by show n - (i+1)<n - i;omega) ⟨i+1,by omega,rfl⟩
   have hi3:R2 (m,qt a (d9 a b used (i+1)).1,qt b (d9 a b used (i+1)).2.1,((i+1:Nat):Int),tag,(d9 a b used (i+1)).2.2)=some (tH rec a b used n (n - (i+1)),0):=hi2
   refine(va9 (fun z=>Option.bind z _) hi3).trans ?_
   simp only[vaa]
   obtain⟨k,hk⟩:∃k,k=n - (i+1):=⟨_,rfl⟩
   have hki:i=n - (k+1):=by omega
   have hp:=WU h n hn hr hK k (by omega)
   have ok:=h.child i (by omega)
   have ok1:=ok.1.lb
   have ok2:=ok.1.wb
   have w1:=rX (rA a b used i)
   rw[vae (by simp),XJ _ _ _ (by unfold bq;omega) (by unfold bq;omega),<-hk]
   simp only[vaa]
   rw[<-hki]at hp
   rw[TH _ (vaI hp hB),show n - i=k+1 by omega]
   have:tH rec a b used n (k+1)=Db (fO [rec (rA a b used i) (lA a b used i) (d9 a b used i).2.2,CV (rA a b used i) (YI a b (d9 a b used i).2.2 i) (tH rec a b used n k)]):=by rw[tH,<-hki]
   rw[this]
   rfl
def yk(m:aH)(tag:Int):Nat->Rc
 |0=>fun _ _ _=>MC
 |k+1=>fun a b used=>if a.Op=6 then(if a.Args.length=0 then Db []else tH (yk m tag k) a b used (a.Args.length - 1) (a.Args.length - 1))else if xw a=true then JC m tag a b used else Db []
structure qe2(m:aH)(D:Nat):Prop where
 ds:m.Datas.length<=1048576
 dp:∀d∈m.Datas,d.Preds.length<=D
 D:D<=1048576
theorem E7.nB{a b:ae}{used:List ag}{L:Nat}(h:E7 a b used L){D:Nat}(hD:D<=1048576):nB (2 * D+20) a b<=bq:=by
 have c1:=h.la;have c2:=h.lb;have c3:=h.wa;have c4:=h.wb
 have:(2 * D+20) * (cn a+cn b)<=(2 * 1048576+20) * 320:=vcf (by omega) (by omega)
 show(2 * D+20) * (cn a+cn b)+4 * (wT a+wT b)<=bq
 unfold bq;omega
theorem qeI{a:ae}(h:xw a=true):a.Op≠6:=by
 unfold xw at h
 simp only[vbb,vao]at h
 omega
theorem th{m:aH}{D:Nat}(hm:qe2 m D)(tag:Int):∀(k:Nat) (a b:ae) (used:List ag) (L:Nat),E7 a b used L->nT a<=k->JR (2 * D+20) (yk m tag k) a b used
 |0,a,b,used,L,h,hk=>by have:1<=nT a:=pd _;omega
 | k + 1,a,b,used,L,h,hk => by
  have e:2 * (2 * D+20)<=(2 * D+20) * (cn a+cn b):=by
   rw[vcw];exact vbK _ (by have:=pd a;have:=pd b;omega)
  have w1:=rX a
  have w2:=rX b
  have z:nC (Db [])=2:=by simp[nC,yj,nP,nL,gQ]
  unfold JR
  show nC (if a.Op=6 then _ else _)+8+nP a.Pred+nP b.Pred<=(2 * D+20) * (cn a+cn b)+4 * (wT a+wT b)
  by_cases h6:a.Op=6
  ·rw[vad h6]
   by_cases h0:a.Args.length=0
   ·rw[vad h0,z];omega
   ·rw[vae h0]
    have h2:=qcJ (K:=2 * D+20) (rec:=yk m tag k) h (a.Args.length - 1) (by omega) (fun i hi=>by
     have hc:=h.child i hi
     exact⟨th hm tag k _ _ _ _ hc.2.1 (by omega),th hm tag k _ _ _ _ hc.1 (by omega)⟩) (a.Args.length - 1) (vah _)
    rw[vby]at h2
    have h3:=Td (2 * D+20) a b (by omega)
    have h4:nB (2 * D+20) a b=(2 * D+20) * (cn a+cn b)+4 * (wT a+wT b):=rfl
    omega
  ·rw[vae h6]
   by_cases hb:xw a=true
   ·rw[vad hb]
    have h2:=qeH m tag a b used D (H9 m a.Name D hm.dp)
    omega
   ·rw[vae hb,z];omega
theorem Tf{rec rec':Rc}{a b:ae}{used:List ag}(n:Nat)(h:∀i,i<=n->rec (rA a b used i) (lA a b used i) (d9 a b used i).2.2=rec' (rA a b used i) (lA a b used i) (d9 a b used i).2.2/\rec (lA a b used i) (rA a b used i) (d9 a b used i).2.2=rec' (lA a b used i) (rA a b used i) (d9 a b used i).2.2):∀k,k<=n->tH rec a b used n k=tH rec' a b used n k
 |0,_=>(h n (vah _)).2
 |k+1,hk=>by
  rw[tH,tH,Tf n h k (by omega),(h (n - (k+1)) (by omega)).1]
theorem wt{m:aH}(tag:Int):∀(k k':Nat) (a b:ae) (used:List ag) (L:Nat),E7 a b used L->nT a<=k->nT a<=k'->yk m tag k a b used=yk m tag k' a b used
 |0,k',a,b,used,L,h,hk,_=>by have:1<=nT a:=pd _;omega
 |k+1,0,a,b,used,L,h,_,hk=>by have:1<=nT a:=pd _;omega
 | k + 1,k' + 1,a,b,used,L,h,hk,hk' => by
  show(if a.Op=6 then _ else _)=(if a.Op=6 then _ else _)
  by_cases h6:a.Op=6
  ·rw[vad h6,vad h6]
   by_cases h0:a.Args.length=0
   ·rw[vad h0,vad h0]
   ·rw[vae h0,vae h0]
    refine Tf _ (fun i hi=>?_) _ (vah _)
    have hc:=h.child i (by omega)
    exact⟨wt tag k k' _ _ _ _ hc.2.1 (by omega) (by omega),wt tag k k' _ _ _ _ hc.1 (by omega) (by omega)⟩
  ·rw[vae h6,vae h6]
def N3(m:aH)(tag:Int)(a b:ae)(used:List ag):ai:=yk m tag (nT a) a b used
theorem E7.b{m:aH}{D:Nat}(hm:qe2 m D){a b:ae}{used:List ag}{L:Nat}(h:E7 a b used L):qkg m a b used where
 u:=by have:=h.u;omega
 la:=by have:=h.la;omega
 lb:=by have:=h.lb;omega
 wa:=by have:=h.wa;omega
 wb:=by have:=h.wb;omega
 ds:=by have:=hm.ds;omega
 dp:=fun d hd=>by have:=hm.dp d hd;have:=hm.D;omega
theorem qdI{m:aH}{D:Nat}(hm:qe2 m D)(tag:Int){a b:ae}{used:List ag}{L:Nat}(h:E7 a b used L):qb ⟨m,tag⟩ a b used=some (N3 m tag a b used):=by
 refine eP (F:=nf) (fun x=>nT x.2.1) (fun x=>x.1=⟨m,tag⟩/\∃L,E7 x.2.1 x.2.2.1 x.2.2.2 L) (fun x=>N3 m tag x.2.1 x.2.2.1 x.2.2.2) (fun R x hx ih=>?_) (⟨m,tag⟩,a,b,used) ⟨rfl,L,h⟩ (ed (by have:=Xk a;have:=h.la;show nT a<=bq;unfold bq;omega))
 obtain⟨w,a,b,used⟩:=x
 obtain⟨hw,L,h⟩:=hx
 have hw:w=⟨m,tag⟩:=hw
 subst hw
 have h:E7 a b used L:=h
 show jc (fun w a a2 used=>R (w,a,a2,used)) ⟨m,tag⟩ a b used=some (yk m tag (nT a) a b used)
 obtain⟨k,hk⟩:∃k,nT a=k+1:=⟨nT a - 1,by have:1<=nT a:=pd _;omega⟩
 have hs:yk m tag (nT a) a b used=if a.Op=6 then(if a.Args.length=0 then Db []else tH (yk m tag k) a b used (a.Args.length - 1) (a.Args.length - 1))else if xw a=true then JC m tag a b used else Db []:=by rw[hk];rfl
 rw[hs]
 unfold jc
 by_cases h6:a.Op=6
 ·rw[vad (by simpa using h6),vad h6]
  by_cases h0:a.Args.length=0
  ·rw[vad (by simp[h0]),vad h0];rfl
  ·rw[vae (by simpa using h0),vae h0]
   have hc:∀i,i<a.Args.length->yk m tag (nT (rA a b used i)) (rA a b used i) (lA a b used i) (d9 a b used i).2.2=yk m tag k (rA a b used i) (lA a b used i) (d9 a b used i).2.2/\yk m tag (nT (lA a b used i)) (lA a b used i) (rA a b used i) (d9 a b used i).2.2=yk m tag k (lA a b used i) (rA a b used i) (d9 a b used i).2.2:=fun i hi=>by
    have hc:=h.child i hi
    exact⟨wt tag _ _ _ _ _ _ hc.2.1 (vah _) (by omega),wt tag _ _ _ _ _ _ hc.1 (vah _) (by omega)⟩
   rw[Vz (fun w a a2 used=>R (w,a,a2,used)) m tag (K:=2 * D+20) (rec:=yk m tag k) h (a.Args.length - 1) (by omega) (fun i hi=>by
    have hc:=h.child i hi
    exact⟨th hm tag k _ _ _ _ hc.2.1 (by omega),th hm tag k _ _ _ _ hc.1 (by omega)⟩) (by omega) (h.nB hm.D) (fun i hi=>by
    have hch:=h.child i hi
    have:=hc i hi
    exact⟨(ih (⟨m,tag⟩,rA a b used i,lA a b used i,(d9 a b used i).2.2) (by show nT (rA a b used i)<nT a;omega) ⟨rfl,_,hch.2.1⟩).trans (va9 some this.1),(ih (⟨m,tag⟩,lA a b used i,rA a b used i,(d9 a b used i).2.2) (by show nT (lA a b used i)<nT a;omega) ⟨rfl,_,hch.1⟩).trans (va9 some this.2)⟩)]
   rfl
 ·rw[vae (by simpa using h6),vae h6,QG]
  simp only[vaa]
  cases hb:xw a with
  |false=>rfl
  |true=>
   rw[vae (by simp),vad rfl,qbu m tag a b used (h.b hm)]
   rfl
theorem qdV{m:aH}{D:Nat}(hm:qe2 m D)(tag:Int){a b:ae}{used:List ag}{L:Nat}(h:E7 a b used L):N9 m a b tag used=some (N3 m tag a b used,0):=by
 refine eP (F:=FO) (fun x=>nT x.2.1) (fun x=>x.1=m/\x.2.2.2.1=tag/\∃L,E7 x.2.1 x.2.2.1 x.2.2.2.2 L) (fun x=>(N3 m tag x.2.1 x.2.2.1 x.2.2.2.2,0)) (fun R x hx ih=>?_) (m,a,b,tag,used) ⟨rfl,rfl,L,h⟩ (ed (by have:=Xk a;have:=h.la;show nT a<=bq;unfold bq;omega))
 obtain⟨m',a,b,tag',used⟩:=x
 obtain⟨hw,hg,L,h⟩:=hx
 have hw:m'=m:=hw
 have hg:tag'=tag:=hg
 subst hw;subst hg
 have h:E7 a b used L:=h
 show wm (fun m a a2 tag used=>R (m,a,a2,tag,used)) m' a b tag' used=some (yk m' tag' (nT a) a b used,0)
 obtain⟨k,hk⟩:∃k,nT a=k+1:=⟨nT a - 1,by have:1<=nT a:=pd _;omega⟩
 have hs:yk m' tag' (nT a) a b used=if a.Op=6 then(if a.Args.length=0 then Db []else tH (yk m' tag' k) a b used (a.Args.length - 1) (a.Args.length - 1))else if xw a=true then JC m' tag' a b used else Db []:=by rw[hk];rfl
 rw[hs]
 unfold wm
 rw[TQ a b (by have:=h.la;unfold bq;omega),(VL a b).2 h.pl]
 simp only[vaa]
 rw[vae (by simp),XI]
 simp only[vaa]
 cases hb:xw a with
 |true=>
  rw[vad rfl,vae (qeI hb),vad rfl,qbI m' tag' a b used (h.b hm) hb]
  rfl
 | false =>
  rw[vae (by simp)]
  unfold HU
  by_cases h6:a.Op=6
  ·rw[vad (by simpa using h6),vad h6]
   simp only[vaa]
   by_cases h0:a.Args.length=0
   ·rw[vae (by simp[h0]),vad h0];rfl
   ·rw[vad (by simp;omega),vae h0]
    have hc:∀i,i<a.Args.length->yk m' tag' (nT (rA a b used i)) (rA a b used i) (lA a b used i) (d9 a b used i).2.2=yk m' tag' k (rA a b used i) (lA a b used i) (d9 a b used i).2.2/\yk m' tag' (nT (lA a b used i)) (lA a b used i) (rA a b used i) (d9 a b used i).2.2=yk m' tag' k (lA a b used i) (rA a b used i) (d9 a b used i).2.2:=fun i hi=>by
     have hc:=h.child i hi
     exact⟨wt tag' _ _ _ _ _ _ hc.2.1 (vah _) (by omega),wt tag' _ _ _ _ _ _ hc.1 (vah _) (by omega)⟩
    rw[VI (fun m a a2 tag used=>R (m,a,a2,tag,used)) m' tag' (K:=2 * D+20) (rec:=yk m' tag' k) h (a.Args.length - 1) (by omega) (fun i hi=>by
     have hc:=h.child i hi
     exact⟨th hm tag' k _ _ _ _ hc.2.1 (by omega),th hm tag' k _ _ _ _ hc.1 (by omega)⟩) (by omega) (h.nB hm.D) (fun i hi=>by
     have hch:=h.child i hi
     have:=hc i hi
     exact⟨(ih (m',rA a b used i,lA a b used i,tag',(d9 a b used i).2.2) (by show nT (rA a b used i)<nT a;omega) ⟨rfl,rfl,_,hch.2.1⟩).trans (va9 (fun z=>some (z,(0:Int))) this.1),(ih (m',lA a b used i,rA a b used i,tag',(d9 a b used i).2.2) (by show nT (lA a b used i)<nT a;omega) ⟨rfl,rfl,_,hch.1⟩).trans (va9 (fun z=>some (z,(0:Int))) this.2)⟩)]
    rfl
  ·rw[vae (by simpa using h6),vae h6]
   rfl
theorem qg1{m:aH}{D:Nat}(hm:qe2 m D)(tag:Int){a b:ae}{used:List ag}{L:Nat}(h:E7 a b used L):2 * nC (N3 m tag a b used)<=2 * bq/\nC (N3 m tag a b used)<=(2 * D+20) * (cn a+cn b)+4 * (wT a+wT b):=by
 have h1:=th hm tag (nT a) a b used L h (vah _)
 have h2:=h.nB hm.D
 unfold JR at h1
 unfold N3
 have h4:nB (2 * D+20) a b=(2 * D+20) * (cn a+cn b)+4 * (wT a+wT b):=rfl
 omega
theorem mI{α:Type}{l:List α}{i:Nat}{n most:Int}(h:i<l.length)(hm:n<=most):(if(decide ((i:Int)<(l.length:Int)))=true then some (decide (n<=most))else some false)=some true:=by
 rw[vad (by simp;omega),vbk hm]
theorem iV{α:Type}{l:List α}{i:Nat}{n most:Int}(h:i=l.length\/¬n<=most):(if(decide ((i:Int)<(l.length:Int)))=true then some (decide (n<=most))else some false)=some false:=by
 by_cases hi:i<l.length
 ·rw[vad (by simp;omega)]
  rcases h with h|h
  ·omega
  ·rw[decide_eq_false h]
 ·rw[vae (by simp;omega)]
theorem VT{α:Type}(l:List α)(hl:l.length<9223372036854775808){body:Int×Int->Option ((Int×Int)⊕Int)}(most:Int)(I:Nat->Int->Prop)
  (hin:∀(i:Nat) (h:i<l.length) n,I i n->n<=most->fy (body (n,(i:Int))) (fun r=>∃n',r=.inl (n',aR ((i:Int)+1))/\I (i+1) n'))
  (hout:∀(i:Nat) n,i<=l.length->(i=l.length\/¬n<=most)->body (n,(i:Int))=some (.inr n)) (n:Int) (h0:I 0 n):fy (loop body (n,0)) (fun r=>∃i,i<=l.length/\I i r/\(i=l.length\/¬r<=most)):=by
 have key:∀k i n,k+i=l.length->I i n->fy (loop body (n,(i:Int))) (fun r=>∃i,i<=l.length/\I i r/\(i=l.length\/¬r<=most)):=by
  intro k
  induction k with
  |zero=>
   intro i n hi hI
   rw[km,hout i n (by omega) (.inl (by omega))]
   exact aq ⟨i,by omega,hI,.inl (by omega)⟩
  | succ k ih =>
   intro i n hi hI
   by_cases hm:n<=most
   ·obtain⟨r,e,n',rfl,hI'⟩:=hin i (by omega) n hI hm
    rw[km,e]
    simp only
    rw[dB (by omega) (by omega),show((i:Int)+1)=((i+1:Nat):Int) by omega]
    exact ih (i+1) n' (by omega) hI'
   ·rw[km,hout i n (by omega) (.inr hm)]
    exact aq ⟨i,by omega,hI,.inr hm⟩
 exact key l.length 0 n (by omega) h0
theorem qdN(a b:Nat)(hb:0<b)(ha:a<9223372036854775808):qu .i64 (a:Int) (b:Int)=some ((a / b:Nat):Int):=by
 unfold qu
 rw[vae (by omega)]
 have h:((a:Int).tdiv (b:Int))=((a / b:Nat):Int):=by
  rw[vca (by omega)];rfl
 rw[h]
 have h2:=vcD a b
 generalize a / b=q at *
 congr 1
 exact dB (by omega) (by omega)
theorem Fe(p:aa):gf (ac p)=1+(p.Name.length+1+(1+(bZ (p.Kids.map ac)+1+0))):=by
 rw[aJ];simp only[gf,pm,sl]
theorem Tw{α:Type}(c:α->List PVal)(l:List α)(i:Nat)(h:i<l.length):bZ ((l.take (i+1)).map c)=bZ ((l.take i).map c)+gf (c l[i]):=by
 rw[vaM h,vbH]
 have:∀(a b:List (List PVal)),bZ (a++b)=bZ a+bZ b:=by
  intro a
  induction a with
  |nil=>intro b;simp[bZ]
  |cons x a ih=>intro b;rw[vaG,bZ,ih,bZ];omega
 rw[this]
 simp[bZ]
theorem wd{α:Type}(c:α->List PVal)(l:List α)(i:Nat):bZ ((l.take i).map c)<=bZ (l.map c):=by
 have:∀(l:List α) (i:Nat),bZ ((l.take i).map c)<=bZ (l.map c):=by
  intro l
  induction l with
  |nil=>intro i;simp
  |cons x l ih=>
   intro i
   cases i with
   |zero=>simp[bZ]
   |succ i=>have:=ih i;simp only[List.take_succ_cons,vay,bZ];omega
 exact this l i
theorem sY{α:Type}(c:α->List PVal)(h:∀x,1<=gf (c x)):∀(l:List α),l.length<=bZ (l.map c)
 |[]=>by simp
 |x::l=>by have:=sY c h l;have:=h x;simp only[vay,bZ,vaP];omega
theorem Xy(p:aa):1<=gf (ac p):=by rw[Fe];omega
theorem Xj(l:List aa):nL (l.take l.length)=nL l:=by rw[vbm]
abbrev A6:Nat:=4000000
structure qij(l:List aa)(most r:Int):Prop where
 lo:0<=r
 hi:r<=(bZ (l.map ac):Int)
 sm:r<=most->(nL l:Int)<=r
theorem qfb(l:List aa)(most:Int)(hl:bZ (l.map ac)<=A6)(h1: -8000000<=most)(h2:most<=1000000000):fy (KY l most) (qij l most):=by
 refine px (F:=Ec) (fun x=>bZ (x.1.map ac)) (fun x=>bZ (x.1.map ac)<=A6/\-8000000<=x.2/\x.2<=1000000000) (fun x r=>qij x.1 x.2 r) (fun R x hx ih=>?_) (l,most) ⟨hl,h1,h2⟩ (ed (vaI hl (by decide)))
 obtain⟨l,most⟩:=x
 obtain⟨hl,h1,h2⟩:=hx
 have hl:bZ (l.map ac)<=A6:=hl
 have h1: -8000000<=most:=h1
 have h2:most<=1000000000:=h2
 have hlen:=sY ac Xy l
 show fy (yG (fun a most=>R (a,most)) l most) _
 unfold yG BC
 unfold A6 at hl
 refine ax (VT l (by omega) most (fun i n=>0<=n/\n<=(bZ ((l.take i).map ac):Int)/\(n<=most->(nL (l.take i):Int)<=n)) (fun i hi n hI hm=>?_) (fun i n _ h=>?_) 0 ⟨by omega,by omega,fun _=>by simp[nL]⟩) (fun r hr=>aq ?_)
 ·obtain⟨g1,g2,g3⟩:=hI
  have e:=Tw ac l i hi
  have e2:=wd ac l (i+1)
  have ep:=Fe l[i]
  have en:=y4 l i hi
  have enp:=QD l[i]
  show fy (jJ (fun a most=>R (a,most)) l most n i) _
  unfold jJ vH
  rw[mI hi hm,bo l i hi]
  simp only[vaa,if_true]
  have hq:=vcD l[i].Name.length 50
  rw[show(50:Int)=((50:Nat):Int)from rfl,qdN _ 50 (by omega) (by omega)]
  simp only[vaa]
  rw[dB (n:=n+1) (by omega) (by omega),dB (n:=n+1+_) (by omega) (by omega),dB (n:=most - _) (by omega) (by omega)]
  refine ax (ih (l[i].Kids,most - (n+1+((l[i].Name.length / 50:Nat):Int))) (by show _<bZ (l.map ac);show bZ (l[i].Kids.map ac)<_;omega) ⟨by show bZ (l[i].Kids.map ac)<=A6;unfold A6;omega,by show -8000000<=most - _;omega,by show most - _<=1000000000;omega⟩) (fun r hr=>?_)
  have q1:=hr.lo
  have q2:r<=(bZ (l[i].Kids.map ac):Int):=hr.hi
  have q3:r<=most - (n+1+((l[i].Name.length / 50:Nat):Int))->(nL l[i].Kids:Int)<=r:=hr.sm
  rw[dB (n:=n+1+_+r) (by omega) (by omega)]
  refine aq ⟨_,rfl,by omega,by omega,fun hm'=>?_⟩
  have:=q3 (by omega)
  have:=g3 hm
  omega
 ·show jJ (fun a most=>R (a,most)) l most n i=_
  unfold jJ vH
  rw[iV h]
  rfl
 ·obtain⟨i,hi,⟨g1,g2,g3⟩,h⟩:=hr
  have e2:=wd ac l i
  refine⟨g1,by show r<=(bZ (l.map ac):Int);omega,fun hm=>?_⟩
  have hm:r<=most:=hm
  have:i=l.length:=by
   rcases h with h|h
   ·exact h
   ·exact absurd hm h
  subst this
  rw[Xj]at g3
  exact g3 hm
theorem YT(l:List ae)(i:Nat)(h:i<l.length):dv (l.take (i+1))=dv (l.take i)+cn l[i]:=by
 have ap:∀(a b:List ae),dv (a++b)=dv a+dv b:=by
  intro a
  induction a with
  |nil=>intro b;simp[dv]
  |cons x a ih=>intro b;rw[vaG,dv,ih,dv];omega
 rw[vaM h,ap]
 simp[dv]
theorem XC(t:ae):1<=gf (af t):=by rw[AS];omega
theorem TA(t:ae):gf (af t)=1+(t.Name.length+1)+(bZ (t.Args.map af)+1)+(bZ (t.Names.map cS)+1)+gf (ac t.Pred)+(bZ (t.Preds.map ac)+1):=by
 rw[AS,Fe];simp only[pm,sl];omega
structure qik(l:List ae)(most r:Int):Prop where
 lo:0<=r
 hi:r<=(bZ (l.map af):Int)
 sm:r<=most->(dv l:Int)<=r/\(uA l:Int)<=r
theorem qfq(l:List ae)(most:Int)(hl:bZ (l.map af)<=A6)(h1: -8000000<=most)(h2:most<=1000000000):fy (FH l most) (qik l most):=by
 refine px (F:=Ed) (fun x=>bZ (x.1.map af)) (fun x=>bZ (x.1.map af)<=A6/\-8000000<=x.2/\x.2<=1000000000) (fun x r=>qik x.1 x.2 r) (fun R x hx ih=>?_) (l,most) ⟨hl,h1,h2⟩ (ed (vaI hl (by decide)))
 obtain⟨l,most⟩:=x
 obtain⟨hl,h1,h2⟩:=hx
 have hl:bZ (l.map af)<=A6:=hl
 have h1: -8000000<=most:=h1
 have h2:most<=1000000000:=h2
 have hlen:=sY af XC l
 show fy (yH (fun a most=>R (a,most)) l most) _
 unfold yH BD
 unfold A6 at hl
 refine ax (VT l (by omega) most (fun i n=>0<=n/\n<=(bZ ((l.take i).map af):Int)/\(n<=most->(dv (l.take i):Int)<=n/\(uA (l.take i):Int)<=n)) (fun i hi n hI hm=>?_) (fun i n _ h=>?_) 0 ⟨by omega,by omega,fun _=>by simp[dv,uA]⟩) (fun r hr=>aq ?_)
 ·obtain⟨g1,g2,g3⟩:=hI
  have e:=Tw af l i hi
  have e2:=wd af l (i+1)
  have ep:=TA l[i]
  have epp:=Fe l[i].Pred
  have en:=YT l i hi
  have en2:=Fy l i hi
  have enp:=tI l[i]
  have enp2:=rX l[i]
  have hns:=ZX l[i].Names
  have hps:=qfV l[i].Preds
  have hpl:=Cx l[i].Preds
  show fy (jK (fun a most=>R (a,most)) l most n i) _
  unfold jK vI
  rw[mI hi hm,bo l i hi]
  simp only[vaa,if_true]
  have hq:=vcD l[i].Name.length 50
  rw[show(50:Int)=((50:Nat):Int)from rfl,qdN _ 50 (by omega) (by omega)]
  simp only[vaa]
  rw[cN (by simp;omega)]
  simp only[vaa]
  refine ax (qfb ([l[i].Pred]++l[i].Preds) most (by unfold A6;simp only[List.singleton_append,vay,bZ];omega) h1 h2) (fun rp hp=>?_)
  have p1:=hp.lo
  have p2:rp<=((gf (ac l[i].Pred)+bZ (l[i].Preds.map ac):Nat):Int):=by
   have:=hp.hi
   simp only[List.singleton_append,vay,bZ]at this
   exact this
  have p3:rp<=most->((nP l[i].Pred+nL l[i].Preds:Nat):Int)<=rp:=by
   have:=hp.sm
   simp only[List.singleton_append,nL]at this
   exact this
  rw[dB (n:=n+1) (by omega) (by omega),dB (n:=n+1+_) (by omega) (by omega),dB (n:=n+1+_+_) (by omega) (by omega),dB (n:=n+1+_+_+_) (by omega) (by omega),dB (n:=most - _) (by omega) (by omega)]
  refine ax (ih (l[i].Args,most - (n+1+((l[i].Name.length / 50:Nat):Int)+(l[i].Names.length:Int)+rp)) (by show _<bZ (l.map af);show bZ (l[i].Args.map af)<_;omega) ⟨by show bZ (l[i].Args.map af)<=A6;unfold A6;omega,by show -8000000<=most - _;omega,by show most - _<=1000000000;omega⟩) (fun r hr=>?_)
  have q1:=hr.lo
  have q2:r<=(bZ (l[i].Args.map af):Int):=hr.hi
  have q3:r<=most - (n+1+((l[i].Name.length / 50:Nat):Int)+(l[i].Names.length:Int)+rp)->(dv l[i].Args:Int)<=r/\(uA l[i].Args:Int)<=r:=hr.sm
  rw[dB (n:=_+r) (by omega) (by omega)]
  refine aq ⟨_,rfl,by omega,by omega,fun hm'=>?_⟩
  have:=q3 (by omega)
  have:=p3 (by omega)
  have:=g3 hm
  have:=Vq l[i].Pred
  omega
 ·show jK (fun a most=>R (a,most)) l most n i=_
  unfold jK vI
  rw[iV h]
  rfl
 ·obtain⟨i,hi,⟨g1,g2,g3⟩,h⟩:=hr
  have e2:=wd af l i
  refine⟨g1,by show r<=(bZ (l.map af):Int);omega,fun hm=>?_⟩
  have hm:r<=most:=hm
  have:i=l.length:=by
   rcases h with h|h
   ·exact h
   ·exact absurd hm h
  subst this
  rw[vbm]at g3
  exact g3 hm
theorem qgG(l:List ae)(most:Int)(hl:bZ (l.map af)<=A6)(h1:0<=most)(h2:most<=1000000000):fy (I1 ⟨0,[],0,[],[],[],l⟩ most) (fun r=>0<=r/\(r<=most->(dv l:Int)<=r/\(uA l:Int)<=r)):=by
 unfold I1
 refine px (F:=HG) (fun _=>0) (fun x=>x=(⟨0,[],0,[],[],[],l⟩,most)) (fun _ r=>0<=r/\(r<=most->(dv l:Int)<=r/\(uA l:Int)<=r)) (fun R x hx ih=>?_) _ rfl (ed (by decide))
 rw[hx]
 show fy (BB (fun a most=>R (a,most)) ⟨0,[],0,[],[],[],l⟩ most) _
 unfold BB
 refine cT (a:=0) (show qu .i64 0 50=some 0 by decide) ?_
 refine ax (qfq l most hl (by omega) h2) (fun r hr=>?_)
 have q1:=hr.lo
 have q2:=hr.hi
 have q3:=hr.sm
 unfold A6 at hl
 rw[dB (n:=1+0) (by omega) (by omega),dB (n:=1+0+r) (by omega) (by omega)]
 refine cT (a:=1+0+r) ?_ (cT (a:=1+0+r) ?_ (cT (a:=1+0+r) ?_ (aq ⟨by omega,fun h=>⟨by have:=(q3 (by omega)).1;omega,by have:=(q3 (by omega)).2;omega⟩⟩)))
 ·exact jV rfl
 ·exact jV rfl
 ·exact jV rfl
theorem iu{α:Type}(l:List α)(hl:l.length<9223372036854775808){body:Int×Int->Option ((Int×Int)⊕Int)}(most:Int)
  (hin:∀(i:Nat) (h:i<l.length) n,n<=most->fy (body (n,(i:Int))) (fun r=>∃n',r=.inl (n',aR ((i:Int)+1))))
  (hout:∀(i:Nat) n,i<=l.length->(i=l.length\/¬n<=most)->body (n,(i:Int))=some (.inr n)) (n:Int):fy (loop body (n,0)) (fun _=>True):=
 (VT l hl most (fun _ _=>True) (fun i h n _ hm=>(hin i h n hm).mono fun r ⟨n',e⟩=>⟨n',e,trivial⟩) hout n trivial).mono fun _ _=>trivial
theorem LZ(k:IntKind)(a b:Int)(hb:b≠0):fy (qu k a b) (fun _=>True):=by
 unfold qu;rw[vae hb];exact aq trivial
theorem CE(l:List aa)(most:Int)(hl:bZ (l.map ac)<=A6):fy (eV l most) (fun _=>True):=by
 refine px (F:=sH) (fun x=>bZ (x.1.map ac)) (fun x=>bZ (x.1.map ac)<=A6) (fun _ _=>True) (fun R x hx ih=>?_) (l,most) hl (ed (vaI hl (by decide)))
 obtain⟨l,most⟩:=x
 have hl:bZ (l.map ac)<=A6:=hx
 have hlen:=sY ac Xy l
 show fy (np (fun a most=>R (a,most)) l most) _
 unfold np qP
 unfold A6 at hl
 refine ax (iu l (by omega) most (fun i hi n hm=>?_) (fun i n _ h=>?_) 0) (fun r _=>aq trivial)
 ·have e:=xQ (vaq.2 ⟨_,vak hi,rfl⟩:ac l[i]∈l.map ac)
  have ep:=Fe l[i]
  show fy (fi (fun a most=>R (a,most)) l most n i) _
  unfold fi lP
  rw[mI hi hm,bo l i hi]
  simp only[vaa,if_true]
  exact ax (LZ _ _ _ (by decide)) fun q _=>ax (ih (l[i].Kids,_) (by show bZ (l[i].Kids.map ac)<bZ (l.map ac);omega) (by show bZ (l[i].Kids.map ac)<=A6;unfold A6;omega)) fun r _=>aq ⟨_,rfl⟩
 ·show fi (fun a most=>R (a,most)) l most n i=_
  unfold fi lP
  rw[iV h]
  rfl
theorem VC(p:aa):bZ ([p].map ac)=gf (ac p):=by simp[bZ]
theorem Gn(l:List ae)(most:Int)(hl:bZ (l.map af)<=A6):fy (fT l most) (fun _=>True):=by
 refine px (F:=sI) (fun x=>bZ (x.1.map af)) (fun x=>bZ (x.1.map af)<=A6) (fun _ _=>True) (fun R x hx ih=>?_) (l,most) hl (ed (vaI hl (by decide)))
 obtain⟨l,most⟩:=x
 have hl:bZ (l.map af)<=A6:=hx
 have hlen:=sY af XC l
 show fy (nq (fun a most=>R (a,most)) l most) _
 unfold nq qQ
 unfold A6 at hl
 refine ax (iu l (by omega) most (fun i hi n hm=>?_) (fun i n _ h=>?_) 0) (fun r _=>aq trivial)
 ·have e:=xQ (vaq.2 ⟨_,vak hi,rfl⟩:af l[i]∈l.map af)
  have ep:=TA l[i]
  show fy (fj (fun a most=>R (a,most)) l most n i) _
  unfold fj lQ
  rw[mI hi hm,bo l i hi]
  simp only[vaa,if_true]
  exact ax (LZ _ _ _ (by decide)) fun q _=>ax (CE _ _ (by unfold A6;omega)) fun _ _=>ax (CE _ _ (by rw[VC];unfold A6;omega)) fun _ _=>ax (ih (l[i].Args,_) (by show bZ (l[i].Args.map af)<bZ (l.map af);omega) (by show bZ (l[i].Args.map af)<=A6;unfold A6;omega)) fun r _=>aq ⟨_,rfl⟩
 ·show fj (fun a most=>R (a,most)) l most n i=_
  unfold fj lQ
  rw[iV h]
  rfl
theorem Kf(t:ae):bZ ([t].map af)=gf (af t):=by simp[bZ]
theorem XA(e:bX):gf (aZ e)=1+(e.Name.length+1)+1+(bZ (e.Kids.map aZ)+1)+(bZ (e.Params.map d5)+1)+(bZ (e.Alts.map fo)+1)+(bZ (e.Types.map af)+1):=by
 rw[ef];simp only[gf,pm,sl];omega
theorem qaa(a:uw):gf (fo a)=(a.Con.length+1)+(bZ (a.Names.map cS)+1)+gf (aZ a.Body):=by
 rw[tE,ef];simp only[gf,pm,sl];omega
theorem Tz(a:qc):gf (d5 a)=(a.Name.length+1)+gf (af a.Type_):=by
 unfold d5;rw[eG];simp only[gf,pm]
theorem LI(α:Type){c:α->List PVal}(h:∀x,1<=gf (c x)){l:List α}(hl:bZ (l.map c)<=A6):l.length<9223372036854775808:=by
 have:=sY c h l
 unfold A6 at hl;omega
theorem LL{α:Type}{c:α->List PVal}{l:List α}{i:Nat}(h:i<l.length):gf (c l[i])<=bZ (l.map c):=xQ (vaq.2 ⟨_,vak h,rfl⟩)
theorem qe7(e:bX)(most:Int)(he:gf (aZ e)<=A6):fy (K1 e most) (fun _=>True):=by
 refine px (F:=Ee) (fun x=>gf (aZ x.1)) (fun x=>gf (aZ x.1)<=A6) (fun _ _=>True) (fun R x hx ih=>?_) (e,most) he (ed (vaI he (by decide)))
 obtain⟨e,most⟩:=x
 have he:gf (aZ e)<=A6:=hx
 have hp:=XA e
 show fy (yI (fun a most=>R (a,most)) e most) _
 unfold yI BE BF BG
 refine ax (LZ _ _ _ (by decide)) fun q _=>ax (Gn _ _ (by omega)) fun _ _=>ax (iu e.Params (LI _ (fun x=>by rw[Tz];omega) (c:=d5) (by omega)) most (fun i hi n hm=>?_) (fun i n _ h=>?_) _) fun _ _=>ax (iu e.Kids (LI _ (fun x=>by rw[XA];omega) (c:=aZ) (by omega)) most (fun i hi n hm=>?_) (fun i n _ h=>?_) _) fun _ _=>ax (iu e.Alts (LI _ (fun x=>by rw[qaa];omega) (c:=fo) (by omega)) most (fun i hi n hm=>?_) (fun i n _ h=>?_) _) fun _ _=>aq trivial
 ·have:=LL (c:=d5) hi
  have:=Tz e.Params[i]
  show fy (jL most e n i) _
  unfold jL vJ
  rw[mI hi hm,bo _ i hi]
  simp only[vaa,if_true]
  exact ax (LZ _ _ _ (by decide)) fun q _=>ax (Gn _ _ (by rw[Kf];omega)) fun r _=>aq ⟨_,rfl⟩
 ·show jL most e n i=_
  unfold jL vJ
  rw[iV h]
  rfl
 ·have:=LL (c:=aZ) hi
  show fy (jM (fun a most=>R (a,most)) most e n i) _
  unfold jM vK
  rw[mI hi hm,bo _ i hi]
  simp only[vaa,if_true]
  exact ax (ih (e.Kids[i],_) (by show gf (aZ e.Kids[i])<gf (aZ e);omega) (by show gf (aZ e.Kids[i])<=A6;omega)) fun r _=>aq ⟨_,rfl⟩
 ·show jM (fun a most=>R (a,most)) most e n i=_
  unfold jM vK
  rw[iV h]
  rfl
 ·have:=LL (c:=fo) hi
  have:=qaa e.Alts[i]
  show fy (jN (fun a most=>R (a,most)) most e n i) _
  unfold jN vM
  rw[mI hi hm,bo _ i hi]
  simp only[vaa,if_true]
  exact ax (ih (e.Alts[i].Body,_) (by show gf (aZ e.Alts[i].Body)<gf (aZ e);omega) (by show gf (aZ e.Alts[i].Body)<=A6;omega)) fun r _=>aq ⟨_,rfl⟩
 ·show jN (fun a most=>R (a,most)) most e n i=_
  unfold jN vM
  rw[iV h]
  rfl
theorem Tx(b:ng):gf (db b)=(b.Name.length+1)+(bZ (b.Vars.map bH)+1)+gf (ac b.Hyp)+gf (ac b.Goal):=by
 unfold db;simp only[eG,gf,pm,sl];omega
theorem qfa(b:qbT):(bZ (b.Bounds.map db)+1)+gf (af b.Type_)+(bZ (b.Metric.map ac)+1)<=gf (Cf b):=by
 unfold Cf;simp only[eG,gf,pm,sl];omega
theorem qac(b:sd):(b.Name.length+1)+gf (aZ b.Body)+gf (Cf b.Sig)<=gf (dG b):=by
 unfold dG;simp only[eG,gf,pm,sl];omega
theorem qcC(l:List sd)(most:Int)(hl:bZ (l.map dG)<=A6):fy (oM l most) (fun _=>True):=by
 unfold oM sF
 refine ax (iu l (LI _ (fun x=>by have:=qac x;omega) hl) most (fun i hi n hm=>?_) (fun i n _ h=>?_) _) fun _ _=>aq trivial
 ·have h1:=LL (c:=dG) hi
  have h2:=qac l[i]
  have h3:=qfa l[i].Sig
  show fy (fF l most n i) _
  unfold fF nm sG
  rw[mI hi hm,bo _ i hi]
  simp only[vaa,if_true]
  refine ax (LZ _ _ _ (by decide)) fun q _=>ax (Gn _ _ (by rw[Kf];omega)) fun r _=>ax (CE _ _ (by omega)) fun _ _=>ax (iu l[i].Sig.Bounds (LI _ (fun x=>by rw[Tx];omega) (c:=db) (by omega)) most (fun k hk n hm=>?_) (fun k n _ h=>?_) _) fun _ _=>ax (qe7 _ _ (by omega)) fun _ _=>aq ⟨_,rfl⟩
  ·have h4:=LL (c:=db) hk
   have h5:=Tx l[i].Sig.Bounds[k]
   show fy (fG most l[i].Sig.Bounds n k) _
   unfold fG nn
   rw[mI hk hm,bo _ k hk]
   simp only[vaa,if_true]
   exact ax (CE _ _ (by simp only[vay,vbW,bZ];omega)) fun _ _=>aq ⟨_,rfl⟩
  ·show fG most l[i].Sig.Bounds n k=_
   unfold fG nn
   rw[iV h]
   rfl
 ·show fF l most n i=_
  unfold fF nm
  rw[iV h]
  rfl
theorem QT(m:aH):gf (aB m)=(bZ (m.Datas.map cH)+1)+(bZ (m.Classes.map fC)+1)+(bZ (m.Instances.map ca)+1)+(bZ (m.Measures.map dc)+1)+(bZ (m.Quals.map fw)+1)+(bZ (m.Defs.map dG)+1):=by
 unfold aB;simp only[gf,pm,sl];omega
theorem Kg(b:d8):gf (cH b)=(b.Name.length+1)+(bZ (b.Vars.map cS)+1)+(bZ (b.Preds.map bH)+1)+(bZ (b.Cons.map ec)+1):=by
 unfold cH;simp only[eG,gf,pm,sl];omega
theorem qab(b:ee):gf (ec b)=(b.Name.length+1)+(bZ (b.Names.map cS)+1)+(bZ (b.Fields.map af)+1):=by
 unfold ec;simp only[eG,gf,pm,sl];omega
theorem Ty(b:rV):gf (fC b)=(b.Name.length+1)+(b.Var.length+1)+(bZ (b.Methods.map ew)+1):=by
 unfold fC;simp only[eG,gf,pm,sl];omega
theorem QS(b:tP):gf (ew b)=(b.Name.length+1)+gf (af b.Type_):=by
 unfold ew;simp only[eG,gf,pm,sl]
theorem Kh(b:eA):1+gf (af b.Type_)+(bZ (b.Defs.map dG)+1)<=gf (ca b):=by
 unfold ca;simp only[eG,gf,pm,sl];omega
theorem My(b:gP):1+(bZ (b.Cases.map fP)+1)+gf (ac b.Inv)<=gf (dc b):=by
 unfold dc;simp only[eG,gf,pm,sl];omega
theorem Xz(b:C7):1+gf (ac b.Body)<=gf (fP b):=by
 unfold fP;simp only[eG,gf,pm,sl];omega
theorem XB(b:vD):1+gf (ac b.Body)<=gf (fw b):=by
 unfold fw;simp only[eG,gf,pm,sl];omega
theorem qfm(m:aH)(hm:gf (aB m)<=A6):fy (FI m) (fun _=>True):=by
 have hp:=QT m
 unfold FI
 refine ax (R:=fun _=>True) ?_ fun o _=>aT (fun _=>aq trivial) fun _=>?_
 ·unfold BH
  exact aT (fun _=>aq trivial) fun _=>aT (fun _=>aq trivial) fun _=>aT (fun _=>aq trivial) fun _=>aT (fun _=>aq trivial) fun _=>aT (fun _=>aq trivial) fun _=>aq trivial
 unfold BI BK zE zF zH
 refine ax (qcC _ _ (by omega)) fun _ _=>ax (iu m.Datas (LI _ (fun x=>by rw[Kg];omega) (c:=cH) (by omega)) 4000 (fun i hi n hn=>?_) (fun i n hi h=>?_) _) fun _ _=>ax (iu m.Classes (LI _ (fun x=>by rw[Ty];omega) (c:=fC) (by omega)) 4000 (fun i hi n hn=>?_) (fun i n hi h=>?_) _) fun _ _=>ax (iu m.Instances (LI _ (fun x=>by have:=Kh x;omega) (c:=ca) (by omega)) 4000 (fun i hi n hn=>?_) (fun i n hi h=>?_) _) fun _ _=>ax (iu m.Measures (LI _ (fun x=>by have:=My x;omega) (c:=dc) (by omega)) 4000 (fun i hi n hn=>?_) (fun i n hi h=>?_) _) fun _ _=>ax (iu m.Quals (LI _ (fun x=>by have:=XB x;omega) (c:=fw) (by omega)) 4000 (fun i hi n hn=>?_) (fun i n hi h=>?_) _) fun _ _=>aq trivial
 ·have h1:=LL (c:=cH) hi
  have h2:=Kg m.Datas[i]
  show fy (jO m n i) _
  unfold jO vN BJ
  rw[mI hi hn,bo _ i hi]
  simp only[vaa,if_true]
  refine ax (LZ _ _ _ (by decide)) fun q _=>ax (iu m.Datas[i].Cons (LI _ (fun x=>by rw[qab];omega) (c:=ec) (by omega)) 4000 (fun k hk n hn=>?_) (fun k n _ h=>?_) _) fun _ _=>aq ⟨_,rfl⟩
  ·have h3:=LL (c:=ec) hk
   have h4:=qab m.Datas[i].Cons[k]
   show fy (jP m i n k) _
   unfold jP vO
   rw[bo _ i hi]
   simp only[vaa]
   rw[mI hk hn,bo _ k hk]
   simp only[vaa,if_true]
   exact ax (Gn _ _ (by omega)) fun _ _=>aq ⟨_,rfl⟩
  ·show jP m i n k=_
   unfold jP vO
   rw[bo _ i hi]
   simp only[vaa]
   rw[iV h]
   rfl
 ·show jO m n i=_
  unfold jO vN
  rw[iV h]
  rfl
 ·have h1:=LL (c:=fC) hi
  have h2:=Ty m.Classes[i]
  show fy (jQ m n i) _
  unfold jQ vP BL
  rw[mI hi hn]
  simp only[vaa,if_true]
  refine ax (iu m.Classes[i].Methods (LI _ (fun x=>by rw[QS];omega) (c:=ew) (by omega)) 4000 (fun k hk n hn=>?_) (fun k n _ h=>?_) _) fun _ _=>aq ⟨_,rfl⟩
  ·have h3:=LL (c:=ew) hk
   have h4:=QS m.Classes[i].Methods[k]
   show fy (jR m i n k) _
   unfold jR vQ
   rw[bo _ i hi]
   simp only[vaa]
   rw[mI hk hn,bo _ k hk]
   simp only[vaa,if_true]
   exact ax (Gn _ _ (by rw[Kf];omega)) fun _ _=>aq ⟨_,rfl⟩
  ·show jR m i n k=_
   unfold jR vQ
   rw[bo _ i hi]
   simp only[vaa]
   rw[iV h]
   rfl
 ·show jQ m n i=_
  unfold jQ vP
  rw[iV h]
  rfl
 ·have h1:=LL (c:=ca) hi
  have h2:=Kh m.Instances[i]
  show fy (iC m n i) _
  unfold iC tu
  rw[mI hi hn,bo _ i hi]
  simp only[vaa,if_true]
  exact ax (Gn _ _ (by rw[Kf];omega)) fun _ _=>ax (qcC _ _ (by omega)) fun _ _=>aq ⟨_,rfl⟩
 ·show iC m n i=_
  unfold iC tu
  rw[iV h]
  rfl
 ·have h1:=LL (c:=dc) hi
  have h2:=My m.Measures[i]
  show fy (iD m n i) _
  unfold iD tv zG
  rw[mI hi hn,bo _ i hi]
  simp only[vaa,if_true]
  refine ax (CE _ _ (by rw[VC];omega)) fun _ _=>ax (iu m.Measures[i].Cases (LI _ (fun x=>by have:=Xz x;omega) (c:=fP) (by omega)) 4000 (fun k hk n hn=>?_) (fun k n _ h=>?_) _) fun _ _=>aq ⟨_,rfl⟩
  ·have h3:=LL (c:=fP) hk
   have h4:=Xz m.Measures[i].Cases[k]
   show fy (iE m i n k) _
   unfold iE tw
   rw[bo _ i hi]
   simp only[vaa]
   rw[mI hk hn,bo _ k hk]
   simp only[vaa,if_true]
   exact ax (CE _ _ (by rw[VC];omega)) fun _ _=>aq ⟨_,rfl⟩
  ·show iE m i n k=_
   unfold iE tw
   rw[bo _ i hi]
   simp only[vaa]
   rw[iV h]
   rfl
 ·show iD m n i=_
  unfold iD tv
  rw[iV h]
  rfl
 ·have h1:=LL (c:=fw) hi
  have h2:=XB m.Quals[i]
  show fy (iF m n i) _
  unfold iF tx
  rw[mI hi hn,bo _ i hi]
  simp only[vaa,if_true]
  exact ax (CE _ _ (by rw[VC];omega)) fun _ _=>aq ⟨_,rfl⟩
 ·show iF m n i=_
  unfold iF tx
  rw[iV h]
  rfl
theorem PG:FQ=some true:=by kernel_rfl
theorem qao(t:ae)(h:gf (af t)<=1048576):fy (Av t) (fun r=>(!r)=true\/(cn t<=160/\wT t<=160)):=by
 unfold Av
 refine ax (qgG [t] 150 (by rw[Kf];unfold A6;omega) (by omega) (by omega)) fun r hr=>aq ?_
 by_cases hc:r<=150
 ·have h1:=hr.2 hc
  simp only[dv,uA]at h1
  exact .inr ⟨by omega,by omega⟩
 ·exact .inl (by simp;omega)
theorem qiz(l:List ag)(h:l.length<9223372036854775808):fy (Oa l) (fun _=>True):=by
 unfold Oa HZ
 refine ax (A0 l h (fun i (_:Unit)=>i) (fun _ _=>True) (Q:=fun _=>True) (fun i hi s _=>?_) (fun s _=>?_) () trivial) fun o _=>by cases o<;>exact aq trivial
 ·show fy (ny l (i:Int)) _
  unfold ny HY
  rw[vad (by simp;omega)]
  refine ax (R:=fun _=>True) (aT (fun _=>aq trivial) fun _=>cT (bo l i hi) (aq trivial)) fun o _=>aT (fun _=>aq trivial) fun _=>aq ⟨(),rfl,trivial⟩
 ·show fy (ny l (l.length:Int)) _
  unfold ny
  rw[vae (by simp)]
  exact aq trivial
theorem qfh(x:aQ)(ha:cn x.A<=bq)(hb:cn x.B<=bq)(pa:H1 (fun p=>nP p<=bq) x.A)(pb:H1 (fun p=>nP p<=bq) x.B):fy (FT x) (fun r=>(!r)=true\/(Dc x.A/\Dc x.B)):=by
 unfold FT
 refine ax (Ou x.A ha pa) fun r hr=>aT (fun h=>?_) (fun _=>aq (.inl rfl))
 refine ax (Ou x.B hb pb) fun r' hr'=>aq ?_
 by_cases h':r'=0
 ·exact .inr ⟨hr (by simpa using h),hr' (by simpa using h')⟩
 ·exact .inl (by simpa using h')
structure qcR(m:aH)(x:aQ)(used:List ag):Prop where
 la:cn x.A<=160
 lb:cn x.B<=160
 wa:wT x.A<=160
 wb:wT x.B<=160
 ea:Dc x.A
 eb:Dc x.B
theorem VB(x:aQ):gf (aE x)=gf (af x.A)+gf (af x.B)+1:=by
 unfold aE;simp only[eG,gf,pm];omega
abbrev qeP(m:aH)(x:aQ)(used:List ag):Prop:=gf (aB m)+(gf (aE x)+(pm (sl cS used)+0))<=1048576
theorem qco{t:ae}(h:gf (af t)<=1048576):cn t<=bq/\H1 (fun p=>nP p<=bq) t:=⟨by have:=ZZ t;unfold bq;omega,SV (fun p hp=>vaI hp (by decide)) t (Zu 1048576 t h)⟩
theorem qeS(m:aH)(x:aQ)(used:List ag)(h:qeP m x used):fy (fu used m x) (fun o=>o=true\/qcR m x used):=by
 have hp:=VB x
 have hl:=ZX used
 have hu:pm (sl cS used)=bZ (used.map cS)+1:=by simp only[pm,sl]
 unfold qeP at h
 have ga:=qco (t:=x.A) (by omega)
 have gb:=qco (t:=x.B) (by omega)
 unfold fu
 refine ax (qfm m (by unfold A6;omega)) fun _ _=>aT (fun _=>aq (.inl rfl)) fun _=>ax (qao x.A (by omega)) fun r1 h1=>aT (fun _=>aq (.inl rfl)) fun n1=>ax (qao x.B (by omega)) fun r2 h2=>aT (fun _=>aq (.inl rfl)) fun n2=>ax (qiz used (by omega)) fun _ _=>aT (fun _=>aq (.inl rfl)) fun _=>ax (qfh x ga.1 gb.1 ga.2 gb.2) fun r3 h3=>aq ?_
 have h1:=h1.resolve_left n1
 have h2:=h2.resolve_left n2
 rcases h3 with h3|h3
 ·exact .inl h3
 ·exact .inr ⟨h1.1,h2.1,h1.2,h2.2,h3.1,h3.2⟩
theorem qcR.f{m:aH}{x:aQ}{used:List ag}(h:qcR m x used)(hf:qeP m x used)(hs:pu x.A x.B=true):E7 x.A x.B used 1048576/\E7 x.B x.A used 1048576:=by
 have hp:=VB x
 have hl:=ZX used
 have hu:pm (sl cS used)=bZ (used.map cS)+1:=by simp only[pm,sl]
 unfold qeP at hf
 have n1:=Xk x.A
 have n2:=Xk x.B
 have:=h.la;have:=h.lb
 have e:=(VL _ _).1 hs
 exact⟨⟨e,h.la,h.lb,h.wa,h.wb,Jv _ _ (by omega),Jv _ _ (by omega),by omega,by omega,h.ea,h.eb⟩,⟨e.symm,h.lb,h.la,h.wb,h.wa,Jv _ _ (by omega),Jv _ _ (by omega),by omega,by omega,h.eb,h.ea⟩⟩
theorem QR{α:Type}(c:α->List PVal)(h:∀x,2<=gf (c x)):∀(l:List α),2 * l.length<=bZ (l.map c)
 |[]=>by simp
 |x::l=>by have:=QR c h l;have:=h x;simp only[vay,bZ,vaP];omega
theorem qgT{m:aH}(h:gf (aB m)<=1048576):qe2 m 524288:=by
 have hp:=QT m
 have hd:=sY cH (fun x=>by rw[Kg];omega) m.Datas
 refine⟨by omega,fun d hd'=>?_,by decide⟩
 have h1:=xQ (vaq.2 ⟨d,hd',rfl⟩:cH d∈m.Datas.map cH)
 have h2:=Kg d
 have h3:=QR bH (fun x=>by unfold bH;simp only[gf,pm];omega) d.Preds
 omega
theorem qe6{m:aH}{a b:ae}{used:List ag}{L D:Nat}(hm:qe2 m D)(tag:Int)(hl:cn a<=bq)(h:pu a b=true->E7 a b used L):nc m a b tag used=some (if pu a b=true then(N3 m tag a b used,0)else(MC,12)):=by
 unfold nc
 rw[qbF a b hl]
 simp only[vaa]
 cases hs:pu a b with
 |false=>rfl
 |true=>
  rw[vae (by simp),qdI hm tag (h hs)]
  rfl
theorem qfg{m:aH}{a b:ae}{used:List ag}{L D:Nat}(hm:qe2 m D)(tag:Int)(hl:cn a<=bq)(h:pu a b=true->E7 a b used L):N9 m a b tag used=some (if pu a b=true then(N3 m tag a b used,0)else(MC,12)):=by
 cases hs:pu a b with
 |true=>exact qdV hm tag (h hs)
 |false=>
  refine eP (F:=FO) (fun _=>0) (fun x=>x=(m,a,b,tag,used)) (fun x=>(MC,12)) (fun R x hx ih=>?_) (m,a,b,tag,used) rfl (ed (by decide))
  rw[hx]
  show wm (fun m a a2 tag used=>R (m,a,a2,tag,used)) m a b tag used=some (MC,12)
  unfold wm
  rw[TQ a b hl,hs]
  rfl
theorem AR(m:aH)(x:aQ)(used:List ag)(h:gf (aB m)+(gf (aE x)+(pm (sl cS used)+0))<=1048576):kf m x used=some true:=by
 obtain⟨o,e,ho⟩:=qeS m x used h
 have hp:=VB x
 have hm:qe2 m 524288:=qgT (by omega)
 unfold kf
 rw[e]
 simp only[vaa]
 by_cases hc:o=true
 ·rw[vad hc,PG];rfl
 ·have hL:=ho.resolve_left hc
  have hf:pu x.A x.B=true->E7 x.A x.B used 1048576:=fun hs=>(hL.f h hs).1
  have hlen:cn x.A<=bq:=by have:=hL.la;unfold bq;omega
  rw[vae hc,qe6 hm x.Tag hlen hf,qfg hm x.Tag hlen hf]
  simp only[vaa]
  have hn:nC (if pu x.A x.B=true then(N3 m x.Tag x.A x.B used,(0:Int))else(MC,12)).1<=bq:=by
   cases hs:pu x.A x.B with
   |true=>have:=(qg1 hm x.Tag (hf hs)).1;show nC (N3 m x.Tag x.A x.B used)<=bq;omega
   |false=>show nC MC<=bq;decide
  generalize (if pu x.A x.B=true then(N3 m x.Tag x.A x.B used,(0:Int))else(MC,12))=z at hn
  rw[Zi _ hn]
  simp only[vaa,if_true]
  rw[vad (by simp),PG]
  rfl
end Go.Proofs.YtbaamopmfmpfaaaGreatDoor
