/- PROVED: a part of the proof. Conditions: none. -/
import Derived.Test.YtibglelmlnfojaaGreatDoorpa19
import Derived.Test.YtibglelmlnfojaaGreatDoorpa16
set_option linter.unusedSimpArgs false
set_option linter.unusedVariables false
noncomputable section
namespace Go.Proofs.YtibglelmlnfojaaGreatDoor
open Go
set_option linter.unusedVariables false
set_option linter.unusedSimpArgs false
def Cy(e:af):Prop:=∀x∈cp e,lJ x=some 0
theorem GT{e:af}(h:Cy e):lJ e=some 0:=h e (TZ e)
theorem Nd{e x:af}(h:Cy e)(hx:x∈ba e):Cy x:=λy hy=>h y (by rw[pd];exact vax _ (vcC.2 ⟨x,hx,hy⟩))
theorem E1{e x:af}(h:Cy e)(hx:x∈e.Kids):Cy x:=Nd h (vaV _ hx)
theorem Xg{e:af}{a:cf}(h:Cy e)(hx:a∈e.Alts):Cy a.Body:=Nd h (vaN _ (vaq.2 ⟨a,hx,rfl⟩))
theorem SF(e:af)(hs:FP e)(h:wd e=some 0):Cy e:=by
 have he:=Sb hs
 unfold wd at h
 rw[Fj e (pe he),Ks e (pe he),Q0 e he]at h
 simp only[vaa]at h
 rcases n9 h with⟨c,h⟩|⟨c,h⟩
 ·cases h
 rcases n9 h with⟨c,h⟩|⟨c,h⟩
 ·cases h
 intro x hx
 have h0:=DV _ (va3 h) x hx
 rw[(Fl (NK he hx)).1,h0]
theorem qga{r:ah}(h:CW 1 r):V7 r=none:=by
 cases e:V7 r with
 |none=>rfl
 |some x=>
  obtain⟨o,t⟩:=x
  have:=h o t e
  have:=(UN o).1
  omega
theorem qec{r:ah}(h:Pc r):aN Li r=none/\aN cd r=none:=by
 cases r with
 |nil=>exact⟨rfl,rfl⟩
 |cons c t=>
  have:=h c t rfl
  exact⟨by show aN [91] (c::t)=none;rw[aN,vab (λe=>this.2.2 e.symm)],by show aN [40] (c::t)=none;rw[aN,vab (λe=>this.2.1 e.symm)]⟩
theorem yV(w:ah)(R:ah)(h:(w.all pk&&(match w with|[]=>false|c::_=>!jX c.toNat))=true)(hR:xv R):L2 (w++R)=TQ w R:=by
 simp only[vaf]at h
 refine AQ (λc hc=>vak.1 h.1 c hc) ?_ hR
 cases w with
 |nil=>cases h.2
 |cons c t=>exact⟨c,t,rfl,by simpa using h.2⟩
theorem Ww:∀(n:Nat) (e:af),nE e<=n->Cy e->FP e->qaz (Bh n) e:=by
 intro n
 induction n with
 |zero=>intro e h;have:=JT e;omega
 | succ n ih =>
  intro e hn hg hs hf l r hl hr hst
  have hnode:=GT hg
  have hsh:=IG e hnode
  have hu:=Tn hnode
  have hK:∀x∈e.Kids,qaz (Bh n) x:=λx hx=>ih x (by have:=pX hx;omega) (E1 hg hx) (mB hs hx)
  have hKK:∀x∈e.Kids,∀y∈x.Kids,qaz (Bh n) y:=λx hx y hy=>ih y (by have:=pX hx;have:=pX hy;omega) (E1 (E1 hg hx) hy) (mB (mB hs hx) hy)
  have hA:∀a∈e.Alts,qaz (Bh n) a.Body:=λa ha=>ih a.Body (by have:=EO ha;omega) (Xg hg ha) (Fo hs ha)
  have hT:∀t∈e.Types,re t:=λt ht=>tK hs ht
  have hP:∀p∈e.Params,re p.Type_:=λp hp=>Fp hs hp
  have hse:=Tu hr
  have hrng:=hsh.rng
  obtain⟨nb1,nb2⟩:=qec hr
  rw[Ok]at hf ⊢
  generalize Bh n=f at hf hK hKK hA ⊢
  have unit:∀{s:ah},L2 s=some (jY e,r)->Dh l s=L0 l (jY e) r:=λ{s} h=>by rw[RR,h];rfl
  have low:D6 e=0->V7 r=none:=λh0=>qga (by unfold Ec at hst;rw[vad h0]at hst;exact hst)
  have l0:(e.Op=7\/e.Op=8\/e.Op=9\/e.Op=6\/e.Op=25)->D6 e=0:=λc=>by unfold D6;rw[vad c]
  unfold EF at hf ⊢
  by_cases h1:e.Op=1
  ·rw[vad h1,dC]
   have hself:jY e=⟨1,[],e.N,[],[],[],[]⟩:=by rw[jJ,h1,hu.nm (by omega) (by omega) (by omega) (by omega) (by omega),hu.k0 (.inl h1),hu.ps (by omega),hu.al (by omega),hu.ty (by omega) (by omega) (by omega) (by omega)];rfl
   refine unit ?_
   show L2 (LH e.N++r)=_
   unfold LH Lib.itoa
   by_cases hneg:e.N<0
   ·rw[vad hneg,vad hneg]
    have e0:Uh (45::Lib.decDigits e.N.natAbs)++r=40::(45::(Lib.decDigits e.N.natAbs++(bA++r))):=by simp[Uh,cd,vag]
    have o1:Pc (bA++r):=xf (c:=41) (by decide)
    have o2:V7 (bA++r)=none:=Tx (c:=41) (by decide)
    have hc:MW (eN 15 [⟨1,[],(e.N.natAbs:Int),[],[],[],[]⟩])=⟨1,[],e.N,[],[],[],[]⟩:=by
     have h0:MW (eN 15 [⟨1,[],(e.N.natAbs:Int),[],[],[],[]⟩])=⟨1,[],-(e.N.natAbs:Int),[],[],[],[]⟩:=rfl
     rw[h0,show -(e.N.natAbs:Int)=e.N by omega]
    rw[e0,zd,vab (by decide),vab (by decide),vad rfl,RR,zd,vab (by decide),vad rfl,RR,S5 (Tu o1)]
    simp only[vaa]
    rw[wq (Cj o2)]
    simp only[vaa]
    rw[wq (Cj o2)]
    simp only[vaa]
    rw[show aN aS (bA++r)=none from rfl]
    simp only[]
    rw[aT,hc,hself]
    rfl
   ·rw[vab hneg,vab hneg,S5 hse,hself,show(e.N.toNat:Int)=e.N by omega]
  rw[vab h1]at hf ⊢
  by_cases h2:e.Op=2
  ·rw[vad h2,dC]
   refine unit ?_
   have hself:jY e=⟨2,[],e.N,[],[],[],[]⟩:=by rw[jJ,h2,hu.nm (by omega) (by omega) (by omega) (by omega) (by omega),hu.k0 (.inr (.inl h2)),hu.ps (by omega),hu.al (by omega),hu.ty (by omega) (by omega) (by omega) (by omega)];rfl
   show L2 ((if e.N=1 then eC else eR)++r)=_
   by_cases hn1:e.N=1
   ·rw[vad hn1,yV eC r (by decide) hse,qp,vad rfl,hself,hn1]
   ·rw[vab hn1,yV eR r (by decide) hse,qp,vab (by decide),vad rfl,hself,(hu.n2 h2).resolve_right hn1]
  rw[vab h2]at hf ⊢
  have hN:=hu.n0 h1 h2
  by_cases h3:e.Op=3
  ·rw[vad h3,dC]at hf ⊢
   refine unit ?_
   have hself:jY e=⟨3,e.Name,0,[],[],[],[]⟩:=by rw[jJ,h3,hN,hu.k0 (.inr (.inr h3)),hu.ps (by omega),hu.al (by omega),hu.ty (by omega) (by omega) (by omega) (by omega)];rfl
   obtain⟨c1,c2⟩:=E7 hf
   have cw:=wk c1
   show L2 (e.Name++r)=_
   rw[AQ cw.1 cw.2.1 hse,Mg c1]
   unfold X9
   rw[nb1]
   simp only[vaa]
   rw[nb2,c2,hself]
   rfl
  rw[vab h3]at hf ⊢
  by_cases h4:e.Op=4
  ·rw [vad h4] at hf ⊢
   refine unit ?_
   rw[bT,ck]at hf ⊢
   obtain⟨f1,f2⟩:=tp hf
   obtain⟨f2,f3⟩:=tp f2
   obtain⟨c1,c2⟩:=E7 f1
   have cw:=wk c1
   have hself:jY e=⟨4,e.Name,0,e.Kids.map jY,[],[],e.Types.map wo⟩:=by rw[jJ,h4,hN,hu.ps (by omega),hu.al (by omega)];rfl
   by_cases hk:e.Kids=[]
   ·rw[vad hk]at f3 ⊢
    have e0:((qa true e.Name).1++((aJ (iZ e.Types)).1++(aJ []).1))++r=e.Name++((aJ (iZ e.Types)).1++r):=by simp[qa,aJ,vag]
    have hs2:xv ((aJ (iZ e.Types)).1++r):=by
     unfold iZ
     split
     ·exact hse
     ·show pk 91=false;decide
    simp only[]
    rw[e0,AQ cw.1 cw.2.1 hs2,Mg c1,qaA hT f2 (λc t e=>(hr c t e).2.2)]
    simp only[vaa]
    rw[nb2,c2,hself,hk]
    rfl
   ·rw[vab hk]at f3 ⊢
    obtain⟨u,e1,e2⟩:=I5 hk hK f3 r
    have e0:((qa true e.Name).1++((aJ (iZ e.Types)).1++(aJ (lh f e.Kids)).1))++r=e.Name++((aJ (iZ e.Types)).1++(cd++u)):=by rw[<-e1];simp[qa,vag]
    have hs2:xv ((aJ (iZ e.Types)).1++(cd++u)):=by
     unfold iZ
     split
     ·show pk 40=false;decide
     ·show pk 91=false;decide
    simp only[]
    rw[e0,AQ cw.1 cw.2.1 hs2,Mg c1,qaA hT f2 (λc t e=>by cases e;decide)]
    simp only[vaa]
    rw[aT]
    simp only[]
    rw[e2,c2,hself]
    rfl
  rw[vab h4]at hf ⊢
  by_cases h5:e.Op=5
  ·rw[vad h5]at hf ⊢
   refine unit ?_
   rw[bT,ck]at hf ⊢
   obtain⟨f1,f2⟩:=tp hf
   obtain⟨f2,f3⟩:=tp f2
   obtain⟨c1,c2⟩:=E7 f1
   have cw:=wk c1
   have hself:jY e=⟨5,e.Name,0,e.Kids.map jY,[],[],e.Types.map wo⟩:=by rw[jJ,h5,hN,hu.ps (by omega),hu.al (by omega)];rfl
   have hk:e.Kids≠[]:=λe0=>by have:=hsh.k5 h5;rw[e0]at this;simp at this
   obtain⟨u,e1,e2⟩:=I5 hk hK f3 r
   have e0:((qa false e.Name).1++((aJ (iZ e.Types)).1++(aJ (lh f e.Kids)).1))++r=e.Name++((aJ (iZ e.Types)).1++(cd++u)):=by rw[<-e1];simp[qa,vag]
   have hs2:xv ((aJ (iZ e.Types)).1++(cd++u)):=by
    unfold iZ
    split
    ·show pk 40=false;decide
    ·show pk 91=false;decide
   simp only[]
   rw[e0,AQ cw.1 cw.2.1 hs2,Mg c1,qaA hT f2 (λc t e=>by cases e;decide)]
   simp only[vaa]
   rw[aT]
   simp only[]
   rw[e2,c2,hself]
   rfl
  rw[vab h5]at hf ⊢
  by_cases h6:e.Op=6
  ·rw[vad h6]at hf ⊢
   refine unit ?_
   obtain⟨x,hx⟩:=hsh.k1 (.inl h6)
   have hself:jY e=⟨6,[],0,[jY x],e.Params.map Pa,[],[]⟩:=by rw[jJ,h6,hN,hx,hu.nm (by omega) (by omega) (by omega) (by omega) (by omega),hu.al (by omega),hu.ty (by omega) (by omega) (by omega) (by omega)];rfl
   have k0:kE f e.Kids 0=f x:=by rw[hx];rfl
   rw[k0,bT,ck]at hf ⊢
   have hf:=tp hf
   have hfx:(f x).2=false:=by simpa[aJ]using hf.2
   have hps:=qdh e.Params (hu.p6 h6) hP hf.1 ((f x).1++r)
   have e0:((tW mg).1++((aJ (eU ax (e.Params.map FB))).1++(aJ [tW aR,f x]).1))++r=Qt++(iF++((aJ (eU ax (e.Params.map FB))).1++(aR++((f x).1++r)))):=by simp[aJ,mg,Qt,iF,vag]
   simp only[]
   rw[e0,yV Qt _ (by decide) (by show pk 32=false;decide),qp,vab (by decide),vab (by decide),vad rfl,aT]
   simp only[vaa]
   rw[hps]
   simp only[vaa]
   rw[aT]
   simp only[vaa]
   rw[jp (hK x (by rw[hx];simp)) hfx hr (low (l0 (by omega))),hself]
   rfl
  rw[vab h6]at hf ⊢
  by_cases h7:e.Op=7
  ·rw [vad h7] at hf ⊢
   refine unit ?_
   obtain⟨x,y,hx⟩:=hsh.k2 (.inl h7)
   have k0:kE f e.Kids 0=f x:=by rw[hx];rfl
   have k1:kE f e.Kids 1=f y:=by rw[hx];rfl
   rw[k0,k1]at hf ⊢
   have hfx:(f x).2=false:=by
    cases hq:(f x).2 with
    |false=>rfl
    |true=>simp[aJ,hq]at hf
   have hfy:(f y).2=false:=by
    cases hq:(f y).2 with
    |false=>rfl
    |true=>simp[aJ,hq]at hf
   have hfn:(qa false e.Name).2=false:=by
    cases hq:(qa false e.Name).2 with
    |false=>rfl
    |true=>simp[aJ,hq]at hf
   have fin:∀(ts:List ae) (T:ah),(T=[]/\ts=[]\/∃t,T=aS++(xQ t).1/\ts=[wo t]/\re t/\(xQ t).2=false)->
     L2 (Oz++(ce++(e.Name++(T++(dY++((f x).1++(cP++((f y).1++r))))))))=some (⟨7,e.Name,0,[jY x,jY y],[],[],ts⟩,r):=by
    intro ts T hTs
    have hsT:xv (T++(dY++((f x).1++(cP++((f y).1++r))))):=by
     rcases hTs with⟨h,_⟩|⟨t,h,_⟩
     ·rw[h];show pk 32=false;decide
     ·rw[h];show pk 32=false;decide
    obtain⟨e1,e2⟩:=BI hfn hsT
    have hlt:qcn (T++(dY++((f x).1++(cP++((f y).1++r)))))=some (ts,dY++((f x).1++(cP++((f y).1++r)))):=by
     unfold qcn
     rcases hTs with⟨h,h'⟩|⟨t,h,h',h2,h3⟩
     ·rw[h,h']
      rfl
     ·rw[h,h',vag,aT]
      simp only[]
      rw[Cf (r:=dY++_) h2 h3 (V3 (d:=61) (by decide))]
      rfl
    rw[yV Oz _ (by decide) (by show pk 32=false;decide),qp,vab (by decide),vab (by decide),vab (by decide),vad rfl,aT]
    simp only[vaa]
    rw[e2,e1,hlt]
    simp only[vaa]
    rw[aT]
    simp only[vaa]
    rw[jp (r:=cP++_) (hK x (by rw[hx];simp)) hfx (xf (c:=32) (by decide)) rfl]
    simp only[vaa]
    rw[aT]
    simp only[vaa]
    rw[jp (hK y (by rw[hx];simp)) hfy hr (low (l0 (.inl h7)))]
    rfl
   rcases hu.t7 h7 with ht|⟨t,ht⟩
   ·have hself:jY e=⟨7,e.Name,0,[jY x,jY y],[],[],[]⟩:=by rw[jJ,h7,hN,hx,hu.ps (by omega),hu.al (by omega),ht];rfl
    have:=fin [] [] (.inl ⟨rfl,rfl⟩)
    rw[ht,hself,<-this]
    congr 1
    simp[aJ,qa,tQ,Oz,ce,vag]
   ·have hself:jY e=⟨7,e.Name,0,[jY x,jY y],[],[],[wo t]⟩:=by rw[jJ,h7,hN,hx,hu.ps (by omega),hu.al (by omega),ht];rfl
    rw[ht]at hf ⊢
    have hft:(xQ t).2=false:=by
     cases hq:(xQ t).2 with
     |false=>rfl
     |true=>simp[aJ,hq]at hf
    have:=fin [wo t] _ (.inr ⟨t,rfl,rfl,hT t (by rw[ht];simp),hft⟩)
    rw[hself,<-this]
    congr 1
    simp[aJ,qa,tQ,Oz,ce,vag]
  rw[vab h7]at hf ⊢
  by_cases h8:e.Op=8
  ·rw[vad h8]at hf ⊢
   refine unit ?_
   obtain⟨x,y,z,hx⟩:=hsh.k3 h8
   have k0:kE f e.Kids 0=f x:=by rw[hx];rfl
   have k1:kE f e.Kids 1=f y:=by rw[hx];rfl
   have k2:kE f e.Kids 2=f z:=by rw[hx];rfl
   rw[k0,k1,k2]at hf ⊢
   have hfs:(f x).2=false/\(f y).2=false/\(f z).2=false:=by simpa[aJ]using hf
   have hself:jY e=eN 8 [jY x,jY y,jY z]:=by rw[jJ,h8,hN,hx,hu.nm (by omega) (by omega) (by omega) (by omega) (by omega),hu.ps (by omega),hu.al (by omega),hu.ty (by omega) (by omega) (by omega) (by omega)];rfl
   have e0:(aJ [tW Ct,f x,tW fF,f y,tW fE,f z]).1++r=Ys++(ce++((f x).1++(fF++((f y).1++(fE++((f z).1++r)))))):=by simp[aJ,Ct,Ys,ce,vag]
   rw[e0,yV Ys _ (by decide) (by show pk 32=false;decide),qp,vab (by decide),vab (by decide),vab (by decide),vab (by decide),vad rfl,aT]
   simp only[vaa]
   rw[jp (r:=fF++_) (hK x (by rw[hx];simp)) hfs.1 (xf (c:=32) (by decide)) rfl]
   simp only[vaa]
   rw[aT]
   simp only[vaa]
   rw[jp (r:=fE++_) (hK y (by rw[hx];simp)) hfs.2.1 (xf (c:=32) (by decide)) rfl]
   simp only[vaa]
   rw[aT]
   simp only[vaa]
   rw[jp (hK z (by rw[hx];simp)) hfs.2.2 hr (low (l0 (by omega))),hself]
   rfl
  rw[vab h8]at hf ⊢
  by_cases h9:e.Op=9
  ·rw[vad h9]at hf ⊢
   refine unit ?_
   obtain⟨x,hx⟩:=hsh.k1 (.inr (.inl h9))
   have k0:kE f e.Kids 0=f x:=by rw[hx];rfl
   rw[k0,bT,bT,bT,ck]at hf ⊢
   have hfx:(f x).2=false:=by
    cases hq:(f x).2 with
    |false=>rfl
    |true=>simp[hq]at hf
   have hfa:(aJ (eU ey (e.Alts.map (Bz f)))).2=false:=by
    cases hq:(aJ (eU ey (e.Alts.map (Bz f)))).2 with
    |false=>rfl
    |true=>simp[hq]at hf
   have hself:jY e=⟨9,[],0,[jY x],[],e.Alts.map qbY,[]⟩:=by rw[jJ,h9,hN,hx,hu.nm (by omega) (by omega) (by omega) (by omega) (by omega),hu.ps (by omega),hu.ty (by omega) (by omega) (by omega) (by omega)];rfl
   have e0:((tW rV).1++((f x).1++((tW dG).1++((aJ (eU ey (e.Alts.map (Bz f)))).1++(aJ [tW gS]).1))))++r=KK++(ce++((f x).1++(dG++((aJ (eU ey (e.Alts.map (Bz f)))).1++(gS++r))))):=by simp[aJ,rV,KK,ce,vag]
   simp only[]
   rw[e0,yV KK _ (by decide) (by show pk 32=false;decide),qp,vab (by decide),vab (by decide),vab (by decide),vab (by decide),vab (by decide),vad rfl,aT]
   simp only[vaa]
   rw[jp (r:=dG++_) (hK x (by rw[hx];simp)) hfx (xf (c:=32) (by decide)) rfl]
   simp only[vaa]
   rw[aT]
   simp only[vaa]
   rw[qdb e.Alts (hu.a9 h9) hA hfa r]
   simp only[vaa]
   rw[aT,hself]
   rfl
  rw[vab h9]at hf ⊢
  by_cases h25:e.Op=25
  ·rw[vad h25]at hf ⊢
   refine unit ?_
   have hl2:=hsh.k25 h25
   have hlast:kE f e.Kids (e.Kids.length - 1)=f (e.Kids[e.Kids.length - 1]'(by omega)):=by
    unfold kE
    rw[vac (by omega)]
    rfl
   rw[hlast,bT,bT,bT,ck]at hf ⊢
   have hfn:(qa false e.Name).2=false:=by
    cases hq:(qa false e.Name).2 with
    |false=>rfl
    |true=>simp[hq]at hf
   have hfa:(aJ (lh f (e.Kids.take (e.Kids.length - 1)))).2=false:=by
    cases hq:(aJ (lh f (e.Kids.take (e.Kids.length - 1)))).2 with
    |false=>rfl
    |true=>simp[hq]at hf
   have hfl:(f (e.Kids[e.Kids.length - 1]'(by omega))).2=false:=by
    cases hq:(f (e.Kids[e.Kids.length - 1]'(by omega))).2 with
    |false=>rfl
    |true=>simp[aJ,hq]at hf
   have htk:e.Kids.take (e.Kids.length - 1)≠[]:=λe0=>by
    have:(e.Kids.take (e.Kids.length - 1)).length=e.Kids.length - 1:=by rw[vba];omega
    rw[e0]at this
    simp at this
    omega
   obtain⟨u,e1,e2⟩:=I5 htk (λx hx=>hK x (vbV hx)) hfa (cP++((f (e.Kids[e.Kids.length - 1]'(by omega))).1++r))
   have ea:(e.Kids.take (e.Kids.length - 1)).map jY++[jY (e.Kids[e.Kids.length - 1]'(by omega))]=e.Kids.map jY:=by
    rw[<-List.map_singleton (f:=jY),<-vaB]
    congr 1
    have:=vay (l:=e.Kids) (i:=e.Kids.length - 1) (by omega)
    rw[<-this,show e.Kids.length - 1+1=e.Kids.length by omega,va1]
   have hself:jY e=⟨25,e.Name,0,e.Kids.map jY,[],[],[]⟩:=by rw[jJ,h25,hN,hu.ps (by omega),hu.al (by omega),hu.ty (by omega) (by omega) (by omega) (by omega)];rfl
   have e0:((tW xP).1++((qa false e.Name).1++((tW ce).1++((aJ (lh f (e.Kids.take (e.Kids.length - 1)))).1++(aJ [tW cP,f (e.Kids[e.Kids.length - 1]'(by omega))]).1))))++r=Qu++(ce++(e.Name++(iF++u))):=by
    have:iF++u=ce++(cd++u):=rfl
    rw[this,<-e1]
    simp[aJ,qa,xP,Qu,ce,vag]
   obtain⟨q1,q2⟩:=BI (r:=iF++u) hfn (by show pk 32=false;decide)
   simp only[]
   rw[e0,yV Qu _ (by decide) (by show pk 32=false;decide),qp,vab (by decide),vab (by decide),vab (by decide),vab (by decide),vab (by decide),vab (by decide),vad rfl,aT]
   simp only[vaa]
   rw[q1,q2,aT]
   simp only[vaa]
   rw[e2]
   simp only[vaa]
   rw[aT]
   simp only[vaa]
   rw[jp (hK _ (vah _)) hfl hr (low (l0 (by omega)))]
   simp only[vaa]
   rw[ea,hself]
  rw[vab h25]at hf ⊢
  have hnm:=hu.nm h3 h4 h5 h7 h25
  have hps:=hu.ps h6
  have hal:=hu.al h9
  by_cases h21:e.Op=21
  ·rw[vad h21]at hf ⊢
   obtain⟨x,hx⟩:=hsh.k1 (by omega)
   have hxm:x∈e.Kids:=by rw[hx];simp
   have hself:jY e=eN 21 [jY x]:=by rw[jJ,h21,hN,hx,hnm,hps,hal,hu.ty (by omega) (by omega) (by omega) (by omega)];rfl
   have hlv:D6 e=if x.Op=16 then 4 else 3:=by
    unfold D6
    rw[vab (by omega),vab (by omega),vab (by omega),vad h21,hx]
    rfl
   rw[hx]at hf ⊢
   change (aJ (if x.Op=16 then Hz f gT x.Kids 5 5 else[tW rh,Il f 3 [x] 0])).2=false at hf
   show Dh l ((aJ (if x.Op=16 then Hz f gT x.Kids 5 5 else[tW rh,Il f 3 [x] 0])).1++r)=_
   by_cases h16:x.Op=16
   ·rw[vad h16]at hf hlv ⊢
    have hxn:=E1 hg hxm
    have hxs:=IG x (GT hxn)
    have hxu:=Tn (GT hxn)
    obtain⟨y,z,hy⟩:=hxs.k2 (by omega)
    have hst5:CW 5 r:=by
     unfold Ec at hst
     rw[vab (by omega),vab (by omega),vab (by omega),vab (by omega),hlv]at hst
     exact hst
    rw[hy]at hf ⊢
    have hxself:jY x=eN 16 [jY y,jY z]:=by rw[jJ,h16,hxu.n0 (by omega) (by omega),hy,hxu.nm (by omega) (by omega) (by omega) (by omega) (by omega),hxu.ps (by omega),hxu.al (by omega),hxu.ty (by omega) (by omega) (by omega) (by omega)];rfl
    have key:=Va (o:=21) (f:=f) (by omega) (hKK x hxm y (by rw[hy];simp)) (hKK x hxm z (by rw[hy];simp)) (L1:=5) rfl hf (l:=l) (by show l<=4;omega) hr hst5
    have hm:PY 21 (jY y) (jY z)=eN 21 [eN 16 [jY y,jY z]]:=rfl
    rw[hself,hxself,<-hm]
    exact key
   ·rw[vab h16]at hf hlv ⊢
    refine unit ?_
    have hst3:CW 3 r:=by
     unfold Ec at hst
     rw[vab (by omega),vad ⟨h21,hlv⟩]at hst
     exact hst
    have hfk:(yc f 3 x).2=false:=by
     have:(aJ [tW rh,yc f 3 x]).2=false:=hf
     simpa[aJ]using this
    have e0:(aJ [tW rh,Il f 3 [x] 0]).1++r=33::((yc f 3 x).1++r):=by
     show(aJ [tW rh,yc f 3 x]).1++r=_
     simp[aJ,rh]
    rw[e0,zd,vad rfl,Ms (hK x hxm) (by omega) hfk (vch _) hr (λh=>Hl hst3 (by have:=NB x;omega)),wq hst3,hself]
    rfl
  rw[vab h21]at hf ⊢
  by_cases h15:e.Op=15
  ·rw[vad h15]at hf ⊢
   refine unit ?_
   obtain⟨x,hx⟩:=hsh.k1 (by omega)
   have hxm:x∈e.Kids:=by rw[hx];simp
   have hself:jY e=eN 15 [jY x]:=by rw[jJ,h15,hN,hx,hnm,hps,hal,hu.ty (by omega) (by omega) (by omega) (by omega)];rfl
   have hst7:CW 7 r:=by
    unfold Ec at hst
    rw[vab (by rw[qd7 h15];omega),vab (by omega),vad h15]at hst
    exact hst
   rw[hx]at hf ⊢
   have hfk:(yc f 7 x).2=false:=by
    have:(aJ [tW pj,yc f 7 x]).2=false:=hf
    simpa[aJ]using this
   have e0:(aJ [tW pj,Il f 7 [x] 0]).1++r=45::((yc f 7 x).1++r):=by
    show(aJ [tW pj,yc f 7 x]).1++r=_
    simp[aJ,pj]
   rw[e0,zd,vab (by decide),vad rfl,Ms (hK x hxm) (by omega) hfk (vch _) hr (λh=>Hl hst7 (by have:=NB x;omega)),wq hst7,hself]
   rfl
  rw[vab h15]at hf ⊢
  have call:∀(k:Int) (w:ah),e.Op=k->(k=22\/k=23\/k=24)->(w.all pk&&(match w with|[]=>false|c::_=>!jX c.toNat))=true->(∀s,TQ w s=(aN cd s).bind λt=>(Sp t).bind λx=>some (eN k x.1,x.2))->(aJ (tW w::lh f e.Kids)).2=false->Dh l ((aJ (tW w::lh f e.Kids)).1++r)=L0 l (jY e) r:=by
   intro k w hk hk3 hw hW hf
   refine unit ?_
   have hne:e.Kids≠[]:=by
    rcases hk3 with h|h|h
    ·obtain⟨x,hx⟩:=hsh.k1 (by omega);rw[hx];simp
    ·obtain⟨x,hx⟩:=hsh.k1 (by omega);rw[hx];simp
    ·obtain⟨x,y,hx⟩:=hsh.k2 (by omega);rw[hx];simp
   rw[bT]at hf ⊢
   have hfa:(aJ (lh f e.Kids)).2=false:=by simpa using hf
   obtain⟨u,e1,e2⟩:=I5 hne hK hfa r
   have hself:jY e=eN k (e.Kids.map jY):=by rw[jJ,hk,hN,hnm,hps,hal,hu.ty (by omega) (by omega) (by omega) (by omega)];rfl
   have e0:((tW w).1++(aJ (lh f e.Kids)).1)++r=w++(cd++u):=by rw[<-e1];simp[vag]
   simp only[]
   rw[e0,yV w _ hw (by show pk 40=false;decide),hW,aT]
   simp only[vaa]
   rw[e2,hself]
   rfl
  by_cases h22:e.Op=22
  ·rw[vad h22]at hf ⊢
   exact call 22 Ll h22 (by omega) (by decide) (λs=>by rw[qp,vab (by decide),vab (by decide),vab (by decide),vab (by decide),vab (by decide),vab (by decide),vab (by decide),vad rfl]) hf
  rw[vab h22]at hf ⊢
  by_cases h23:e.Op=23
  ·rw[vad h23]at hf ⊢
   exact call 23 Lk h23 (by omega) (by decide) (λs=>by rw[qp,vab (by decide),vab (by decide),vab (by decide),vab (by decide),vab (by decide),vab (by decide),vab (by decide),vab (by decide),vad rfl]) hf
  rw[vab h23]at hf ⊢
  by_cases h24:e.Op=24
  ·rw[vad h24]at hf ⊢
   exact call 24 Lm h24 (by omega) (by decide) (λs=>by rw[qp,vab (by decide),vab (by decide),vab (by decide),vab (by decide),vab (by decide),vab (by decide),vab (by decide),vab (by decide),vab (by decide),vad rfl]) hf
  rw[vab h24]at hf ⊢
  by_cases h26:e.Op=26
  ·rw[vad h26]at hf ⊢
   refine unit ?_
   obtain⟨x,hx⟩:=hsh.k1 (by omega)
   obtain⟨t,ht⟩:=hsh.t26 h26
   have hself:jY e=⟨26,[],0,[jY x],[],[],[wo t]⟩:=by rw[jJ,h26,hN,hx,hnm,hps,hal,ht];rfl
   have k0:kE f e.Kids 0=f x:=by rw[hx];rfl
   have k1:((e.Types[0]?).map xQ).getD ([],false)=xQ t:=by rw[ht];rfl
   rw[k0,k1]at hf ⊢
   have hfs:(f x).2=false/\(xQ t).2=false:=by simpa[aJ]using hf
   have e0:(aJ [tW cd,f x,tW aS,xQ t,tW bA]).1++r=40::((f x).1++(aS++((xQ t).1++(bA++r)))):=by simp[aJ,cd,vag]
   rw[e0,zd,vab (by decide),vab (by decide),vad rfl,jp (r:=aS++_) (hK x (by rw[hx];simp)) hfs.1 (xf (c:=32) (by decide)) rfl]
   simp only[vaa]
   rw[aT]
   simp only[]
   rw[Cf (r:=bA++r) (hT t (by rw[ht];simp)) hfs.2 (Ed (c:=41) (by decide))]
   simp only[vaa]
   rw[aT,hself]
   rfl
  rw[vab h26]at hf ⊢
  have ho:(10<=e.Op/\e.Op<=14)\/(16<=e.Op/\e.Op<=20):=by omega
  obtain⟨a,b,hab⟩:=hsh.k2 (by omega)
  have hself:jY e=eN e.Op [jY a,jY b]:=by rw[jJ,hN,hab,hnm,hps,hal,hu.ty (by omega) (by omega) (by omega) (by omega)];rfl
  have hlv:D6 e=Iq e.Op:=by
   unfold D6 Iq
   rw[vab (by omega)]
   by_cases c1:e.Op=20
   ·rw[vad c1,vad c1]
   rw[vab c1,vab c1]
   by_cases c2:e.Op=19
   ·rw[vad c2,vad c2]
   rw[vab c2,vab c2,vab h21]
   by_cases c3:e.Op=16\/e.Op=17\/e.Op=18
   ·rw[vad c3,vad (by omega)]
   rw[vab c3,vab (by omega:¬(e.Op=16\/e.Op=17\/e.Op=18\/e.Op=21))]
   by_cases c4:e.Op=10\/e.Op=11
   ·rw[vad c4,vad c4]
   rw[vab c4,vab c4,vad (by omega)]
  have hbd:=UN e.Op
  have hst2:CW (Iq e.Op+1) r:=by
   unfold Ec at hst
   rw[vab (by omega),vab (by omega),vab (by omega),vab (by omega),hlv]at hst
   exact hst
  have hsg:qeN e.Op=qaL e.Op:=by unfold qeN;rw[vab h21]
  have hm:PY e.Op (jY a) (jY b)=eN e.Op [jY a,jY b]:=by unfold PY;rw[vab h21]
  have ha:=hK a (by rw[hab];simp)
  have hb:=hK b (by rw[hab];simp)
  rw[hab]at hf ⊢
  by_cases hc:e.Op=16\/e.Op=17\/e.Op=18
  ·rw[vad hc]at hf ⊢
   have h4:Iq e.Op=4:=by unfold Iq;rw[vab (by omega),vab (by omega),vad (by omega)]
   have key:=Va (f:=f) (o:=e.Op) (by omega) ha hb (L1:=5) (by rw[vad h4]) (by rw[hsg,h4];exact hf) (l:=l) (by omega) hr hst2
   rw[hself,<-hm,<-key,hsg,h4]
   rfl
  ·rw[vab hc]at hf ⊢
   have h4:Iq e.Op≠4:=by
    unfold Iq
    repeat' first|omega|split
   have key:=Va (f:=f) (o:=e.Op) (by omega) ha hb (L1:=Iq e.Op) (by rw[vab h4]) (by rw[hsg,<-hlv];exact hf) (l:=l) (by omega) hr hst2
   rw[hself,<-hm,<-key,hsg,hlv]
abbrev wl(w:Wr):Nat:=w.1.length
theorem cO:∀(ws:List Wr),wl (aJ ws)=(ws.map wl).sum
 |[]=>rfl
 |w::ws=>by
  have:=cO ws
  show(aJ (w::ws)).1.length=_
  rw[bT]
  simp only[vas,vae,List.sum_cons]
  exact va6 (w.1.length+·) this
theorem Vd{α:Type}{g h:α->Nat}:∀{l:List α},(∀x∈l,g x<=h x)->(l.map g).sum<=(l.map h).sum
 |[],_=>vaw _
 |x::l,hh=>by
  have h1:=hh x (by simp)
  have h2:=Vd (l:=l) (λy hy=>hh y (vax _ hy))
  simp only[vae,List.sum_cons]
  omega
theorem TJ{α:Type}(c:α->List PVal):∀(l:List α),(l.map λx=>ff (c x)).sum<=d8 (l.map c)
 |[]=>vaX _
 |x::l=>by
  have:=TJ c l
  simp only[vae,List.sum_cons,d8]
  omega
theorem WC(k:Nat){α:Type}(g:α->Nat):∀(l:List α),(l.map λx=>k * g x).sum=k * (l.map g).sum
 |[]=>rfl
 |x::l=>by
  simp only[vae,List.sum_cons,WC k g l,Nat.mul_add]
theorem Io{α:Type}(c:α->List PVal)(g:α->Nat)(l:List α)(h:∀x∈l,g x<=64 * ff (c x)):(l.map g).sum<=64 * d8 (l.map c):=by
 have h1:=Vd h
 rw[WC]at h1
 have h2:=TJ c l
 have:=vcM 64 h2
 omega
theorem I8{α:Type}(c:α->List PVal)(s:ah)(f:α->Wr)(l:List α)(h:∀x∈l,wl (f x)+s.length<=64 * ff (c x)):wl (aJ (eU s (l.map f)))<=64 * d8 (l.map c):=by
 have h1:=Og s (l.map f)
 rw[vby]at h1
 exact vau h1 (Io c _ l h)
theorem qjW(p:aa):4<=ff (ac p):=by have:=Eh p;omega
theorem qcG(p:aa)(h:ff (ac p)<=16777216):wl (OC p)<=40 * ff (ac p):=by
 have:=qjW p
 unfold OC
 split
 ·show eC.length<=_
  simp only[eC,vaM,List.length_nil]
  omega
 ·exact Ql p h
theorem qcj(l:List aa)(h:∀p∈l,ff (ac p)<=16777216):wl (aJ (Kq l))<=64 * d8 (l.map ac)+3:=by
 unfold Kq
 split
 ·simp[aJ,wl]
 ·have:=I8 ac ax (λp=>aJ [tW ed,OC p]) l (λp hp=>by
   have h1:=qcG p (h p hp)
   have h2:=qjW p
   rw[cO]
   simp only[vae,vaK,List.sum_cons,List.sum_nil,show wl (tW ed)=3 from rfl,show ax.length=2 from rfl]
   omega)
  rw[cO]at this ⊢
  simp only[vae,vaB,vaK,List.sum_cons,vaQ,List.sum_nil,show wl (tW tO)=2 from rfl,show wl (tW EJ)=1 from rfl]
  omega
theorem Tk:∀(l:List ah),(l.map λs=>s.length+1).sum<=d8 (l.map cS)
 |[]=>vaX _
 |s::l=>by
  have:=Tk l
  simp only[vae,List.sum_cons,d8,cS,ff,pm]
  omega
theorem Qv(ns:List ah):∀(l:List ae) (i:Nat),((l.zipIdx i).map λx=>(ns.getD x.2 []).length).sum<=((ns.drop i).map λs=>s.length+1).sum
 |[],i=>vaX _
 | t :: l,i => by
  rw[List.zipIdx_cons,vae,List.sum_cons]
  have ih:=Qv ns l (i+1)
  by_cases hi:i<ns.length
  ·rw[vaI hi,vae,List.sum_cons]
   have:ns.getD i []=ns[i]:=by simp[List.getD,hi]
   simp only[]
   rw[this]
   omega
  ·have e1:ns.drop i=[]:=vbP (by omega)
   have e2:ns.drop (i+1)=[]:=vbP (by omega)
   have e3:ns.getD i []=[]:=by simp[List.getD,va0 (vbL hi)]
   rw[e1]
   rw[e2]at ih
   simp only[]
   rw[e3]
   simpa using ih
theorem WB:∀(n:Nat) (t:ae),re t->wl (AU n t)+8<=64 * ff (aj t)
 |0,t,h=>by
  have:=P6 t
  show 0+8<=_
  omega
 | n + 1,t,h => by
  have hf:∀a∈t.Args,wl (AU n a)+8<=64 * ff (aj a):=λa ha=>WB n a (Ci h ha)
  have hp:=qcj t.Preds (λp hp=>AT h hp)
  have hm:=P6 t
  have hw:=Ql t.Pred (qz h)
  have hnp:=Tk t.Names
  have hcore:wl (aJ (s9 (AU n) t))<=t.Name.length+64 * d8 (t.Args.map aj)+64 * d8 (t.Preds.map ac)+d8 (t.Names.map cS)+20:=by
   unfold s9
   split
   ·rw[dC];show 3<=_;omega
   split
   ·rw[dC];show 4<=_;omega
   split
   ·rw[dC];show 4<=_;omega
   split
   ·rw[dC];show t.Name.length<=_;omega
   split
   ·unfold SK
    have ha:=Io aj (λa=>wl (tW ce)+wl (R7 (AU n) a)) t.Args (λa ha=>by
     have h1:=hf a ha
     unfold R7
     split
     ·rw[cO]
      simp only[vae,vaK,List.sum_cons,List.sum_nil,show wl (tW ce)=1 from rfl,show wl (tW cd)=1 from rfl,show wl (tW bA)=1 from rfl]
      omega
     ·rw[show wl (tW ce)=1 from rfl];omega)
    have e:((t.Args.flatMap λa=>[tW ce,R7 (AU n) a]).map wl).sum=(t.Args.map λa=>wl (tW ce)+wl (R7 (AU n) a)).sum:=by
     generalize t.Args=l
     induction l with
     |nil=>rfl
     |cons a l ih=>rw[vbz,vaB,vaQ,ih];simp
    rw[cO]at hp ⊢
    rw[vae,List.sum_cons,vaB,vaQ,e]
    show t.Name.length+_<=_
    omega
   split
   ·unfold Zf
    rename_i h6
    rw[cO]
    have hz:=Qv t.Names (t.Args.take (t.Args.length - 1)) 0
    rw[vbc]at hz
    have hs:=Og ax ((t.Args.take (t.Args.length - 1)).zipIdx.map (ub (AU n) t.Names))
    rw[vby]at hs
    have h1:(((t.Args.take (t.Args.length - 1)).zipIdx).map λx=>wl (ub (AU n) t.Names x)+2).sum<=(((t.Args.take (t.Args.length - 1)).zipIdx).map λx=>(t.Names.getD x.2 []).length).sum+(((t.Args.take (t.Args.length - 1)).zipIdx).map λx=>wl (AU n x.1)+5).sum:=by
     generalize (t.Args.take (t.Args.length - 1)).zipIdx=l
     induction l with
     |nil=>simp
     | cons x l ih =>
      have hx:wl (ub (AU n) t.Names x)<=(t.Names.getD x.2 []).length+3+wl (AU n x.1):=by
       unfold ub
       rw[cO,vaB,vaQ]
       split
       ·simp
       ·simp only[vae,vaK,List.sum_cons,List.sum_nil,show wl (tW aS)=3 from rfl]
        show(t.Names.getD x.2 []).length+_+_<=_
        omega
      simp only[vae,List.sum_cons]
      omega
    have h2:(((t.Args.take (t.Args.length - 1)).zipIdx).map λx=>wl (AU n x.1)+5).sum=((t.Args.take (t.Args.length - 1)).map λa=>wl (AU n a)+5).sum:=by
     rw[show(λx:ae×Nat=>wl (AU n x.1)+5)=(λa=>wl (AU n a)+5)∘Prod.fst from rfl,<-vby,vcS]
    have h3:((t.Args.take (t.Args.length - 1)).map λa=>wl (AU n a)+5).sum+wl (Nr (AU n) t.Args)<=(t.Args.map λa=>wl (AU n a)+5).sum:=by
     unfold Nr
     cases hl:t.Args with
     |nil=>simp[wl]
     |cons a l=>
      have e1:(a::l)[(a::l).length - 1]? =some ((a::l).getLast (by simp)):=by rw[vcx,vac (by simp)]
      rw[e1]
      have e2:(a::l)=(a::l).take ((a::l).length - 1)++[(a::l).getLast (by simp)]:=by rw[<-vcJ];exact(vbx _).symm
      conv=>rhs;rw[e2]
      simp only[vaB,vaQ,vae,vaK,List.sum_cons,List.sum_nil,vaj,Option.getD_some]
      omega
    have h4:=Io aj (λa=>wl (AU n a)+5) t.Args (λa ha=>by have:=hf a ha;omega)
    have hs':wl (aJ (eU ax ((t.Args.take (t.Args.length - 1)).zipIdx.map (ub (AU n) t.Names))))<=_:=hs
    rw[cO]at hs'
    have e5:(((t.Args.take (t.Args.length - 1)).zipIdx).map ((λw:Wr=>w.1.length+ax.length)∘ub (AU n) t.Names)).sum=(((t.Args.take (t.Args.length - 1)).zipIdx).map λx=>wl (ub (AU n) t.Names x)+2).sum:=rfl
    rw[e5]at hs'
    simp only[vae,vaB,vaK,List.sum_cons,vaQ,List.sum_nil,show wl (tW cd)=1 from rfl,show wl (tW aR)=5 from rfl]
    omega
   ·show 0<=_;omega
  rw[AV,cO]
  unfold Cs
  rw[cO]at hcore
  have hpw:wl (pW t.Pred)<=40 * ff (ac t.Pred):=hw
  split
  ·rw[vae,List.sum_cons,vaB,vaQ,vaB,vaQ]
   simp only[vaK,List.sum_nil]
   show 0+_+8<=_
   omega
  ·rw[vae,List.sum_cons,vaB,vaQ,vaB,vaQ]
   simp only[vae,vaK,List.sum_cons,List.sum_nil,show wl (tW dB)=5 from rfl,show wl (tW fM)=3 from rfl,show wl (tW C0)=1 from rfl]
   show 0+_+8<=_
   omega
theorem Jq(t:ae)(h:re t):wl (xQ t)+8<=64 * ff (aj t):=by
 have:=WB 16777216 t h
 unfold xQ qeO
 split
 ·exact this
 ·have:=P6 t
  show 0+8<=_
  omega
section
variable(f:af->Wr)
theorem Nm(l:Int)(x:af):wl (yc f l x)<=wl (f x)+2:=by
 unfold yc
 split
 ·rw[cO]
  simp only[vae,vaK,List.sum_cons,List.sum_nil,show wl (tW cd)=1 from rfl,show wl (tW bA)=1 from rfl]
  omega
 ·omega
theorem qbR(l:List af):wl (kE f l 0)+wl (kE f l 1)+wl (kE f l 2)<=(l.map λx=>wl (f x)).sum:=by
 unfold kE
 rcases l with _|⟨x,_|⟨y,_|⟨z,r⟩⟩⟩<;>simp[wl]<;>omega
theorem Nk(a b:Int)(l:List af):wl (Il f a l 0)+wl (Il f b l 1)<=(l.map λx=>wl (f x)+2).sum:=by
 unfold Il
 rcases l with _|⟨x,_|⟨y,r⟩⟩
 ·simp[wl]
 ·have:=Nm f a x
  simp[wl]at *
  omega
 ·have:=Nm f a x
  have:=Nm f b y
  simp[wl]at *
  omega
theorem Se(sg:ah)(l:List af)(a b:Int):wl (aJ (Hz f sg l a b))<=(l.map λx=>wl (f x)+2).sum+sg.length+2:=by
 have:=Nk f a b l
 unfold Hz
 rw[cO]
 simp only[vae,vaK,List.sum_cons,List.sum_nil]
 show _+((ce++(sg++ce)).length+_)<=_
 simp only[vas,show ce.length=1 from rfl]
 omega
theorem Py(l:List af):wl (aJ (lh f l))<=(l.map λx=>wl (f x)+2).sum+2:=by
 have h:=Og ax (l.map f)
 rw[vby]at h
 have h:wl (aJ (eU ax (l.map f)))<=(l.map λx=>wl (f x)+2).sum:=h
 unfold lh
 rw[cO]at h ⊢
 simp only[vae,vaB,vaK,List.sum_cons,vaQ,List.sum_nil,show wl (tW cd)=1 from rfl,show wl (tW bA)=1 from rfl]
 omega
theorem qcK(l:List af):wl (aJ (lh f (l.take (l.length - 1))))+wl (kE f l (l.length - 1))<=(l.map λx=>wl (f x)+2).sum+2:=by
 have h:=Py f (l.take (l.length - 1))
 unfold kE
 cases hl:l with
 |nil=>rw[hl]at h;simp[wl]at h ⊢;omega
 |cons a r=>
  rw[hl]at h
  have e1:(a::r)[(a::r).length - 1]? =some ((a::r).getLast (by simp)):=by rw[vcx,vac (by simp)]
  rw[e1]
  have e2:(a::r)=(a::r).take ((a::r).length - 1)++[(a::r).getLast (by simp)]:=by rw[<-vcJ];exact(vbx _).symm
  conv=>rhs;rw[e2]
  simp only[vaB,vaQ,vae,vaK,List.sum_cons,List.sum_nil,vaj,Option.getD_some]
  omega
theorem qcv(o:Int):(qaL o).length<=3:=by
 unfold qaL
 repeat' first|decide|split
theorem UP(l:List ah):wl (aJ (pY l))<=64 * d8 (l.map cS)+3:=by
 unfold pY
 split
 ·simp[aJ,wl]
 ·have:=I8 cS ax (qa false) l (λs _=>by
   show s.length+2<=64 * ff (cS s)
   simp only[cS,ff,pm]
   omega)
  rw[cO]at this ⊢
  simp only[vae,vaB,vaK,List.sum_cons,vaQ,List.sum_nil,show wl (tW iF)=2 from rfl,show wl (tW bA)=1 from rfl]
  omega
theorem Vh(l:List ae)(h:∀t∈l,re t):wl (aJ (iZ l))<=64 * d8 (l.map aj)+2:=by
 unfold iZ
 split
 ·simp[aJ,wl]
 ·have:=I8 aj ax xQ l (λt ht=>by
   have:=Jq t (h t ht)
   show wl (xQ t)+2<=_
   omega)
  rw[cO]at this ⊢
  simp only[vae,vaB,vaK,List.sum_cons,vaQ,List.sum_nil,show wl (tW Li)=1 from rfl,show wl (tW EK)=1 from rfl]
  omega
theorem Tb(l:List af)(h:∀x∈l,wl (f x)+8<=64 * ff (ag x)):(l.map λx=>wl (f x)+2).sum<=64 * d8 (l.map ag):=Io ag _ l λx hx=>by have:=h x hx;omega
end
theorem Mu:∀(n:Nat) (e:af),Al e->FP e->wl (Bh n e)+8<=64 * ff (ag e)
 |0,e,_,_=>by
  have:=tq e
  show 0+8<=_
  omega
 | n + 1,e,hg,hs => by
  have hf:∀x∈e.Kids,wl (Bh n x)+8<=64 * ff (ag x):=λx hx=>Mu n x (ky hg hx) (mB hs hx)
  have hk:=Tb (Bh n) e.Kids hf
  have hT:=Vh e.Types (λt ht=>tK hs ht)
  have hm:=tq e
  have hsh:=wS hg
  have h3:=qbR (Bh n) e.Kids
  have h3':(e.Kids.map λx=>wl (Bh n x)).sum<=(e.Kids.map λx=>wl (Bh n x)+2).sum:=Vd λx _=>by omega
  have hsg:=qcv e.Op
  have ha:=Py (Bh n) e.Kids
  rw[Ok]
  suffices hmain:wl (aJ (EF (Bh n) e))<=e.Name.length+64 * d8 (e.Kids.map ag)+64 * d8 (e.Params.map bj)+64 * d8 (e.Alts.map bw)+64 * d8 (e.Types.map aj)+60 by
   show wl (aJ (EF (Bh n) e))+8<=_
   omega
  unfold EF
  by_cases hq:e.Op=1
  ·rw[vad hq]
   have h1:=hq
   have:=S6 e.N (hsh.n1 h1)
   rw[dC]
   show(LH e.N).length<=_
   omega
  rw[vab hq]
  by_cases hq:e.Op=2
  ·rw[vad hq]
   rw[dC]
   show(if e.N=1 then eC else eR).length<=_
   split<;>simp only[eC,eR,vaM,List.length_nil]<;>omega
  rw[vab hq]
  by_cases hq:e.Op=3
  ·rw[vad hq]
   rw[dC];show e.Name.length<=_;omega
  rw[vab hq]
  by_cases hq:e.Op=4
  ·rw[vad hq]
   rw[cO]at hT ha ⊢
   rw[vae,List.sum_cons,vaB,vaQ]
   show e.Name.length+_<=_
   split
   ·simp only[vaK,List.sum_nil];omega
   ·omega
  rw[vab hq]
  by_cases hq:e.Op=5
  ·rw[vad hq]
   rw[cO]at hT ha ⊢
   rw[vae,List.sum_cons,vaB,vaQ]
   show e.Name.length+_<=_
   omega
  rw[vab hq]
  by_cases hq:e.Op=6
  ·rw[vad hq]
   have hp:=I8 bj ax FB e.Params (λp hp=>by
    have h1:=Fg p
    have h2:=Jq p.Type_ (Fp hs hp)
    show wl (FB p)+2<=_
    unfold FB
    rw[cO,vae,List.sum_cons]
    show p.Name.length+_+2<=_
    split
    ·simp only[vaK,List.sum_nil];omega
    ·simp only[vae,vaK,List.sum_cons,List.sum_nil,show wl (tW aS)=3 from rfl];omega)
   rw[cO]at hp ⊢
   simp only[vae,vaB,vaK,List.sum_cons,vaQ,List.sum_nil,show wl (tW mg)=5 from rfl,show wl (tW aR)=5 from rfl]
   omega
  rw[vab hq]
  by_cases hq:e.Op=7
  ·rw[vad hq]
   rw[cO]
   have e1:wl (qa false e.Name)=e.Name.length:=rfl
   cases hty:e.Types with
   |nil=>
    simp only[vae,vaB,vaK,List.sum_cons,vaQ,List.sum_nil,show wl (tW tQ)=4 from rfl,show wl (tW dY)=3 from rfl,show wl (tW cP)=4 from rfl]
    omega
   |cons t l=>
    have:=Jq t (tK hs (by rw[hty];simp))
    simp only[vae,vaB,vaK,List.sum_cons,vaQ,List.sum_nil,d8,show wl (tW aS)=3 from rfl,show wl (tW tQ)=4 from rfl,show wl (tW dY)=3 from rfl,show wl (tW cP)=4 from rfl]
    omega
  rw[vab hq]
  by_cases hq:e.Op=8
  ·rw[vad hq]
   rw[cO]
   simp only[vae,vaB,vaK,List.sum_cons,vaQ,List.sum_nil,show wl (tW Ct)=3 from rfl,show wl (tW fF)=6 from rfl,show wl (tW fE)=6 from rfl]
   omega
  rw[vab hq]
  by_cases hq:e.Op=9
  ·rw[vad hq]
   have hp:=I8 bw ey (Bz (Bh n)) e.Alts (λa ha=>by
    have h1:=RH a
    have h2:=Mu n a.Body (PL hg ha) (Fo hs ha)
    have h3:=UP a.Names
    show wl (Bz (Bh n) a)+2<=_
    unfold Bz
    rw[cO]at h3 ⊢
    simp only[vae,vaB,vaK,List.sum_cons,vaQ,List.sum_nil,show wl (tW cX)=4 from rfl]
    have e1:wl (qa true a.Con)=a.Con.length:=rfl
    omega)
   rw[cO]at hp ⊢
   simp only[vae,vaB,vaK,List.sum_cons,vaQ,List.sum_nil,show wl (tW rV)=5 from rfl,show wl (tW dG)=6 from rfl,show wl (tW gS)=2 from rfl]
   omega
  rw[vab hq]
  by_cases hq:e.Op=25
  ·rw[vad hq]
   have hu:=qcK (Bh n) e.Kids
   rw[cO]at hu ⊢
   simp only[vae,vaB,vaK,List.sum_cons,vaQ,List.sum_nil,show wl (tW xP)=4 from rfl,show wl (tW ce)=1 from rfl,show wl (tW cP)=4 from rfl]
   have e1:wl (qa false e.Name)=e.Name.length:=rfl
   omega
  rw[vab hq]
  by_cases hq:e.Op=21
  ·rw[vad hq]
   have h21:=hq
   obtain⟨x,hx⟩:=hsh.k1 (by omega)
   have hxm:x∈e.Kids:=by rw[hx];simp
   rw[hx]at hk h3 ⊢
   show wl (aJ (if x.Op=16 then Hz (Bh n) gT x.Kids 5 5 else[tW rh,Il (Bh n) 3 [x] 0]))<=_
   split
   ·rename_i h16
    have hgx:=ky hg hxm
    have hsx:=mB hs hxm
    have h1:=Se (Bh n) gT x.Kids 5 5
    have h2:=Tb (Bh n) x.Kids (λy hy=>Mu n y (ky hgx hy) (mB hsx hy))
    have h4:=tq x
    simp only[vae,vaK,d8]
    rw[show gT.length=2 from rfl]at h1
    omega
   ·have h1:=Nk (Bh n) 3 3 [x]
    rw[cO]
    simp only[vae,vaK,List.sum_cons,List.sum_nil,show wl (tW rh)=1 from rfl]at h1 hk ⊢
    omega
  rw[vab hq]
  by_cases hq:e.Op=15
  ·rw[vad hq]
   have h1:=Nk (Bh n) 7 7 e.Kids
   rw[cO]
   simp only[vae,vaK,List.sum_cons,List.sum_nil,show wl (tW pj)=1 from rfl]
   omega
  rw[vab hq]
  by_cases hq:e.Op=22
  ·rw[vad hq]
   rw[cO]at ha ⊢
   rw[vae,List.sum_cons,show wl (tW Ll)=3 from rfl]
   omega
  rw[vab hq]
  by_cases hq:e.Op=23
  ·rw[vad hq]
   rw[cO]at ha ⊢
   rw[vae,List.sum_cons,show wl (tW Lk)=3 from rfl]
   omega
  rw[vab hq]
  by_cases hq:e.Op=24
  ·rw[vad hq]
   rw[cO]at ha ⊢
   rw[vae,List.sum_cons,show wl (tW Lm)=3 from rfl]
   omega
  rw[vab hq]
  by_cases hq:e.Op=26
  ·rw[vad hq]
   have ht:wl (((e.Types[0]?).map xQ).getD ([],false))<=64 * d8 (e.Types.map aj):=by
    cases hty:e.Types with
    |nil=>simp[wl]
    |cons t l=>
     have:=Jq t (tK hs (by rw[hty];simp))
     simp only[List.getElem?_cons_zero,vaj,Option.getD_some,vae,d8]
     omega
   rw[cO]
   simp only[vae,vaK,List.sum_cons,List.sum_nil,show wl (tW cd)=1 from rfl,show wl (tW bA)=1 from rfl,show wl (tW aS)=3 from rfl]
   omega
  rw[vab hq]
  by_cases hq:e.Op=16\/e.Op=17\/e.Op=18
  ·rw[vad hq]
   have:=Se (Bh n) (qaL e.Op) e.Kids 5 5
   omega
  ·rw[vab hq]
   have:=Se (Bh n) (qaL e.Op) e.Kids (D6 e) (D6 e+1)
   omega
theorem qdD:wg=some true:=by kernel_rfl
theorem qc3(p:aa)(hp:ff (ac p)<=16777216):gu (oP p) (λ_=>True):=⟨_,IH p (vau (K3 p) (vau hp (by unfold cm;omega))),vzz⟩
theorem sG(t:ae)(levels:Int)(ht:re t):gu (kv t levels) (λ_=>True):=by
 refine tN (F:=tZ) (λx=>fH x.1) (λx=>re x.1) (λ_ _=>True) (λR x hx ih=>?_) (t,levels) ht (iJ (qy ht))
 obtain⟨t,levels⟩:=x
 show gu (n5 (λt levels=>R (t,levels)) t levels) _
 have hx:re t:=hx
 have hB:fH t<=1073741824:=qy hx
 have hal:=lM t
 have hpl:=AD t
 unfold n5 rl rm
 have hJ:gu (mr levels t) (λ_=>True):=by
  unfold mr
  exact aD (λ_=>am vzz) λ_=>aD (λ_=>am vzz) λ_=>aD (λ_=>am vzz) λ_=>aD (λ_=>am vzz) λ_=>aA (qc3 _ (qz hx)) λ_ _=>am vzz
 refine aA hJ λo _=>aD (λ_=>am vzz) λ_=>aA (jT t.Preds (by omega) _ (λ_=>True) (λ_=>True) (λi=>rfl) (λp hp i=>aA (qc3 p (AT hx hp)) λr _=>aD (λ_=>am vzz) λ_=>am ⟨rfl,vzz⟩)) λo _=>?_
 cases o with
 |inl _=>exact am vzz
 |inr _=>
  refine aA (jT t.Args (by omega) _ (λ_=>True) (λ_=>True) (λi=>rfl) (λa ha i=>aA (ih (a,_) (kH ha) (Ci hx ha)) λr _=>aD (λ_=>am vzz) λ_=>am ⟨rfl,vzz⟩)) λo _=>?_
  cases o with
  |inl _=>exact am vzz
  |inr _=>exact am vzz
theorem Oj(e:af)(he:FP e):gu (wP e) (λ_=>True):=by
 refine tN (F:=rn) nE FP (λ_ _=>True) (λR e he ih=>?_) e he (by have:=vau (Cz e) he;unfold Uo;omega)
 show gu (mt (λe=>R e) e) _
 have hB:nE e<=16777216:=vau (Cz e) he
 have hkl:=An e
 have hal:=mw e
 have hpl:=jZ e
 have htl:=xO e
 unfold mt pG pH pI pJ
 have hJ:gu (lc e) (λ_=>True):=by
  unfold lc
  exact aD (λ_=>am vzz) λ_=>am vzz
 refine aA hJ λo _=>aD (λ_=>am vzz) λ_=>aA (jT e.Types (by omega) _ (λ_=>True) (λ_=>True) (λi=>rfl) (λt ht i=>aA (sG t 4 (tK he ht)) λr _=>aD (λ_=>am vzz) λ_=>am ⟨rfl,vzz⟩)) λo _=>?_
 cases o with
 |inl _=>exact am vzz
 | inr _ =>
  refine aA (jT e.Params (by omega) _ (λ_=>True) (λ_=>True) (λi=>rfl) (λp hp i=>aA (sG p.Type_ 4 (Fp he hp)) λr _=>aD (λ_=>am vzz) λ_=>am ⟨rfl,vzz⟩)) λo _=>?_
  cases o with
  |inl _=>exact am vzz
  | inr _ =>
   refine aA (jT e.Kids (by omega) _ (λ_=>True) (λ_=>True) (λi=>rfl) (λx hx i=>aA (ih x (pX hx) (mB he hx)) λr _=>aD (λ_=>am vzz) λ_=>am ⟨rfl,vzz⟩)) λo _=>?_
   cases o with
   |inl _=>exact am vzz
   |inr _=>
    refine aA (jT e.Alts (by omega) _ (λ_=>True) (λ_=>True) (λi=>rfl) (λx hx i=>aA (ih x.Body (EO hx) (Fo he hx)) λr _=>aD (λ_=>am vzz) λ_=>am ⟨rfl,vzz⟩)) λo _=>?_
    cases o with
    |inl _=>exact am vzz
    |inr _=>exact am vzz
theorem WA(e:af)(he:FP e):∃r,Ae e=some r:=by
 unfold Ae
 rw[Fj e (pe (Sb he))]
 simp only[vaa]
 obtain⟨r,h,_⟩:=Oj e he
 rw[h]
 by_cases hc:decide (((cp e).length:Int)<=200)=true
 ·rw[vad hc];exact⟨_,rfl⟩
 ·rw[vab hc];exact⟨_,rfl⟩
theorem PA:∀(s:ah),pL (eD s)=some s
 |[]=>rfl
 |c::s=>by
  show pL ((c.toNat:Int)::eD s)=_
  have hc:=c.toNat_lt
  unfold pL
  rw[vad (by omega),PA s]
  simp
def XH(w:Wr):ah:=if w.2=true then[]else w.1
theorem WD{k:List Int}{b:Bool}{w:Wr}(h1:b=(false||(aJ [w]).2))(h2:b=false->k=[]++eD (aJ [w]).1):eJ k b=some (XH w):=by
 rw[dC]at h1 h2
 unfold eJ XH
 cases b with
 |true=>
  have hw:w.2=true:=by simpa using h1.symm
  rw[vad rfl,vad hw]
 |false=>
  have hw:w.2=false:=by simpa using h1.symm
  have:=h2 rfl
  rw[vab (by simp),hw,vab (by simp),this,vaJ]
  unfold ER
  rw[PA]
  rfl
theorem qc2{p:aa}(h:ff (ac p)<=16777216):nP p<=cm:=vau (K3 p) (vau h (by unfold cm;omega))
theorem qbT:nP ⟨2,[],1,[]⟩<=cm:=by decide
theorem Ua(p:aa):DA p=some (decide (p=⟨2,[],1,[]⟩)||decide (p=dK)):=by
 unfold DA ME
 simp only[vaa]
 rw[AR p _ qbT]
 simp only[vaa]
 have h:=AR p dK VZ
 have h:nh p (⟨0,[],0,[]⟩:aa)=some (decide (p=dK)):=h
 rw[h]
 cases decide (p=⟨2,[],1,[]⟩)<;>rfl
theorem qaJ{p q:aa}(hq:ff (ac q)<=16777216)(h:XA p=XA q):HP p q=some true:=by
 unfold HP
 rw[Ua,Ua,AR p q (qc2 hq)]
 simp only[vaa]
 unfold XA at h
 by_cases hp:p=dK
 ·rw[vad hp]at h
  by_cases hq:q=dK
  ·simp[hp,hq]
  ·rw[vab hq]at h
   simp[hp,<-h]
 ·rw[vab hp]at h
  by_cases hq:q=dK
  ·rw[vad hq]at h
   simp[hq,h]
  ·rw[vab hq]at h
   subst h
   simp
theorem zD{α β:Type}{g:α->β}{l m:List α}(h:l.map g=m.map g):l.length=m.length/\∀i (h1:i<l.length) (h2:i<m.length),g l[i]=g m[i]:=by
 have hl:l.length=m.length:=by have:=va6 List.length h;simpa using this
 refine⟨hl,λi h1 h2=>?_⟩
 have h3:(l.map g)[i]'(by simpa using h1)=(m.map g)[i]'(by simpa using h2):=by simp only[h]
 simpa using h3
theorem qb3{s t:ae}(h:wo s=wo t):s.Op=t.Op/\s.Name=t.Name/\s.Args.map wo=t.Args.map wo/\s.Names=t.Names/\s.Pred=t.Pred/\s.Preds.map XA=t.Preds.map XA:=by
 rw[Kc,Kc t]at h
 injection h with a b c d e f
 exact⟨a,b,c,d,e,f⟩
theorem qaK{R:ae->ae->Option Bool}{l m:List ae}(hl:l.length<9223372036854775808)(h:l.map wo=m.map wo)(hR:∀a∈l,∀b∈m,wo a=wo b->R a b=some true):nn R l m=some true:=by
 obtain⟨h1,h2⟩:=zD h
 unfold nn
 rw[vab (by simp[h1])]
 have hL:mq R l m (l.length:Int) 0=some (.inr ()):=by
  unfold mq
  refine dM l.length _ (λi=>(i:Int)) _ (λi hi=>?_) ?_
  ·simp only[j5]
   rw[vad (Xt hi),aM _ _ hi,aM _ i (by omega)]
   simp only[vaa]
   rw[hR _ (vah hi) _ (vah _) (h2 i hi (by omega))]
   simp only[vaa]
   rw[vab (by simp),cW (by omega) (by omega),show((i:Int)+1)=((i+1:Nat):Int) by omega]
  ·simp only[j5]
   rw[vab (Xs _)]
 rw[hL]
 rfl
theorem Oe(s:ae)(hs:re s):∀t,re t->wo s=wo t->mn s t=some true:=by
 intro t ht h
 refine Ak (F:=wH) (λx=>fH x.1) (λx=>re x.1/\re x.2/\wo x.1=wo x.2) (λ_=>some true) (λR x hx ih=>?_) (s,t) ⟨hs,ht,h⟩ (iJ (qy hs))
 obtain⟨a,b⟩:=x
 obtain⟨ha,hb,h⟩:=hx
 have ha:re a:=ha
 have hb:re b:=hb
 obtain⟨q1,q2,q3,q4,q5,q6⟩:=qb3 (s:=a) (t:=b) h
 have hB:fH a<=1073741824:=qy ha
 have hal:=lM a
 have hpl:=AD a
 have hnl:=J3 a
 show pE (λa b=>R (a,b)) a b=some true
 unfold pE
 have hJ:nY a b=some false:=by
  unfold nY
  rw[vab (by simp[q1]),vab (by simp[q2]),vab (by simp[(zD q3).1]),vab (by simp[(zD q6).1]),Qd _ _ (by omega)]
  simp only[vaa]
  rw[vab (by simp[q4]),AR _ _ (qc2 (qz hb))]
  simp[q5]
 have hL:nZ a b (a.Preds.length:Int) 0=some (.inr ()):=by
  obtain⟨h1,h2⟩:=zD q6
  unfold nZ
  refine dM a.Preds.length _ (λi=>(i:Int)) _ (λi hi=>?_) ?_
  ·simp only[lb]
   rw[vad (Xt hi),aM _ _ hi,aM _ i (by omega)]
   simp only[vaa]
   rw[qaJ (AT hb (vah _)) (h2 i hi (by omega))]
   simp only[vaa]
   rw[vab (by simp),cW (by omega) (by omega),show((i:Int)+1)=((i+1:Nat):Int) by omega]
  ·simp only[lb]
   rw[vab (Xs _)]
 have hA:=qaK (R:=λa b=>R (a,b)) (l:=a.Args) (m:=b.Args) (by omega) q3 (λx hx y hy hxy=>ih (x,y) (kH hx) ⟨Ci ha hx,Ci hb hy,hxy⟩)
 rw[hJ]
 simp only[vaa,vaD,if_false]
 rw[hL]
 simp only[vaa]
 rw[hA]
 rfl
theorem ZO:wo tR=tR:=by rw[Kc];rfl
theorem V2(p:cc):Pa p=⟨p.Name,wo p.Type_⟩:=by
 unfold Pa
 by_cases h:p.Type_=tR
 ·rw[vad h,h,ZO]
 ·rw[vab h]
theorem qb1{s t:af}(h:jY s=jY t):s.Op=t.Op/\s.Name=t.Name/\s.N=t.N/\s.Kids.map jY=t.Kids.map jY/\s.Params.map Pa=t.Params.map Pa/\s.Alts.map qbY=t.Alts.map qbY/\s.Types.map wo=t.Types.map wo:=by
 rw[jJ,jJ t]at h
 injection h with a b c d e f g
 exact⟨a,b,c,d,e,f,g⟩
theorem qaI(s:af)(hs:FP s):∀t,FP t->jY s=jY t->By s t=some true:=by
 intro t ht h
 refine Ak (F:=wD) (λx=>nE x.1) (λx=>FP x.1/\FP x.2/\jY x.1=jY x.2) (λ_=>some true) (λR x hx ih=>?_) (s,t) ⟨hs,ht,h⟩ (show nE s<Uo by have:=vau (Cz s) hs;unfold Uo;omega)
 obtain⟨a,b⟩:=x
 obtain⟨ha,hb,h⟩:=hx
 have ha:FP a:=ha
 have hb:FP b:=hb
 obtain⟨q1,q2,q3,q4,q5,q6,q7⟩:=qb1 (s:=a) (t:=b) h
 have hB:nE a<=16777216:=vau (Cz a) ha
 have hkl:=An a
 have hal:=mw a
 have hpl:=jZ a
 have htl:=xO a
 show pA (λa b=>R (a,b)) a b=some true
 unfold pA
 have hJ:nS a b=some false:=by
  unfold nS
  rw[vab (by simp[q1]),vab (by simp[q2]),vab (by simp[q3]),vab (by simp[(zD q4).1]),vab (by simp[(zD q5).1]),vab (by simp[(zD q6).1])]
  rw[qaK (by omega) q7 (λx hx y hy hxy=>Oe x (tK ha hx) y (tK hb hy) hxy)]
  rfl
 have hL2:nV (λa b=>R (a,b)) a b (a.Kids.length:Int) 0=some (.inr ()):=by
  obtain⟨h1,h2⟩:=zD q4
  unfold nV
  refine dM a.Kids.length _ (λi=>(i:Int)) _ (λi hi=>?_) ?_
  ·simp only[kY]
   rw[vad (Xt hi),aM _ _ hi,aM _ i (by omega)]
   simp only[vaa]
   rw[ih (_,_) (pX (vah hi)) ⟨mB ha (vah hi),mB hb (vah _),h2 i hi (by omega)⟩]
   simp only[vaa]
   rw[vab (by simp),cW (by omega) (by omega),show((i:Int)+1)=((i+1:Nat):Int) by omega]
  ·simp only[kY]
   rw[vab (Xs _)]
 have hL3:nW a b (a.Params.length:Int) 0=some (.inr ()):=by
  obtain⟨h1,h2⟩:=zD q5
  unfold nW
  refine dM a.Params.length _ (λi=>(i:Int)) _ (λi hi=>?_) ?_
  ·simp only[kZ]
   have hp:=h2 i hi (by omega)
   rw[V2,V2]at hp
   injection hp with hp1 hp2
   have hJ4:nT a b (i:Int)=some false:=by
    unfold nT
    rw[aM _ _ hi,aM _ i (by omega)]
    simp only[vaa]
    rw[vab (by simp[hp1]),Oe _ (Fp ha (vah hi)) _ (Fp hb (vah _)) hp2]
    rfl
   rw[vad (Xt hi),hJ4]
   simp only[vaa]
   rw[vab (by simp),cW (by omega) (by omega),show((i:Int)+1)=((i+1:Nat):Int) by omega]
  ·simp only[kZ]
   rw[vab (Xs _)]
 have hL5:nX (λa b=>R (a,b)) a b (a.Alts.length:Int) 0=some (.inr ()):=by
  obtain⟨h1,h2⟩:=zD q6
  unfold nX
  refine dM a.Alts.length _ (λi=>(i:Int)) _ (λi hi=>?_) ?_
  ·simp only[la]
   have hp:=h2 i hi (by omega)
   rw[Rq,Rq]at hp
   injection hp with hp1 hp2 hp3
   have hnl:=EP (vah hi)
   have hJ6:nU (λa b=>R (a,b)) a b (i:Int)=some false:=by
    unfold nU
    rw[aM _ _ hi,aM _ i (by omega)]
    simp only[vaa]
    rw[vab (by simp[hp1]),Qd _ _ (by omega)]
    simp only[vaa]
    rw[vab (by simp[hp2]),show R (a.Alts[i].Body,(b.Alts[i]'(by omega)).Body)=some true from ih (a.Alts[i].Body,(b.Alts[i]'(by omega)).Body) (EO (vah hi)) ⟨Fo ha (vah hi),Fo hb (vah _),hp3⟩]
    rfl
   rw[vad (Xt hi),hJ6]
   simp only[vaa]
   rw[vab (by simp),cW (by omega) (by omega),show((i:Int)+1)=((i+1:Nat):Int) by omega]
  ·simp only[la]
   rw[vab (Xs _)]
 rw[hJ]
 simp only[vaa,vaD,if_false]
 rw[hL2]
 simp only[vaa]
 rw[hL3]
 simp only[vaa]
 rw[hL5]
 rfl
theorem Qb(t:ae)(h:ff (aj t)<=1048576):∃s,rE t=some s/\(s≠[]->(xQ t).2=false/\s=(xQ t).1):=by
 have ht:re t:=by unfold re;omega
 have hl:(xQ t).1.length+8<=64 * ff (aj t):=Jq t ht
 have hb:([]:List Int).length+(aJ [xQ t]).1.length<=1073741824:=by rw[dC];simp only[List.length_nil];omega
 obtain⟨k1,b1,e1,f1,g1,_⟩:=Ee t 16777216 (Qi ht) ht [] false hb
 refine⟨XH (xQ t),?_,λhne=>?_⟩
 ·unfold rE
  rw[e1]
  show(eJ k1 b1).bind _=_
  rw[WD f1 g1]
  rfl
 ·unfold XH at hne ⊢
  cases hx:(xQ t).2 with
  |true=>rw[hx]at hne;exact absurd rfl hne
  |false=>exact⟨rfl,rfl⟩
theorem P5(e:af)(h:ff (ag e)<=1048576):∃s,ke e=some s/\(s≠[]->Cy e/\(Bh 16777216 e).2=false/\s=(Bh 16777216 e).1):=by
 have he:FP e:=by unfold FP;omega
 obtain⟨c,h1,h2⟩:=Yv e (Sb he)
 unfold ke kl
 rw[h1]
 simp only[vaa]
 by_cases hc:c=0
 ·subst hc
  have hg:=Uu e he h2
  have hl:(Bh 16777216 e).1.length+8<=64 * ff (ag e):=Mu 16777216 e hg he
  have hn:nE e<=16777216:=vau (Cz e) he
  have hb:([]:List Int).length+(aJ [Bh 16777216 e]).1.length<=1073741824:=by rw[dC];simp only[List.length_nil];omega
  obtain⟨k1,b1,e1,f1,g1,_⟩:=qfP e 16777216 hn hg he [] false hb
  refine⟨XH (Bh 16777216 e),?_,λhne=>⟨SF e he h2,?_⟩⟩
  ·rw[vab (by simp),e1]
   show(eJ k1 b1).bind _=_
   rw[WD f1 g1]
   rfl
  ·unfold XH at hne ⊢
   cases hx:(Bh 16777216 e).2 with
   |true=>rw[hx]at hne;exact absurd rfl hne
   |false=>exact⟨rfl,rfl⟩
 ·refine⟨[],?_,λh=>absurd rfl h⟩
  rw[vad (by simpa using hc)]
  rfl
theorem Tt:Pc []:=λc t e=>by cases e
theorem qaU{s t:ae}(hs:re s)(ht:re t)(h1:(xQ s).2=false)(h2:(xQ t).2=false)(h:(xQ s).1=(xQ t).1):wo s=wo t:=by
 have a:=Cf (r:=[]) hs h1 Tv
 have b:=Cf (r:=[]) ht h2 Tv
 rw[h,b]at a
 injection a with a
 injection a with a
 exact a.symm
theorem Za{d e:af}(hd:FP d)(he:FP e)(gd:Cy d)(ge:Cy e)(h1:(Bh 16777216 d).2=false)(h2:(Bh 16777216 e).2=false)(h:(Bh 16777216 d).1=(Bh 16777216 e).1):jY d=jY e:=by
 have a:=jp (r:=[]) (Ww 16777216 d (vau (Cz d) hd) gd hd) h1 Tt rfl
 have b:=jp (r:=[]) (Ww 16777216 e (vau (Cz e) he) ge he) h2 Tt rfl
 rw[h,b]at a
 injection a with a
 injection a with a
 exact a.symm
theorem LK(x0 x1:ae)(x2 x3:af)(h:ff (aj x0)+(ff (aj x1)+(ff (ag x2)+(ff (ag x3)+0)))<=1048576):wC x0 x1 x2 x3=some true:=by
 have m0:re x0:=by unfold re;omega
 have m1:re x1:=by unfold re;omega
 have m2:FP x2:=by unfold FP;omega
 have m3:FP x3:=by unfold FP;omega
 obtain⟨r0,s0,_⟩:=sG x0 4 m0
 obtain⟨r1,s1,_⟩:=sG x1 4 m1
 obtain⟨r2,s2⟩:=WA x2 m2
 obtain⟨r3,s3⟩:=WA x3 m3
 obtain⟨a,a1,a2⟩:=Qb x0 (by omega)
 obtain⟨b,b1,b2⟩:=Qb x1 (by omega)
 obtain⟨c,c1,c2⟩:=P5 x2 (by omega)
 obtain⟨d,d1,d2⟩:=P5 x3 (by omega)
 have hJ1:∃o,kW x0 x1 x2 x3=some o:=by
  unfold kW
  rw[s0,s1,s2,s3]
  cases r0<;>cases r1<;>cases r2<;>exact⟨_,rfl⟩
 obtain⟨o,hJ1⟩:=hJ1
 have hJ2:kX x0 x1 a b=some false:=by
  unfold kX
  by_cases ha:a=[]
  ·rw[vab (by simp[ha])]
  ·rw[vad (by simp[ha])]
   by_cases hab:a=b
   ·rw[vad (by simp[hab])]
    obtain⟨p1,p2⟩:=a2 ha
    obtain⟨p3,p4⟩:=b2 (by rw[<-hab];exact ha)
    rw[Oe x0 m0 x1 m1 (qaU m0 m1 p1 p3 (by rw[<-p2,<-p4,hab]))]
    rfl
   ·rw[vab (by simp[hab])]
 unfold wC
 rw[hJ1,a1,b1,c1,d1,qdD]
 simp only[vaa]
 cases o with
 |true=>rfl
 | false =>
  rw[vab (by simp),hJ2]
  simp only[vaa]
  rw[vab (by simp)]
  by_cases hc:c=[]
  ·rw[vad (by simp[hc])]
  ·rw[vab (by simp[hc])]
   by_cases hcd:c=d
   ·rw[vab (by simp[hcd])]
    obtain⟨g1,p1,p2⟩:=c2 hc
    obtain⟨g2,p3,p4⟩:=d2 (by rw[<-hcd];exact hc)
    rw[qaI x2 m2 x3 m3 (Za m2 m3 g1 g2 p1 p3 (by rw[<-p2,<-p4,hcd]))]
    rfl
   ·rw[vad (by simp[hcd])]
end Go.Proofs.YtibglelmlnfojaaGreatDoor
