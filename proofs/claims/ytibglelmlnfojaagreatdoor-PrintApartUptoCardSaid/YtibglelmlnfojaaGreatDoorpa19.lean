/- PROVED: a part of the proof. Conditions: none. -/
import Derived.Test.YtibglelmlnfojaaGreatDoorpa18
import Derived.Test.YtibglelmlnfojaaGreatDoorpa17
set_option linter.unusedSimpArgs false
set_option linter.unusedVariables false
noncomputable section
namespace Go.Proofs.YtibglelmlnfojaaGreatDoor
open Go
set_option linter.unusedVariables false
set_option linter.unusedSimpArgs false
theorem Zi{α:Type}(x y:α)(l:List α):dh (x::y::l) 1=some y:=by have:=aM (x::y::l) 1 (by simp);exact this
theorem qiZ{α:Type}(x y z:α)(l:List α):dh (x::y::z::l) 2=some z:=by have:=aM (x::y::z::l) 2 (by simp);exact this
theorem Ok(n:Nat)(e:af):Bh (n+1) e=aJ (EF (Bh n) e):=rfl
theorem mB{e x:af}(h:FP e)(hx:x∈e.Kids):FP x:=vau (vbJ (qak hx)) h
theorem Fo{e:af}{a:cf}(h:FP e)(hx:a∈e.Alts):FP a.Body:=vau (vbJ (TK hx)) h
theorem tK{e:af}{t:ae}(h:FP e)(hx:t∈e.Types):re t:=vau (vbJ (Wf hx)) h
theorem Fp{e:af}{p:cc}(h:FP e)(hx:p∈e.Params):re p.Type_:=by
 have h1:=TL hx
 have h2:=Fg p
 unfold re
 unfold FP at h
 omega
theorem Qi{t:ae}(h:re t):fH t<=16777216:=vau (Mn t) h
theorem qaX(t:ae)(h:re t):decide (t=tR)=(decide (t.Op=0)&&(decide (t.Name=[])&&(decide (t.Args=[])&&(decide (t.Names=[])&&(decide (t.Pred=dK)&&decide (t.Preds=[])))))):=by
 obtain⟨o,n,as1,ns,p,ps⟩:=t
 simp[tR,dK]
 rfl
theorem qaq(t:ae)(h:re t):sE t=some (decide (t=tR)):=by
 unfold sE
 rw[qaX t h]
 by_cases h1:t.Op=0
 ·rw [vad (by simp [h1])]
  by_cases h2:t.Name=[]
  ·rw [vad (by simp [h2])]
   by_cases h3:t.Args=[]
   ·rw [vad (by simp [h3])]
    by_cases h4:t.Names=[]
    ·rw [vad (by simp [h4]),xp _ (qz h)]
     simp only[vaa]
     by_cases h5:t.Pred=dK
     ·rw[vad (by simp[h5])]
      have h6:((t.Preds.length:Int)==0)=decide (t.Preds=[]):=by
       by_cases h6:t.Preds=[]
       ·rw[vaP h6,h6];rfl
       ·rw[decide_eq_false h6,beq_eq_false_iff_ne];intro e;exact h6 (vam (by omega))
      simp[h1,h2,h3,h4,h5,h6]
     ·rw[vab (by simp[h5])]
      simp[h5]
    ·rw[vab (by simpa using h4)]
     simp[h4]
   ·rw[vab (by simpa using h3)]
    simp[h3]
  ·rw[vab (by simpa using h2)]
   simp[h2]
 ·rw[vab (by simpa using h1)]
  simp[h1]
section
variable{f:af->Wr}{R:af->List Int->Bool->Option (List Int×Bool)}
theorem qce(least:Int)(x:af)(hx:qdm x)(hR:∀k b,RS eD Prod.mk k b [f x] (R x k b))(k:List Int)(b:Bool):RS eD Prod.mk k b [yc f least x] (fl R x least k b):=by
 unfold fl yc
 refine dw (qaj x hx) (fi (λhc=>?_) λhc=>?_)
 ·rw[vad (by simpa using hc)]
  exact RS.one (bS ay (fk _ k b) λk1=>bI ay (hR k1 b) λk2 b2=>bS ay (fk _ k2 b2) λk3=>bm (mk:=Prod.mk) ay)
 ·rw[vab (by simpa using hc)]
  exact bI ay (hR k b) λk1 b1=>bm (mk:=Prod.mk) ay
theorem Kh(l:List af)(hl:l.length<9223372036854775808)(hR:∀x∈l,∀k b,RS eD Prod.mk k b [f x] (R x k b))(k:List Int)(b:Bool):RS eD Prod.mk k b (lh f l) (dR R l k b):=by
 unfold dR lh
 refine bS ay (fk _ k b) λk1=>eh ay (mk:=Prod.mk) ?_ λk2 b2=>bS ay (fk _ k2 b2) λk3=>bm (mk:=Prod.mk) ay
 unfold kM iQ
 have h:=Hf (k:=k1) (b:=b) ay l hl ax f (body:=λzz:Int×List Int×Bool=>cH R l (l.length:Int) zz.1 zz.2.1 zz.2.2) (λi hi k b=>?_) (λk b=>?_)
 ·exact(eh ay h λk b=>bm (mk:=Prod.mk) ay).cast (by rw[vaC])
 ·show RS _ _ _ _ _ (cH R l (l.length:Int) (i:Int) k b)
  unfold cH
  rw[vad (Xt hi)]
  refine xu ay (G2 ax i k b) λk1=>bI ay (mk:=Prod.mk) ?_ λk2 b2=>bm ay
  unfold mZ
  exact dw (aM _ _ hi) (bI ay (hR _ (vah hi) k1 b) λk3 b3=>bm (mk:=Prod.mk) ay)
 ·show cH R l (l.length:Int) (l.length:Int) k b=_
  unfold cH
  rw[vab (Xs _)]
theorem Wj(l:List ae)(hl:l.length<9223372036854775808)(hs:∀t∈l,re t)(k:List Int)(b:Bool):RS eD Prod.mk k b (iZ l) (gO l k b):=by
 unfold gO iZ
 refine fi (λhc=>?_) λhc=>?_
 ·rw[vad (vam (by simp at hc;simp[hc]))]
  exact bm (mk:=Prod.mk) ay
 rw[vab (λe=>by rw[e]at hc;simp at hc)]
 refine bS ay (fk _ k b) λk1=>eh ay (mk:=Prod.mk) ?_ λk2 b2=>bS ay (fk _ k2 b2) λk3=>bm (mk:=Prod.mk) ay
 unfold kL iP
 have h:=Hf (k:=k1) (b:=b) ay l hl ax xQ (body:=λzz:Int×List Int×Bool=>cG l (l.length:Int) zz.1 zz.2.1 zz.2.2) (λi hi k b=>?_) (λk b=>?_)
 ·exact(eh ay h λk b=>bm (mk:=Prod.mk) ay).cast (by rw[vaC])
 ·show RS _ _ _ _ _ (cG l (l.length:Int) (i:Int) k b)
  unfold cG
  rw[vad (Xt hi)]
  refine xu ay (G2 ax i k b) λk1=>bI ay (mk:=Prod.mk) ?_ λk2 b2=>bm ay
  unfold ma
  have hm:=hs _ (vah hi)
  exact dw (aM _ _ hi) (bI ay (Ee _ _ (Qi hm) hm k1 b) λk3 b3=>bm (mk:=Prod.mk) ay)
 ·show cG l (l.length:Int) (l.length:Int) k b=_
  unfold cG
  rw[vab (Xs _)]
theorem qch(l:List ah)(hl:l.length<9223372036854775808)(k:List Int)(b:Bool):RS eD Prod.mk k b (pY l) (gN l k b):=by
 unfold gN pY
 refine fi (λhc=>?_) λhc=>?_
 ·rw[vad (vam (by simp at hc;simp[hc]))]
  exact bm (mk:=Prod.mk) ay
 rw[vab (λe=>by rw[e]at hc;simp at hc)]
 refine bS ay (fk _ k b) λk1=>eh ay (mk:=Prod.mk) ?_ λk2 b2=>bS ay (fk _ k2 b2) λk3=>bm (mk:=Prod.mk) ay
 unfold na kh
 have h:=Hf (k:=k1) (b:=b) ay l hl ax (qa false) (body:=λzz:Int×List Int×Bool=>da l (l.length:Int) zz.1 zz.2.1 zz.2.2) (λi hi k b=>?_) (λk b=>?_)
 ·exact(eh ay h λk b=>bm (mk:=Prod.mk) ay).cast (by rw[vaC])
 ·show RS _ _ _ _ _ (da l (l.length:Int) (i:Int) k b)
  unfold da
  rw[vad (Xt hi)]
  refine xu ay (G2 ax i k b) λk1=>bI ay (mk:=Prod.mk) ?_ λk2 b2=>bm ay
  unfold l9
  exact dw (aM _ _ hi) (bI ay (La _ k1 b) λk3 b3=>bm (mk:=Prod.mk) ay)
 ·show da l (l.length:Int) (l.length:Int) k b=_
  unfold da
  rw[vab (Xs _)]
theorem qci(e:af)(hl:e.Params.length<9223372036854775808)(hs:∀p∈e.Params,re p.Type_)(k:List Int)(b:Bool):RS eD Prod.mk k b (eU ax (e.Params.map FB)) (gh (e.Params.length:Int) e k b):=by
 unfold gh ic
 have h:=Hf (k:=k) (b:=b) ay e.Params hl ax FB (body:=λzz:Int×List Int×Bool=>cr e (e.Params.length:Int) zz.1 zz.2.1 zz.2.2) (λi hi k b=>?_) (λk b=>?_)
 ·exact(eh ay h λk b=>bm (mk:=Prod.mk) ay).cast (by rw[vaC])
 ·show RS _ _ _ _ _ (cr e (e.Params.length:Int) (i:Int) k b)
  unfold cr
  rw[vad (Xt hi)]
  refine xu ay (G2 ax i k b) λk1=>bI ay (mk:=Prod.mk) (w:=FB e.Params[i]) (RS.one ?_) λk2 b2=>bm ay
  unfold lV
  have hm:=hs _ (vah hi)
  refine dw (aM _ _ hi) (bI ay (La _ k1 b) λk2 b2=>dw (aM _ _ hi) (dw (qaq _ hm) (fi (λhc=>?_) λhc=>?_)))
  ·rw[vab (by simpa using hc)]
   exact bS ay (fk _ k2 b2) λk3=>dw (aM _ _ hi) (bI ay (Ee _ _ (Qi hm) hm k3 b2) λk4 b4=>bm (mk:=Prod.mk) ay)
  ·rw[vad (by simpa using hc)]
   exact bm (mk:=Prod.mk) ay
 ·show cr e (e.Params.length:Int) (e.Params.length:Int) k b=_
  unfold cr
  rw[vab (Xs _)]
theorem qfO(l:List cf)(hl:l.length<9223372036854775808)(hn:∀a∈l,a.Names.length<9223372036854775808)(hR:∀a∈l,∀k b,RS eD Prod.mk k b [f a.Body] (R a.Body k b))(k:List Int)(b:Bool):RS eD Prod.mk k b (eU ey (l.map (Bz f))) (gX R l (l.length:Int) 0 k b):=by
 unfold gX
 refine Hf ay l hl ey (Bz f) (λi hi k b=>?_) (λk b=>?_)
 ·show RS _ _ _ _ _ (dT R l (l.length:Int) (i:Int) k b)
  unfold dT
  rw[vad (Xt hi)]
  have hm:=vah hi
  refine dw (aM _ _ hi) (xu ay (G2 ey i k b) λk1=>RS.of1' ?_)
  exact bI ay (U4 _ k1 b) λk2 b2=>(eh ay (qch _ (hn _ hm) k2 b2) λk3 b3=>bS ay (fk _ k3 b3) λk4=>bI ay (hR _ hm k4 b3) λk5 b5=>bm ay)
 ·show dT R l (l.length:Int) (l.length:Int) k b=_
  unfold dT
  rw[vab (Xs _)]
theorem Rz(sg:ah)(a c:af)(x y:Int)(ha:qdm a)(hc:qdm c)(hRa:∀k b,RS eD Prod.mk k b [f a] (R a k b))(hRc:∀k b,RS eD Prod.mk k b [f c] (R c k b))(k:List Int)(b:Bool):RS eD Prod.mk k b (Hz f sg [a,c] x y) (eT R a sg c x y k b):=by
 unfold eT Hz
 exact bI ay (qce x a ha hRa k b) λk1 b1=>bS ay (qc7 _ _ _ k1 b1) λk2=>bI ay (qce y c hc hRc k2 b1) λk3 b3=>bm (mk:=Prod.mk) ay
theorem qcd(e:af)(hg:Al e)(hs:FP e)(hR:∀x,nE x<nE e->Al x->FP x->∀k b,RS eD Prod.mk k b [f x] (R x k b))(k:List Int)(b:Bool):RS eD Prod.mk k b (EF f e) (ji R e k b):=by
 have hsh:=wS hg
 have hB:nE e<=16777216:=vau (Cz e) hs
 have hK:∀x∈e.Kids,∀k b,RS eD Prod.mk k b [f x] (R x k b):=λx hx=>hR x (pX hx) (ky hg hx) (mB hs hx)
 have hSK:∀x∈e.Kids,qdm x:=λx hx=>wS (ky hg hx)
 have hkl:=An e
 have hal:=mw e
 have hpl:=jZ e
 have htl:=xO e
 have hT:∀t∈e.Types,re t:=λt ht=>tK hs ht
 unfold ji EF
 refine fi (λh=>?_) λh=>?_
 ·have h1:e.Op=1:=by simpa using h
  have hz:=hsh.n1 h1
  rw[vad h1]
  unfold LH
  refine fi (λhn=>?_) λhn=>?_
  ·rw[vad (by simpa using hn)]
   exact dw (E3 hz) (bS ay (qc7 _ _ _ k b) λk1=>bm (mk:=Prod.mk) ay)
  ·rw[vab (by simpa using hn)]
   exact dw (E3 hz) (bS ay (fk _ k b) λk1=>bm (mk:=Prod.mk) ay)
 rw[vab (by simpa using h)]
 refine fi (λh=>?_) λh=>?_
 ·rw[vad (by simpa using h)]
  have hf:fq (e.N==1)=some (if e.N=1 then eC else eR):=by
   by_cases hn:e.N=1
   ·rw[vad hn,hn];rfl
   ·rw[vab hn,show(e.N==1)=false by simpa using hn];rfl
  exact dw hf (bS ay (fk _ k b) λk1=>bm (mk:=Prod.mk) ay)
 rw[vab (by simpa using h)]
 refine fi (λh=>?_) λh=>?_
 ·rw[vad (by simpa using h)]
  exact bI ay (La _ k b) λk1 b1=>bm (mk:=Prod.mk) ay
 rw[vab (by simpa using h)]
 refine fi (λh=>?_) λh=>?_
 ·rw[vad (by simpa using h)]
  refine bI ay (U4 _ k b) λk1 b1=>eh ay (Wj _ (by omega) hT k1 b1) λk2 b2=>fi (λhk=>?_) λhk=>?_
  ·rw[vab (λe0=>by rw[e0]at hk;simp at hk)]
   exact(eh ay (Kh _ (by omega) hK k2 b2) λk3 b3=>bm (mk:=Prod.mk) ay).cast (by rw[vaC])
  ·rw[vad (vam (by simp at hk;simp[hk]))]
   exact bm (mk:=Prod.mk) ay
 rw[vab (by simpa using h)]
 refine fi (λh=>?_) λh=>?_
 ·rw[vad (by simpa using h)]
  exact bI ay (La _ k b) λk1 b1=>eh ay (Wj _ (by omega) hT k1 b1) λk2 b2=>(eh ay (Kh _ (by omega) hK k2 b2) λk3 b3=>bm (mk:=Prod.mk) ay).cast (by rw[vaC])
 rw[vab (by simpa using h)]
 have h4':e.Op≠5:=by simpa using h
 have hJ1:iA e.Op=some (e.Op==6||e.Op==7||e.Op==8||e.Op==9||e.Op==25):=by
  unfold iA
  cases e.Op==6<;>cases e.Op==7<;>cases e.Op==8<;>cases e.Op==9<;>rfl
 refine dw hJ1 (fi (λhc=>?_) λhc=>?_)
 ·have key:RS eD Prod.mk k b (if e.Op=6 then tW mg::(eU ax (e.Params.map FB)++[tW aR,kE f e.Kids 0])
    else if e.Op=7 then tW tQ::qa false e.Name::((match e.Types with|[]=>[]|t::_=>[tW aS,xQ t])++[tW dY,kE f e.Kids 0,tW cP,kE f e.Kids 1])
    else if e.Op=8 then[tW Ct,kE f e.Kids 0,tW fF,kE f e.Kids 1,tW fE,kE f e.Kids 2]
    else if e.Op=9 then tW rV::kE f e.Kids 0::tW dG::(eU ey (e.Alts.map (Bz f))++[tW gS])
    else tW xP::qa false e.Name::tW ce::(lh f (e.Kids.take (e.Kids.length - 1))++[tW cP,kE f e.Kids (e.Kids.length - 1)])) (kg R e k b):=by
   unfold kg
   refine fi (λh=>?_) λh=>?_
   ·have h6:e.Op=6:=by simpa using h
    rw[vad h6]
    obtain⟨x,hx⟩:=hsh.k1 (.inl h6)
    have hk0:∀k b,RS eD Prod.mk k b [f x] (R x k b):=hK x (by rw[hx];simp)
    rw[hx]
    exact bS ay (fk _ k b) λk1=>eh ay (qci e (by omega) (λp hp=>Fp hs hp) k1 b) λk2 b2=>bS ay (fk _ k2 b2) λk3=>dw (ep _ _) (bI ay (hk0 k3 b2) λk4 b4=>bm (mk:=Prod.mk) ay)
   rw[vab (by simpa using h)]
   refine fi (λh=>?_) λh=>?_
   ·have h7:e.Op=7:=by simpa using h
    rw[vad h7]
    obtain⟨x,y,hx⟩:=hsh.k2 (.inl h7)
    have hk0:∀k b,RS eD Prod.mk k b [f x] (R x k b):=hK x (by rw[hx];simp)
    have hk1:∀k b,RS eD Prod.mk k b [f y] (R y k b):=hK y (by rw[hx];simp)
    rw[hx]
    refine bS ay (fk _ k b) λk1=>bI ay (La _ k1 b) λk2 b2=>eh ay (mk:=Prod.mk) ?_ λk3 b3=>bS ay (fk _ k3 b3) λk4=>dw (ep _ _) (bI ay (hk0 k4 b3) λk5 b5=>bS ay (fk _ k5 b5) λk6=>dw (Zi _ _ _) (bI ay (hk1 k6 b5) λk7 b7=>bm (mk:=Prod.mk) ay))
    unfold kJ
    cases hty:e.Types with
    |nil=>
     rw[vab (by simp)]
     exact bm (mk:=Prod.mk) ay
    |cons t l=>
     have hm:=hT t (by rw[hty];simp)
     rw[vad (by simp)]
     exact bS ay (fk _ k2 b2) λk3=>dw (ep _ _) (bI ay (Ee _ _ (Qi hm) hm k3 b2) λk4 b4=>bm (mk:=Prod.mk) ay)
   rw[vab (by simpa using h)]
   refine fi (λh=>?_) λh=>?_
   ·have h8:e.Op=8:=by simpa using h
    rw[vad h8]
    obtain⟨x,y,z,hx⟩:=hsh.k3 h8
    have hk0:∀k b,RS eD Prod.mk k b [f x] (R x k b):=hK x (by rw[hx];simp)
    have hk1:∀k b,RS eD Prod.mk k b [f y] (R y k b):=hK y (by rw[hx];simp)
    have hk2:∀k b,RS eD Prod.mk k b [f z] (R z k b):=hK z (by rw[hx];simp)
    rw[hx]
    exact bS ay (fk _ k b) λk1=>dw (ep _ _) (bI ay (hk0 k1 b) λk2 b2=>bS ay (fk _ k2 b2) λk3=>dw (Zi _ _ _) (bI ay (hk1 k3 b2) λk4 b4=>bS ay (fk _ k4 b4) λk5=>dw (qiZ _ _ _ _) (bI ay (hk2 k5 b4) λk6 b6=>bm (mk:=Prod.mk) ay)))
   rw[vab (by simpa using h)]
   refine fi (λh=>?_) λh=>?_
   ·have h9:e.Op=9:=by simpa using h
    rw[vad h9]
    obtain⟨x,hx⟩:=hsh.k1 (.inr (.inl h9))
    have hk0:∀k b,RS eD Prod.mk k b [f x] (R x k b):=hK x (by rw[hx];simp)
    rw[hx]
    have hna:∀a∈e.Alts,a.Names.length<9223372036854775808:=λa ha=>by have:=EP ha;omega
    exact bS ay (fk _ k b) λk1=>dw (ep _ _) (bI ay (hk0 k1 b) λk2 b2=>bS ay (fk _ k2 b2) λk3=>eh ay (qfO _ (by omega) hna (λa ha=>hR _ (EO ha) (PL hg ha) (Fo hs ha)) k3 b2) λk4 b4=>bS ay (fk _ k4 b4) λk5=>bm (mk:=Prod.mk) ay)
   rw[vab (by simpa using h)]
   have h25:e.Op=25:=by
    rename_i g6 g7 g8
    simp at hc g6 g7 g8 h
    omega
   rw[vad (by simp[h25])]
   have hl2:=hsh.k25 h25
   have hw:dU ((e.Kids.length:Int) - 1)=((e.Kids.length - 1:Nat):Int):=by rw[cW (by omega) (by omega)];omega
   rw[hw]
   have hlast:kE f e.Kids (e.Kids.length - 1)=f (e.Kids[e.Kids.length - 1]'(by omega)):=by
    unfold kE
    rw[vac (by omega)]
    rfl
   rw[hlast]
   exact bS ay (fk _ k b) λk1=>bI ay (La _ k1 b) λk2 b2=>bS ay (fk _ k2 b2) λk3=>dw (qaN _ _ (by omega)) (eh ay (Kh _ (by rw[vba];omega) (λx hx=>hK x (vbV hx)) k3 b2) λk4 b4=>bS ay (fk _ k4 b4) λk5=>dw (aM _ _ (by omega)) (bI ay (hK _ (vah _) k5 b4) λk6 b6=>bm (mk:=Prod.mk) ay))
  have h25':e.Op≠6->e.Op≠7->e.Op≠8->e.Op≠9->e.Op=25:=by simp at hc;omega
  have key2:=(eh ay key λk1 b1=>bm (mk:=Prod.mk) ay).cast (ws':=_) (by rw[vaC])
  by_cases h6:e.Op=6
  ·rw[vad h6];rw[vad h6]at key2;exact key2
  rw[vab h6];rw[vab h6]at key2
  by_cases h7:e.Op=7
  ·rw[vad h7];rw[vad h7]at key2;exact key2
  rw[vab h7];rw[vab h7]at key2
  by_cases h8:e.Op=8
  ·rw[vad h8];rw[vad h8]at key2;exact key2
  rw[vab h8];rw[vab h8]at key2
  by_cases h9:e.Op=9
  ·rw[vad h9];rw[vad h9]at key2;exact key2
  rw[vab h9];rw[vab h9]at key2
  rw[vad (h25' h6 h7 h8 h9)]
  exact key2
 have hno:e.Op≠6/\e.Op≠7/\e.Op≠8/\e.Op≠9/\e.Op≠25:=by simpa[and_assoc]using hc
 rw[vab hno.1,vab hno.2.1,vab hno.2.2.1,vab hno.2.2.2.1,vab hno.2.2.2.2]
 refine fi (λh=>?_) λh=>?_
 ·have h21:e.Op=21:=by simpa using h
  rw[vad h21]
  obtain⟨x,hx⟩:=hsh.k1 (by omega)
  have hxm:x∈e.Kids:=by rw[hx];simp
  rw[hx]
  refine dw (ep _ _) ?_
  show RS eD Prod.mk k b (if x.Op=16 then Hz f gT x.Kids 5 5 else[tW rh,Il f 3 [x] 0]) _
  refine fi (λh16=>?_) λh16=>?_
  ·have h16':x.Op=16:=by simpa using h16
   rw[vad h16']
   obtain⟨y,z,hy⟩:=(hSK x hxm).k2 (by omega)
   have hgx:=ky hg hxm
   have hsx:=mB hs hxm
   have hlx:=pX hxm
   have m1:y∈x.Kids:=by rw[hy];simp
   have m2:z∈x.Kids:=by rw[hy];simp
   have r1:=hR y (by have:=pX m1;omega) (ky hgx m1) (mB hsx m1)
   have r2:=hR z (by have:=pX m2;omega) (ky hgx m2) (mB hsx m2)
   rw[hy]
   exact dw (ep _ _) (dw (Zi _ _ _) ((eh ay (Rz gT y z 5 5 (wS (ky hgx m1)) (wS (ky hgx m2)) r1 r2 k b) λk1 b1=>bm (mk:=Prod.mk) ay).cast (by rw[vaC])))
  ·rw[vab (by simpa using h16)]
   exact bS ay (fk _ k b) λk1=>bI ay (qce 3 x (hSK x hxm) (hK x hxm) k1 b) λk2 b2=>bm (mk:=Prod.mk) ay
 rw[vab (by simpa using h)]
 refine fi (λh=>?_) λh=>?_
 ·have h15:e.Op=15:=by simpa using h
  rw[vad h15]
  obtain⟨x,hx⟩:=hsh.k1 (by omega)
  have hxm:x∈e.Kids:=by rw[hx];simp
  have r1:=qce 7 x (hSK x hxm) (hK x hxm)
  rw[hx]
  exact bS ay (fk _ k b) λk1=>dw (ep _ _) (bI ay (r1 k1 b) λk2 b2=>bm (mk:=Prod.mk) ay)
 rw[vab (by simpa using h)]
 refine fi (λh=>?_) λh=>?_
 ·rw[vad (by simpa using h)]
  exact bS ay (fk _ k b) λk1=>(eh ay (Kh _ (by omega) hK k1 b) λk3 b3=>bm (mk:=Prod.mk) ay).cast (by rw[vaC])
 rw[vab (by simpa using h)]
 refine fi (λh=>?_) λh=>?_
 ·rw[vad (by simpa using h)]
  exact bS ay (fk _ k b) λk1=>(eh ay (Kh _ (by omega) hK k1 b) λk3 b3=>bm (mk:=Prod.mk) ay).cast (by rw[vaC])
 rw[vab (by simpa using h)]
 refine fi (λh=>?_) λh=>?_
 ·rw[vad (by simpa using h)]
  exact bS ay (fk _ k b) λk1=>(eh ay (Kh _ (by omega) hK k1 b) λk3 b3=>bm (mk:=Prod.mk) ay).cast (by rw[vaC])
 rw[vab (by simpa using h)]
 have h24:e.Op≠24:=by simpa using h
 refine fi (λh=>?_) λh=>?_
 ·have h26:e.Op=26:=by simpa using h
  rw[vad h26]
  obtain⟨x,hx⟩:=hsh.k1 (by omega)
  obtain⟨t,ht⟩:=hsh.t26 h26
  have hxm:x∈e.Kids:=by rw[hx];simp
  have hm:=hT t (by rw[ht];simp)
  have r1:=hK x hxm
  rw[hx,ht]
  exact bS ay (fk _ k b) λk1=>dw (ep _ _) (bI ay (r1 k1 b) λk2 b2=>bS ay (fk _ k2 b2) λk3=>dw (ep _ _) (bI ay (Ee _ _ (Qi hm) hm k3 b2) λk4 b4=>bS ay (fk _ k4 b4) λk5=>bm (mk:=Prod.mk) ay))
 rw[vab (by simpa using h)]
 have hrest:(16<=e.Op/\e.Op<=18)\/(10<=e.Op/\e.Op<=14)\/(19<=e.Op/\e.Op<=20):=by
  have:=hsh.rng
  simp at *
  omega
 obtain⟨x,y,hx⟩:=hsh.k2 (by omega)
 have m1:x∈e.Kids:=by rw[hx];simp
 have m2:y∈e.Kids:=by rw[hx];simp
 have hsg:dh iz e.Op=some (qaL e.Op):=by
  have:e.Op=10\/e.Op=11\/e.Op=12\/e.Op=13\/e.Op=14\/e.Op=16\/e.Op=17\/e.Op=18\/e.Op=19\/e.Op=20:=by omega
  rcases this with h|h|h|h|h|h|h|h|h|h<;>rw[h]<;>rfl
 have hJ2:iB e.Op=some (e.Op==16||e.Op==17||e.Op==18):=by
  unfold iB
  cases e.Op==16<;>cases e.Op==17<;>rfl
 refine dw hJ2 (fi (λhc=>?_) λhc=>?_)
 ·rw[vad (by simpa[or_assoc]using hc)]
  have hb:=Rz (qaL e.Op) x y 5 5 (hSK x m1) (hSK y m2) (hK x m1) (hK y m2) k b
  rw[hx]
  exact dw (ep _ _) (dw hsg (dw (Zi _ _ _) ((eh ay hb λk1 b1=>bm (mk:=Prod.mk) ay).cast (by rw[vaC]))))
 ·rw[vab (by simpa[and_assoc]using hc)]
  have hlv:=qaj e hsh
  have hl9:0<=D6 e/\D6 e<=8:=by
   unfold D6
   repeat' first|omega|split
  have hb:=Rz (qaL e.Op) x y (D6 e) (D6 e+1) (hSK x m1) (hSK y m2) (hK x m1) (hK y m2) k b
  rw[hx]
  refine dw (ep _ _) (dw hsg (dw (Zi _ _ _) (dw hlv (dw hlv ?_))))
  rw[cW (by omega) (by omega)]
  exact(eh ay hb λk1 b1=>bm (mk:=Prod.mk) ay).cast (by rw[vaC])
end
theorem qfP(e:af)(n:Nat)(hn:nE e<=n)(hg:Al e)(hs:FP e)(k:List Int)(b:Bool):RS eD Prod.mk k b [Bh n e] (qn e k b):=by
 have key:∀m n e k b,nE e<m->nE e<=n->Al e->FP e->RS eD Prod.mk k b [Bh n e] (qcX nc m (e,k,b)):=by
  intro m
  induction m with
  |zero=>intro n e k b h;omega
  |succ m ih=>
   intro n e k b hm hn hg hs
   have hp:=JT e
   obtain⟨n,rfl⟩:∃n',n=n'+1:=⟨n - 1,by omega⟩
   rw[Ok]
   exact RS.one (qcd e hg hs (λx hx hgx hsx k b=>ih n x k b (by omega) (by omega) hgx hsx) k b)
 exact key _ n e k b (by have:=vau (Cz e) hs;unfold Uo;omega) hn hg hs
structure qiY(t:ae):Prop where
 rng:1<=t.Op/\t.Op<=6
 nm:t.Op≠4->t.Op≠5->t.Name=[]
 ar:t.Op≠4->t.Op≠6->t.Args=[]
 ns:t.Op≠6->t.Names=[]
theorem Xx{t:ae}(h:nj t=some 0):qiY t:=by
 unfold nj at h
 obtain⟨o1,e1,h⟩:=Gd h
 rcases n9 h with⟨c,h⟩|⟨c,h⟩
 ·cases h
 subst c
 clear h
 unfold ip at e1
 rcases n9 e1 with⟨c1,e1⟩|⟨c1,e1⟩
 ·cases e1
 rcases n9 e1 with⟨c2,e1⟩|⟨c2,e1⟩
 ·cases e1
 have hrng:1<=t.Op/\t.Op<=6:=by simp at c1 c2;omega
 have key:∀o:Int,o=t.Op->(t.Op≠4->t.Op≠5->t.Name=[])/\(t.Op≠4->t.Op≠6->t.Args=[])/\(t.Op≠6->t.Names=[]):=by
  rintro o rfl
  have hn:∀{α:Type} {l:List α},decide ((l.length:Int)>0)=false->l=[]:=λ{α l} h=>vam (by simp at h;simp[h])
  by_cases hnm:(t.Name==([]:ah))=true
  ·rw [vab (by simp [hnm])] at e1
   have hnm':t.Name=[]:=by simpa using hnm
   refine⟨λ_ _=>hnm',?_⟩
   by_cases ha:decide ((t.Args.length:Int)>0)=true
   ·rw[vad ha]at e1
    by_cases h4:t.Op=4
    ·rw[vab (by simp[h4])]at e1
     refine⟨λh=>absurd h4 h,λ_=>?_⟩
     by_cases hb:decide ((t.Names.length:Int)>0)=true
     ·rw[vad hb]at e1;simp[h4]at e1
     ·exact hn (by simpa using hb)
    ·rw[vad (by simp[h4])]at e1
     by_cases h6:t.Op=6
     ·exact⟨λ_ h=>absurd h6 h,λh=>absurd h6 h⟩
     ·rw[vad (by simp[h6])]at e1;cases e1
   ·rw[vab ha]at e1
    refine⟨λ_ _=>hn (by simpa using ha),λh6=>?_⟩
    by_cases hb:decide ((t.Names.length:Int)>0)=true
    ·rw[vad hb]at e1;simp[h6]at e1
    ·exact hn (by simpa using hb)
  ·rw [vad (by simp [hnm])] at e1
   by_cases h4:t.Op=4
   ·rw[vab (by simp[h4])]at e1
    refine⟨λh=>absurd h4 h,λh=>absurd h4 h,λ_=>?_⟩
    have hb:∀hb:decide ((t.Names.length:Int)>0)=true,False:=λhb=>by
     by_cases ha:decide ((t.Args.length:Int)>0)=true
     ·rw[vad ha,vab (by simp[h4]),vad hb]at e1;simp[h4]at e1
     ·rw[vab ha,vad hb]at e1;simp[h4]at e1
    exact hn (by cases hx:decide ((t.Names.length:Int)>0)with|false=>rfl|true=>exact(hb hx).elim)
   ·rw [vad (by simp [h4])] at e1
    by_cases h5:t.Op=5
    ·rw[vab (by simp[h5])]at e1
     refine⟨λ_ h=>absurd h5 h,λ_ _=>?_,λ_=>?_⟩
     ·cases ha:decide ((t.Args.length:Int)>0)with
      |false=>exact hn ha
      |true=>rw[vad ha,vad (by simp[h4]),vad (by simp[h5])]at e1;cases e1
     ·cases hb:decide ((t.Names.length:Int)>0)with
      |false=>exact hn hb
      |true=>
       cases ha:decide ((t.Args.length:Int)>0)with
       |true=>rw[vad ha,vad (by simp[h4]),vad (by simp[h5])]at e1;cases e1
       |false=>rw[vab (by rw[ha];simp),vad hb]at e1;simp[h5]at e1
    ·rw[vad (by simp[h5])]at e1;cases e1
 obtain⟨k1,k2,k3⟩:=key _ rfl
 exact⟨hrng,k1,k2,k3⟩
def sZ(w:ah):ae:=if w=Lg then⟨1,[],[],[],dK,[]⟩else if w=EG then⟨2,[],[],[],dK,[]⟩else if w=EH then⟨3,[],[],[],dK,[]⟩else if eG fc w=true then⟨4,w,[],[],dK,[]⟩else⟨5,w,[],[],dK,[]⟩
def Hk(c:UInt8):Bool:=c==40||c==123||pk c
def U7(s:ah):Option (List aa×ah):=aN ed s>>=λu=>OB 1 u>>=λx=>
 match aN ax x.2 with
 |some t=>U7 t>>=λy=>some (x.1::y.1,y.2)
 |none=>aN EJ x.2>>=λv=>some ([x.1],v)
partial_fixpoint
def TP(s:ah):Option (List aa×ah):=
 match aN tO s with
 |none=>some ([],s)
 |some t=>U7 t
mutual
def xr(s:ah):Option (ae×ah):=
 match s with
 |[]=>none
 |c::r=>if c=123 then aN dB (c::r)>>=λt=>RP t>>=λx=>aN fM x.2>>=λu=>OB 1 u>>=λy=>aN C0 y.2>>=λv=>some (⟨x.1.Op,x.1.Name,x.1.Args,x.1.Names,y.1,x.1.Preds⟩,v)
  else RP (c::r)
partial_fixpoint
def RP(s:ah):Option (ae×ah):=
 match s with
 |[]=>none
 |c::r=>if c=40 then U6 r>>=λx=>aN aR x.2>>=λt=>xr t>>=λy=>some (⟨6,[],x.1.1++[y.1],x.1.2,dK,[]⟩,y.2)
  else if(sZ (cN (c::r))).Op=4 then I4 (ef (c::r))>>=λx=>TP x.2>>=λy=>some (⟨4,cN (c::r),x.1,[],dK,y.1⟩,y.2)
  else some (sZ (cN (c::r)),ef (c::r))
partial_fixpoint
def I4(s:ah):Option (List ae×ah):=
 match s with
 |[]=>some ([],[])
 |[c]=>some ([],[c])
 |c::d::t=>if c=32/\Hk d=true then TO (d::t)>>=λx=>I4 x.2>>=λy=>some (x.1::y.1,y.2)else some ([],c::d::t)
partial_fixpoint
def TO(s:ah):Option (ae×ah):=
 match s with
 |[]=>none
 |c::r=>if c=40 then xr r>>=λx=>aN bA x.2>>=λt=>some (x.1,t)else if c=123 then xr (c::r)else some (sZ (cN (c::r)),ef (c::r))
partial_fixpoint
def qaw(s:ah):Option (ae×List ah×ah):=xr s>>=λz=>
 match aN aS z.2 with
 |some t=>xr t>>=λx=>some (x.1,[z.1.Name],x.2)
 |none=>some (z.1,[],z.2)
partial_fixpoint
def U6(s:ah):Option ((List ae×List ah)×ah):=qaw s>>=λx=>
 match aN ax x.2.2 with
 |some t=>U6 t>>=λy=>some ((x.1::y.1.1,x.2.1++y.1.2),y.2)
 |none=>some (([x.1],x.2.1),x.2.2)
partial_fixpoint
end
theorem RT(c:UInt8)(r:ah):xr (c::r)=if c=123 then(aN dB (c::r)).bind λt=>(RP t).bind λx=>(aN fM x.2).bind λu=>(OB 1 u).bind λy=>(aN C0 y.2).bind λv=>some (⟨x.1.Op,x.1.Name,x.1.Args,x.1.Names,y.1,x.1.Preds⟩,v)
  else RP (c::r):=by rw[xr];rfl
theorem RQ(c:UInt8)(r:ah):RP (c::r)=if c=40 then(U6 r).bind λx=>(aN aR x.2).bind λt=>(xr t).bind λy=>some (⟨6,[],x.1.1++[y.1],x.1.2,dK,[]⟩,y.2)
  else if(sZ (cN (c::r))).Op=4 then(I4 (ef (c::r))).bind λx=>(TP x.2).bind λy=>some (⟨4,cN (c::r),x.1,[],dK,y.1⟩,y.2)
  else some (sZ (cN (c::r)),ef (c::r)):=by rw[RP];rfl
theorem Wl(c d:UInt8)(t:ah):I4 (c::d::t)=if c=32/\Hk d=true then(TO (d::t)).bind λx=>(I4 x.2).bind λy=>some (x.1::y.1,y.2)else some ([],c::d::t):=by rw[I4];rfl
theorem N8(c:UInt8)(r:ah):TO (c::r)=if c=40 then(xr r).bind λx=>(aN bA x.2).bind λt=>some (x.1,t)else if c=123 then xr (c::r)else some (sZ (cN (c::r)),ef (c::r)):=by rw[TO];rfl
theorem Wm(s:ah):TP s=match aN tO s with
 |none=>some ([],s)
 |some t=>U7 t:=by rw[TP]
theorem Ws(s:ah):U7 s=(aN ed s).bind λu=>(OB 1 u).bind λx=>match aN ax x.2 with
 |some t=>(U7 t).bind λy=>some (x.1::y.1,y.2)
 |none=>(aN EJ x.2).bind λv=>some ([x.1],v):=by rw[U7];rfl
theorem Wo(s:ah):qaw s=(xr s).bind λz=>match aN aS z.2 with
 |some t=>(xr t).bind λx=>some (x.1,[z.1.Name],x.2)
 |none=>some (z.1,[],z.2):=by rw[qaw];rfl
theorem Wp(s:ah):U6 s=(qaw s).bind λx=>match aN ax x.2.2 with
 |some t=>(U6 t).bind λy=>some ((x.1::y.1.1,x.2.1++y.1.2),y.2)
 |none=>some (([x.1],x.2.1),x.2.2):=by rw[U6];rfl
def XA(p:aa):aa:=if p=dK then⟨2,[],1,[]⟩else p
mutual
def wo:ae->ae
 |⟨o,n,as1,ns,p,ps⟩=>⟨o,n,qb2 as1,ns,p,ps.map XA⟩
def qb2:List ae->List ae
 |[]=>[]
 |t::l=>wo t::qb2 l
end
theorem Tq:∀(l:List ae),qb2 l=l.map wo
 |[]=>rfl
 |t::l=>by rw[qb2,Tq l];rfl
theorem Kc(t:ae):wo t=⟨t.Op,t.Name,t.Args.map wo,t.Names,t.Pred,t.Preds.map XA⟩:=by
 obtain⟨o,n,as1,ns,p,ps⟩:=t
 rw[wo,Tq]
 rfl
theorem ZS{c:UInt8}{t:ah}(h:(!pk c&&c !=40)=true):qa4 (c::t):=λd u e=>by
 cases e
 simpa using h
theorem qdj{p:aa}(hs:ff (ac p)<=16777216)(hf:(pW p).2=false){r:ah}(hr:qa4 r)(hn:Yu r=none):OB 1 ((pW p).1++r)=some (p,r):=by
 have hc:Lz p=0:=by
  unfold pW ED at hf
  by_cases h:Lz p=0
  ·exact h
  ·rw[vab h]at hf
   simpa using hf
 have ht:ED p=(tT p,0):=by unfold ED;rw[vad hc]
 have hb:nP p<=cm:=vau (K3 p) (vau hs (by unfold cm;omega))
 unfold pW
 rw[ht]
 show OB 1 (tT p++r)=_
 rw[Wx _ p (vaw _) (qbp p hb hc) 1 r (Ir _) hr (rJ hn),nI (rJ hn)]
theorem qbK:qa2 ⟨2,[],1,[]⟩:=(Ml _).2 ⟨by kernel_rfl,vzz⟩
theorem qaB{p:aa}(hs:ff (ac p)<=16777216)(hf:(OC p).2=false){r:ah}(hr:qa4 r)(hn:Yu r=none):OB 1 ((OC p).1++r)=some (XA p,r):=by
 unfold OC at hf ⊢
 unfold XA
 by_cases hz:p=dK
 ·rw[vad hz,vad hz]
  have h:=Wx _ ⟨2,[],1,[]⟩ (vaw _) qbK 1 r (Ir _) hr (rJ hn)
  have e:tT ⟨2,[],1,[]⟩=eC:=by rw[Ou];rfl
  rw[e]at h
  show OB 1 (eC++r)=_
  rw[h,nI (rJ hn)]
 ·rw[vab hz]at hf
  rw[vab hz,vab hz]
  exact qdj hs hf hr hn
theorem rq(s:ah)(x:Wr):aJ (eU s [x])=x:=by simp[eU,aJ]
theorem rr(s:ah)(x y:Wr)(l:List Wr):aJ (eU s (x::y::l))=(x.1++(s++(aJ (eU s (y::l))).1),x.2||(aJ (eU s (y::l))).2):=by
 show aJ (x::((y::l).flatMap λx=>[tW s,x]))=_
 rw[vbz]
 rfl
theorem tp{a b:Bool}(h:(a||b)=false):a=false/\b=false:=by cases a<;>cases b<;>simp_all
theorem qdg:∀(l:List aa),l≠[]->(∀p∈l,ff (ac p)<=16777216)->(aJ (eU ax (l.map λp=>aJ [tW ed,OC p]))).2=false->∀r,U7 ((aJ (eU ax (l.map λp=>aJ [tW ed,OC p]))).1++(EJ++r))=some (l.map XA,r)
 |[],h,_,_,_=>absurd rfl h
 |[p],_,hs,hf,r=>by
  rw[vae,vaK,rq]at hf ⊢
  have e:(aJ [tW ed,OC p]).1=ed++(OC p).1:=by simp[aJ]
  have hf:(OC p).2=false:=by simpa[aJ]using hf
  rw[Ws,e,vag,aT]
  simp only[vaa]
  rw[qaB (r:=EJ++r) (hs p (by simp)) hf (ZS (c:=62) (by decide)) (Ty (c:=62) (by decide))]
  simp only[vaa]
  rw[show aN ax (EJ++r)=none from rfl]
  simp only[]
  rw[aT]
  rfl
 |p::q::l,_,hs,hf,r=>by
  rw[vae,vae,rr,<-vae (f:=λp=>aJ [tW ed,OC p])]at hf ⊢
  obtain⟨hf1,hf2⟩:=tp hf
  have ih:=qdg (q::l) (by simp) (λx hx=>hs x (vax _ hx)) hf2 r
  have e:(aJ [tW ed,OC p]).1=ed++(OC p).1:=by simp[aJ]
  have hf1:(OC p).2=false:=by simpa[aJ]using hf1
  rw[Ws]
  simp only[]
  rw[e,vag,vag,vag,aT]
  simp only[vaa]
  rw[qaB (r:=ax++_) (hs p (by simp)) hf1 (ZS (c:=44) (by decide)) (Ty (c:=44) (by decide))]
  simp only[vaa]
  rw[aT]
  simp only[]
  rw[ih]
  rfl
def LI(r:ah):Prop:=xv r/\∀c d t,r=c::d::t->c=32->Hk d=false/\d≠60
theorem Ed{c:UInt8}{t:ah}(h:(!pk c&&c !=32)=true):LI (c::t):=by
 simp at h
 exact⟨h.1,λd e u he h32=>by cases he;exact absurd h32 h.2⟩
theorem V3{d:UInt8}{t:ah}(h:(!Hk d&&d !=60)=true):LI (32::d::t):=by
 simp at h
 exact⟨by show pk 32=false;decide,λc e u he _=>by cases he;exact h⟩
theorem Tv:LI []:=⟨vzz,λ_ _ _ e=>by cases e⟩
theorem qbE{r:ah}(h:LI r):TP r=some ([],r):=by
 rw[Wm]
 have:aN tO r=none:=by
  match r,h with
  |[],_=>rfl
  |[c],_=>
   show aN [32,60] [c]=none
   rw[aN]
   split<;>rfl
  | c :: d :: t,h =>
   show aN [32,60] (c::d::t)=none
   rw[aN]
   by_cases hc:32=c
   ·rw[vad hc,aN,vab (λe=>(h.2 c d t rfl hc.symm).2 e.symm)]
   ·rw[vab hc]
 rw[this]
theorem VA{r:ah}(h:∀c d t,r=c::d::t->c=32->Hk d=false):I4 r=some ([],r):=by
 match r,h with
 |[],_=>rw[I4]
 |[c],_=>rw[I4]
 |c::d::t,h=>
  rw[Wl,vab (λe=>by have:=h c d t rfl e.1;rw[this]at e;exact absurd e.2 (by simp))]
theorem qeq{l:List aa}(hs:∀p∈l,ff (ac p)<=16777216)(hf:(aJ (Kq l)).2=false){r:ah}(hr:LI r):I4 ((aJ (Kq l)).1++r)=some ([],(aJ (Kq l)).1++r)/\TP ((aJ (Kq l)).1++r)=some (l.map XA,r):=by
 unfold Kq at hf ⊢
 by_cases h:l=[]
 ·subst h
  rw[vad rfl]
  show I4 ([]++r)=some ([],[]++r)/\TP ([]++r)=_
  rw[vaJ]
  exact⟨VA λc d t e hc=>(hr.2 c d t e hc).1,qbE hr⟩
 ·rw[vab h]at hf ⊢
  rw[bT,ck]at hf ⊢
  have hf:(aJ (eU ax (l.map λp=>aJ [tW ed,OC p]))).2=false:=(tp hf).1
  have e:(aJ [tW EJ]).1=EJ:=rfl
  have key:=qdg l h hs hf r
  constructor
  ·refine VA λc d t he hc=>?_
   have:d=60:=by simp[tO]at he;exact he.2.1.symm
   subst this
   decide
  ·rw[Wm]
   simp only[]
   rw[vag,aT]
   simp only[]
   rw[vag,e]
   exact key
theorem E7{b:Bool}{s:ah}(h:(qa b s).2=false):aY s=true/\eG fc s=b:=by
 unfold qa at h
 simp at h
 exact h
theorem YX{s:ah}(h:aY s=true):s≠Lg/\s≠EG/\s≠EH:=by
 refine⟨?_,?_,?_⟩<;>rintro rfl<;>revert h
 ·rw[show aY Lg=false by kernel_rfl];decide
 ·rw[show aY EG=false by kernel_rfl];decide
 ·rw[show aY EH=false by kernel_rfl];decide
theorem HW{b:Bool}{s:ah}(h:(qa b s).2=false):sZ s=if b=true then⟨4,s,[],[],dK,[]⟩else⟨5,s,[],[],dK,[]⟩:=by
 obtain⟨h1,h2⟩:=E7 h
 obtain⟨n1,n2,n3⟩:=YX h1
 unfold sZ
 rw[vab n1,vab n2,vab n3,h2]
theorem KI{w r:ah}(hw:∀c∈w,pk c=true)(hne:w≠[])(hr:xv r):∃c t,w++r=c::t/\pk c=true/\c≠40/\c≠123/\cN (c::t)=w/\ef (c::t)=r:=by
 obtain⟨c,t,rfl⟩:=vbB hne
 obtain⟨h1,h2⟩:=oN (c::t) r hw hr
 have hc:=hw c (by simp)
 refine⟨c,t++r,rfl,hc,?_,?_,h1,h2⟩<;>(rintro rfl;revert hc;decide)
section
variable{f:ae->Wr}
def qeo(f:ae->Wr)(t:ae):Prop:=(f t).2=false->∀r,(t.Pred≠dK\/LI r)->xr ((f t).1++r)=some (wo t,r)
def MM(f:ae->Wr)(t:ae):Prop:=(f t).2=false->t.Pred=dK->t.Op≠6->t.Args=[]->t.Preds=[]->∃w,(f t).1=w/\(∀c∈w,pk c=true)/\w≠[]/\sZ w=wo t
def qaG(f:ae->Wr)(t:ae):Prop:=(f t).2=false->t.Pred≠dK->∃u,(f t).1=123::u
theorem qep{a:ae}(h1:qeo f a)(h2:MM f a)(h3:qaG f a)(hf:(R7 f a).2=false){r:ah}(hr:xv r):∃d t,(R7 f a).1++r=d::t/\Hk d=true/\TO (d::t)=some (wo a,r):=by
 unfold R7 at hf ⊢
 by_cases hb:qf7 a=true
 ·rw[vad hb]at hf ⊢
  have hfa:(f a).2=false:=by simpa[aJ]using hf
  refine⟨40,(f a).1++(bA++r),by simp[aJ,cd],by decide,?_⟩
  rw[N8,vad rfl,h1 hfa (bA++r) (.inr (Ed (c:=41) (by decide)))]
  simp only[vaa]
  rw[aT]
  rfl
 ·rw[vab hb]at hf ⊢
  by_cases hz:a.Pred=dK
  ·unfold qf7 at hb
   have:¬(a.Op=6)/\a.Args=[]/\a.Preds=[]:=by
    simp[hz]at hb
    exact⟨hb.1,hb.2.1,hb.2.2⟩
   obtain⟨w,e,hw,hne,ha⟩:=h2 hf hz this.1 this.2.1 this.2.2
   rw[e]
   obtain⟨c,t,e1,c1,c2,c3,c4,c5⟩:=KI hw hne hr
   refine⟨c,t,e1,by unfold Hk;simp[c1],?_⟩
   rw[N8,vab c2,vab c3,c4,c5,ha]
  ·obtain⟨u,e⟩:=h3 hf hz
   refine⟨123,u++r,by rw[e];rfl,by decide,?_⟩
   rw[N8,vab (by decide),vad rfl]
   have:=h1 hf r (.inl hz)
   rw[e]at this
   exact this
theorem qdc:∀(l:List ae),(∀a∈l,qeo f a/\MM f a/\qaG f a)->(aJ (l.flatMap λa=>[tW ce,R7 f a])).2=false->∀r,xv r->I4 r=some ([],r)->I4 ((aJ (l.flatMap λa=>[tW ce,R7 f a])).1++r)=some (l.map wo,r)
 |[],_,_,r,_,hr=>hr
 | a :: l,h,hf,r,hs,hr => by
  rw[vbz,ck]at hf ⊢
  obtain⟨hf1,hf2⟩:=tp hf
  have hf1:(R7 f a).2=false:=by simpa[aJ]using hf1
  have ih:=qdc l (λx hx=>h x (vax _ hx)) hf2 r hs hr
  obtain⟨h1,h2,h3⟩:=h a (by simp)
  have hs2:xv ((aJ (l.flatMap λa=>[tW ce,R7 f a])).1++r):=by
   cases l with
   |nil=>exact hs
   |cons b l=>show pk 32=false;decide
  obtain⟨d,t,e,hd,hrd⟩:=qep h1 h2 h3 hf1 hs2
  have e2:(aJ [tW ce,R7 f a]).1=32::(R7 f a).1:=by simp[aJ,ce]
  simp only[]
  rw[e2,vaL,vaL,vag,e,Wl,vad ⟨rfl,hd⟩,hrd]
  simp only[vaa]
  rw[ih]
  rfl
theorem qfV(ns:List ah):∀(l:List ae) (i:Nat),l≠[]->(ns=[]\/i+l.length<=ns.length)->(∀a∈l,qeo f a)->(aJ (eU ax ((l.zipIdx i).map (ub f ns)))).2=false->∀r,U6 ((aJ (eU ax ((l.zipIdx i).map (ub f ns)))).1++(aR++r))=some ((l.map wo,(ns.drop i).take l.length),aR++r):=by
 have one:∀(a:ae) (i:Nat),(ns=[]\/i<ns.length)->qeo f a->(ub f ns (a,i)).2=false->∀r,LI r->aN aS r=none->
   qaw ((ub f ns (a,i)).1++r)=some (wo a,(ns.drop i).take 1,r):=by
  intro a i hi ha hf r hr hst
  unfold ub at hf ⊢
  by_cases hn:ns=[]
  ·rw[vad hn,vaJ,dC]at hf ⊢
   rw[Wo,ha hf r (.inr hr)]
   simp only[vaa]
   rw[hst,hn]
   simp
  ·rw[vab hn]at hf ⊢
   have hi:=hi.resolve_left hn
   rw[ck]at hf ⊢
   obtain⟨hf1,hf2⟩:=tp hf
   rw[dC]at hf2 ⊢
   have hf1:(qa false (ns.getD i [])).2=false:=by simpa[aJ]using hf1
   have eg:ns.getD i []=ns[i]:=by simp[List.getD,hi]
   rw[eg]at hf1
   have hc:=E7 hf1
   have e1:(aJ [qa false (ns.getD i []),tW aS]).1=ns[i]++aS:=by simp[aJ,qa,List.getD,hi]
   simp only[]
   rw[e1,vag,vag]
   have hne:ns[i]≠[]:=by intro e;rw[e,rv]at hc;cases hc.1
   obtain⟨c,t,e2,c1,c2,c3,c4,c5⟩:=KI (r:=aS++((f a).1++r)) (MX hc.1) hne (by show pk 32=false;decide)
   have hat:sZ ns[i]=⟨5,ns[i],[],[],dK,[]⟩:=(HW hf1).trans (vab (by decide))
   rw[e2,Wo,RT,vab c3,RQ,vab c2,c4,c5,vab (show ¬(sZ ns[i]).Op=4 by rw[hat];show ¬(5:Int)=4;decide),hat]
   simp only[vaa]
   rw[aT]
   simp only[]
   rw[ha hf2 r (.inr hr)]
   rw[vaI hi]
   rfl
 intro l
 induction l with
 |nil=>intro i h;exact absurd rfl h
 | cons a l ih =>
  intro i _ hi h hf r
  have ha:=h a (by simp)
  have hi1:ns=[]\/i<ns.length:=hi.imp_right λh=>by simp at h;omega
  cases l with
  |nil=>
   have e0:([a].zipIdx i).map (ub f ns)=[ub f ns (a,i)]:=rfl
   rw[e0,rq]at hf ⊢
   have h1:=one a i hi1 ha hf (aR++r) (Ed (c:=41) (by decide)) rfl
   rw[Wp,h1]
   rfl
  | cons b l =>
   have e0:((a::b::l).zipIdx i).map (ub f ns)=ub f ns (a,i)::((b::l).zipIdx (i+1)).map (ub f ns):=rfl
   have e3:((b::l).zipIdx (i+1)).map (ub f ns)=ub f ns (b,i+1)::(l.zipIdx (i+2)).map (ub f ns):=rfl
   rw[e0,e3,rr,<-e3]at hf ⊢
   obtain⟨hf1,hf2⟩:=tp hf
   have ih:=ih (i+1) (by simp) (hi.imp_right λh=>by simp at h ⊢;omega) (λx hx=>h x (vax _ hx)) hf2 r
   have h1:=one a i hi1 ha hf1 (ax++((aJ (eU ax (((b::l).zipIdx (i+1)).map (ub f ns)))).1++(aR++r))) (Ed (c:=44) (by decide)) rfl
   simp only[]
   rw[vag,vag,Wp,h1]
   simp only[vaa]
   rw[aT]
   simp only[]
   rw[ih]
   simp only[vaa]
   have:(ns.drop i).take 1++(ns.drop (i+1)).take (b::l).length=(ns.drop i).take (a::b::l).length:=by
    rcases hi1 with hn|hi1
    ·rw[hn];simp
    ·rw[vaI hi1];rfl
   rw[this]
   rfl
end
theorem RW{w R:ah}(hw:∀c∈w,pk c=true)(hne:w≠[])(hR:xv R):∃c u,w++R=c::u/\c≠123/\RP (c::u)=if(sZ w).Op=4 then(I4 R).bind λx=>(TP x.2).bind λy=>some (⟨4,w,x.1,[],dK,y.1⟩,y.2)else some (sZ w,R):=by
 obtain⟨c,t,e1,c1,c2,c3,c4,c5⟩:=KI hw hne hR
 refine⟨c,t,e1,c3,?_⟩
 rw[RQ,vab c2,c4,c5]
theorem IE{b:Bool}{s:ah}(h:(qa b s).2=false):(∀c∈s,pk c=true)/\s≠[]:=by
 have hc:=E7 h
 exact⟨MX hc.1,λe=>by rw[e,rv]at hc;cases hc.1⟩
section
variable{f:ae->Wr}
theorem Wv(t:ae)(hs:re t)(hu:qiY t)(hsh:qf9 t)(h:∀a∈t.Args,qeo f a/\MM f a/\qaG f a)(hf:(aJ (s9 f t)).2=false)(hp:t.Op≠4->t.Preds=[]){R:ah}(hR:LI R):∃c u,(aJ (s9 f t)).1++R=c::u/\c≠123/\RP (c::u)=some (⟨t.Op,t.Name,t.Args.map wo,t.Names,dK,t.Preds.map XA⟩,R):=by
 have hrng:=hu.rng
 have basic:∀(k:Int) (w:ah),t.Op=k->k≠4->k≠5->k≠6->(∀c∈w,pk c=true)->w≠[]->sZ w=⟨k,[],[],[],dK,[]⟩->∃c u,w++R=c::u/\c≠123/\RP (c::u)=some (⟨t.Op,t.Name,t.Args.map wo,t.Names,dK,t.Preds.map XA⟩,R):=by
  intro k w hk h4 h5 h6 hw hne ha
  obtain⟨c,u,e,c1,c2⟩:=RW hw hne hR.1
  refine⟨c,u,e,c1,?_⟩
  rw[c2,vab (by rw[ha];exact h4),ha,hk,hu.nm (by omega) (by omega),hu.ar (by omega) (by omega),hu.ns (by omega),hp (by omega)]
  rfl
 unfold s9 at hf ⊢
 by_cases h1:t.Op=1
 ·rw[vad h1,dC]
  exact basic 1 Lg h1 (by omega) (by omega) (by omega) (by decide) (by decide) rfl
 rw[vab h1]at hf ⊢
 by_cases h2:t.Op=2
 ·rw[vad h2,dC]
  exact basic 2 EG h2 (by omega) (by omega) (by omega) (by decide) (by decide) rfl
 rw[vab h2]at hf ⊢
 by_cases h3:t.Op=3
 ·rw[vad h3,dC]
  exact basic 3 EH h3 (by omega) (by omega) (by omega) (by decide) (by decide) rfl
 rw[vab h3]at hf ⊢
 by_cases h5:t.Op=5
 ·rw[vad h5,dC]at hf ⊢
  obtain⟨hw,hne⟩:=IE hf
  have ha:sZ t.Name=⟨5,t.Name,[],[],dK,[]⟩:=(HW hf).trans (vab (by decide))
  obtain⟨c,u,e,c1,c2⟩:=RW hw hne hR.1
  refine⟨c,u,e,c1,?_⟩
  rw[c2,vab (by rw[ha];show ¬(5:Int)=4;decide),ha,h5,hu.ar (by omega) (by omega),hu.ns (by omega),hp (by omega)]
  rfl
 rw[vab h5]at hf ⊢
 by_cases h4:t.Op=4
 ·rw[vad h4]at hf ⊢
  unfold SK at hf ⊢
  rw[bT,ck]at hf ⊢
  obtain⟨f1,f2⟩:=tp hf
  obtain⟨f2,f3⟩:=tp f2
  obtain⟨hw,hne⟩:=IE f1
  have ha:sZ t.Name=⟨4,t.Name,[],[],dK,[]⟩:=(HW f1).trans (vad rfl)
  obtain⟨p1,p2⟩:=qeq (λp hp=>AT hs hp) f3 hR
  have hsep:xv ((aJ (Kq t.Preds)).1++R):=by
   unfold Kq
   split
   ·exact hR.1
   ·show pk 32=false
    decide
  have hda:=qdc t.Args h f2 _ hsep p1
  have hsep2:xv ((aJ (t.Args.flatMap λa=>[tW ce,R7 f a])).1++((aJ (Kq t.Preds)).1++R)):=by
   cases t.Args with
   |nil=>exact hsep
   |cons a l=>show pk 32=false;decide
  obtain⟨c,u,e,c1,c2⟩:=RW hw hne hsep2
  refine⟨c,u,by simp only[vag];exact e,c1,?_⟩
  rw[c2,vad (by rw[ha];rfl),hda]
  simp only[vaa]
  rw[p2,h4,hu.ns (by omega)]
  rfl
 rw[vab h4]at hf ⊢
 have h6:t.Op=6:=by omega
 rw[vad h6]at hf ⊢
 unfold Zf at hf ⊢
 obtain⟨hl2,hns⟩:=hsh.2 h6
 rw[bT,ck]at hf ⊢
 have hf2:=tp hf
 have hlast:Nr f t.Args=f (t.Args[t.Args.length - 1]'(by omega)):=by
  unfold Nr
  rw[vac (by omega)]
  rfl
 rw[hlast]at hf2 ⊢
 have e2:(aJ [tW aR,f (t.Args[t.Args.length - 1]'(by omega))])=(aR++(f (t.Args[t.Args.length - 1]'(by omega))).1,(f (t.Args[t.Args.length - 1]'(by omega))).2):=by simp[aJ]
 rw[e2]at hf2 ⊢
 have htl:(t.Args.take (t.Args.length - 1)).length=t.Args.length - 1:=by rw[vba];omega
 have hne:t.Args.take (t.Args.length - 1)≠[]:=λe=>by rw[e]at htl;simp at htl;omega
 have hfa:=qfV (f:=f) t.Names (t.Args.take (t.Args.length - 1)) 0 hne (hns.imp_right λh=>by rw[htl];omega) (λa ha=>(h a (vbV ha)).1) hf2.1 ((f (t.Args[t.Args.length - 1]'(by omega))).1++R)
 refine⟨40,(aJ (eU ax ((t.Args.take (t.Args.length - 1)).zipIdx.map (ub f t.Names)))).1++(aR++((f (t.Args[t.Args.length - 1]'(by omega))).1++R)),by simp[cd],by decide,?_⟩
 rw[RQ,vad rfl,hfa]
 simp only[vaa]
 rw[aT]
 simp only[vaa]
 rw[(h _ (vah _)).1 hf2.2 R (.inr hR)]
 simp only[vaa]
 have ea:(t.Args.take (t.Args.length - 1)).map wo++[wo (t.Args[t.Args.length - 1]'(by omega))]=t.Args.map wo:=by
  rw[<-List.map_singleton (f:=wo),<-vaB]
  congr 1
  have:=vay (l:=t.Args) (i:=t.Args.length - 1) (by omega)
  rw[<-this,show t.Args.length - 1+1=t.Args.length by omega,va1]
 have en:(t.Names.drop 0).take (t.Args.take (t.Args.length - 1)).length=t.Names:=by
  rw[htl,vbc]
  rcases hns with hn|hn
  ·rw[hn];simp
  ·rw[<-hn,va1]
 rw[ea,en,h6,hu.nm (by omega) (by omega),hp (by omega)]
 rfl
theorem Ux(t:ae)(hu:qiY t)(hf:(aJ (s9 f t)).2=false)(hp:t.Preds=[])(ha:t.Args=[])(h6:t.Op≠6)(hz:t.Pred=dK):∃w,(aJ (s9 f t)).1=w/\(∀c∈w,pk c=true)/\w≠[]/\sZ w=wo t:=by
 have hrng:=hu.rng
 rw[Kc,ha,hp,hz]
 unfold s9 at hf ⊢
 by_cases h1:t.Op=1
 ·rw[vad h1,dC]
  exact⟨Lg,rfl,by decide,by decide,by rw[h1,hu.nm (by omega) (by omega),hu.ns (by omega)];rfl⟩
 rw[vab h1]at hf ⊢
 by_cases h2:t.Op=2
 ·rw[vad h2,dC]
  exact⟨EG,rfl,by decide,by decide,by rw[h2,hu.nm (by omega) (by omega),hu.ns (by omega)];rfl⟩
 rw[vab h2]at hf ⊢
 by_cases h3:t.Op=3
 ·rw[vad h3,dC]
  exact⟨EH,rfl,by decide,by decide,by rw[h3,hu.nm (by omega) (by omega),hu.ns (by omega)];rfl⟩
 rw[vab h3]at hf ⊢
 by_cases h5:t.Op=5
 ·rw[vad h5,dC]at hf ⊢
  obtain⟨hw,hne⟩:=IE hf
  exact⟨t.Name,rfl,hw,hne,by rw[HW hf,h5,hu.ns (by omega)];rfl⟩
 rw[vab h5]at hf ⊢
 have h4:t.Op=4:=by omega
 rw[vad h4]at hf ⊢
 unfold SK Kq at hf ⊢
 rw[ha,hp,vad rfl]at hf ⊢
 have hf:(qa true t.Name).2=false:=by simpa[aJ]using hf
 obtain⟨hw,hne⟩:=IE hf
 exact⟨t.Name,by simp[aJ,qa],hw,hne,by rw[HW hf,h4,hu.ns (by omega)];rfl⟩
end
theorem qaC:∀(n:Nat) (t:ae),fH t<=n->re t->Zd t->qeo (AU n) t/\MM (AU n) t/\qaG (AU n) t:=by
 intro n
 induction n with
 |zero=>intro t h;have:=Ns t;omega
 | succ n ih =>
  intro t hn hs hm
  obtain⟨hnode,hargs⟩:=(Ij t).1 hm
  have hu:=Xx hnode
  have hsh:=V0 t (qy hs) hnode
  have hk:∀a∈t.Args,qeo (AU n) a/\MM (AU n) a/\qaG (AU n) a:=λa ha=>ih a (by have:=kH ha;omega) (Ci hs ha) ((D2 _).1 hargs a ha)
  have split:(AU (n+1) t).2=false->Xh t=false/\(aJ (s9 (AU n) t)).2=false:=λhf=>by
   rw[AV]at hf
   unfold Cs at hf
   rw[bT,ck,ck]at hf
   have h1:=tp hf
   have h2:=tp h1.2
   exact⟨h1.1,(tp h2.2).1⟩
  have hpr:Xh t=false->t.Op≠4->t.Preds=[]:=λhi h4=>by
   unfold Xh at hi
   have:=(tp hi).2
   simp[h4]at this
   exact this
  refine⟨λhf r hr=>?_,λhf hz h6 ha hp=>?_,λhf hz=>?_⟩
  ·obtain⟨hi,hc⟩:=split hf
   rw[AV]at hf ⊢
   unfold Cs at hf ⊢
   by_cases hz:t.Pred=dK
   ·have hr:LI r:=hr.resolve_left λh=>h hz
    obtain⟨c,u,e,c1,c2⟩:=Wv t hs hu hsh hk hc (hpr hi) hr
    rw[vad hz,vad hz,vaJ,vaC,bT]
    show xr ([]++(aJ (s9 (AU n) t)).1++r)=_
    rw[vaJ,e,RT,vab c1,c2,Kc,hz]
   ·rw[vab hz,vab hz]at hf ⊢
    rw[bT,ck,ck]at hf ⊢
    have hw:(pW t.Pred).2=false:=by
     cases hx:(pW t.Pred).2 with
     |false=>rfl
     |true=>simp[aJ,hx]at hf
    have hR:LI (fM++((pW t.Pred).1++(C0++r))):=V3 (d:=124) (by decide)
    obtain⟨c,u,e,c1,c2⟩:=Wv t hs hu hsh hk hc (hpr hi) hR
    have e3:([]++((aJ [tW dB]).1++((aJ (s9 (AU n) t)).1++(aJ [tW fM,pW t.Pred,tW C0]).1)))++r=dB++((aJ (s9 (AU n) t)).1++(fM++((pW t.Pred).1++(C0++r)))):=by
     simp[aJ,vag]
    show xr (([]++((aJ [tW dB]).1++((aJ (s9 (AU n) t)).1++(aJ [tW fM,pW t.Pred,tW C0]).1)))++r)=_
    rw[e3,e]
    show xr (123::([118,32,58,32]++(c::u)))=_
    rw[RT,vad rfl,show(123::([118,32,58,32]++(c::u)):ah)=dB++(c::u)from rfl,aT]
    simp only[vaa]
    rw[c2]
    simp only[vaa]
    rw[aT]
    simp only[vaa]
    rw[qdj (r:=C0++r) (qz hs) hw (ZS (c:=125) (by decide)) (Ty (c:=125) (by decide))]
    simp only[vaa]
    rw[aT,Kc]
    rfl
  ·obtain⟨hi,hc⟩:=split hf
   obtain⟨w,e,h1,h2,h3⟩:=Ux t hu hc hp ha h6 hz
   refine⟨w,?_,h1,h2,h3⟩
   rw[AV]
   unfold Cs
   rw[vad hz,vad hz,vaJ,vaC,bT]
   exact e
  ·rw[AV]
   unfold Cs
   rw[vab hz,bT,ck]
   exact⟨_,rfl⟩
theorem Cf{t:ae}(hs:re t)(hf:(xQ t).2=false){r:ah}(hr:LI r):xr ((xQ t).1++r)=some (wo t,r):=by
 have hc:ig t=some 0:=by
  unfold xQ qeO at hf
  by_cases h:ig t=some 0
  ·exact h
  ·rw[vab h]at hf;cases hf
 have e:xQ t=AU 16777216 t:=by unfold xQ qeO;rw[vad hc]
 rw[e]at hf ⊢
 exact(qaC 16777216 t (Qi hs) hs ((Mq t (qy hs)).1 hc).2).1 hf r (.inr hr)
structure qlx(e:af):Prop where
 n0:e.Op≠1->e.Op≠2->e.N=0
 n2:e.Op=2->e.N=0\/e.N=1
 nm:e.Op≠3->e.Op≠4->e.Op≠5->e.Op≠7->e.Op≠25->e.Name=[]
 k0:e.Op=1\/e.Op=2\/e.Op=3->e.Kids=[]
 ps:e.Op≠6->e.Params=[]
 al:e.Op≠9->e.Alts=[]
 ty:e.Op≠4->e.Op≠5->e.Op≠7->e.Op≠26->e.Types=[]
 t7:e.Op=7->e.Types=[]\/∃t,e.Types=[t]
 p6:e.Op=6->e.Params≠[]
 a9:e.Op=9->e.Alts≠[]
structure qhz(op:Int)(u:aH):Prop where
 n0:op≠1->op≠2->u.n=false
 nm:op≠3->op≠4->op≠5->op≠7->op≠25->u.name=false
 k0:op=1\/op=2\/op=3->u.most=0
 ps:op≠6->u.params=false
 al:op≠9->u.alts=false
 ty:op≠4->op≠5->op≠7->op≠26->u.types=false
 p6:op=6->u.params=true
 a9:op=9->u.alts=true
theorem Vi{op:Int}(h:1<=op/\op<=26):∃u,wA op=some u/\qhz op u:=by
 have:op=1\/op=2\/op=3\/op=4\/op=5\/op=6\/op=7\/op=8\/op=9\/op=10\/op=11\/op=12\/op=13\/op=14\/op=15\/op=16\/op=17\/op=18\/op=19\/op=20\/op=21\/op=22\/op=23\/op=24\/op=25\/op=26:=by omega
 rcases this with h|h|h|h|h|h|h|h|h|h|h|h|h|h|h|h|h|h|h|h|h|h|h|h|h|h<;>subst h<;>
  exact⟨_,rfl,⟨by intros;first|rfl|omega,by intros;first|rfl|omega,by intros;first|rfl|omega,by intros;first|rfl|omega,by intros;first|rfl|omega,by intros;first|rfl|omega,by intros;first|rfl|omega,by intros;first|rfl|omega⟩⟩
theorem Rp{α:Type}{l:List α}(h:decide ((l.length:Int)>0)=false):l=[]:=vam (by simp at h;simp[h])
theorem qbP{e:af}{n nm ok:Bool}{mo:Int}(h:oS e n nm mo ok=some false):(n=false->e.N=0)/\(nm=false->e.Name=[]):=by
 unfold oS at h
 cases ok with
 |false=>cases h
 | true =>
  rw[vab (by simp)]at h
  have tail:∀{o},(if(!nm)=true then if(!(e.Name==([]:ah)))=true then some true else o else o)=some false->(nm=false->e.Name=[]):=λ{o} h hn=>by
   subst hn
   rw[vad (show(!false)=true from rfl)]at h
   rcases n9 h with⟨_,h⟩|⟨c,h⟩
   ·cases h
   ·simpa using c
  rcases n9 h with⟨c,h⟩|⟨c,h⟩
  ·rcases n9 h with⟨_,h⟩|⟨c2,h⟩
   ·cases h
   ·exact⟨λ_=>by simpa using c2,tail h⟩
  ·exact⟨λhn=>(by rw[hn]at c;cases c),tail h⟩
theorem qbQ{e:af}{ps al ty:Bool}(h:sT e ps al ty=some false):(ps=false->e.Params=[])/\(al=false->e.Alts=[])/\(ty=false->e.Types=[]):=by
 unfold sT at h
 have t3:(if(!ty)=true then some (decide ((e.Types.length:Int)>0))else some false)=some false->(ty=false->e.Types=[]):=λh hn=>by
  subst hn
  rw[vad (show(!false)=true from rfl)]at h
  exact Rp (va3 h)
 have t2:(if(!al)=true then if decide ((e.Alts.length:Int)>0)=true then some true else if(!ty)=true then some (decide ((e.Types.length:Int)>0))else some false
   else if(!ty)=true then some (decide ((e.Types.length:Int)>0))else some false)=some false->(al=false->e.Alts=[])/\(ty=false->e.Types=[]):=λh=>by
  rcases n9 h with⟨c,h⟩|⟨c,h⟩
  ·rcases n9 h with⟨_,h⟩|⟨c2,h⟩
   ·cases h
   ·exact⟨λ_=>Rp c2,t3 h⟩
  ·exact⟨λhn=>(by rw[hn]at c;cases c),t3 h⟩
 rcases n9 h with⟨c,h⟩|⟨c,h⟩
 ·rcases n9 h with⟨_,h⟩|⟨c2,h⟩
  ·cases h
  ·exact⟨λ_=>Rp c2,t2 h⟩
 ·exact⟨λhn=>(by rw[hn]at c;cases c),t2 h⟩
theorem Tn{e:af}(h:lJ e=some 0):qlx e:=by
 have hrng:=(IG e h).rng
 obtain⟨u,hu,hU⟩:=Vi hrng
 unfold lJ at h
 rw[hu]at h
 simp only[vaa]at h
 obtain⟨o1,e1,h⟩:=Gd h
 rcases n9 h with⟨c1,h⟩|⟨c1,h⟩
 ·cases h
 obtain⟨o2,e2,h⟩:=Gd h
 rcases n9 h with⟨c2,h⟩|⟨c2,h⟩
 ·cases h
 obtain⟨o3,e3,h⟩:=Gd h
 rcases n9 h with⟨c3,h⟩|⟨c3,h⟩
 ·cases h
 obtain⟨o4,e4,h⟩:=Gd h
 rcases n9 h with⟨c4,h⟩|⟨c4,h⟩
 ·cases h
 clear h
 have c3:o3=true:=by simpa using c3
 subst c1 c2 c3 c4
 obtain⟨a1,a2⟩:=qbP e1
 obtain⟨b1,b2,b3⟩:=qbQ e2
 unfold wz at e3
 obtain⟨p1,q1,e3⟩:=Gd e3
 rcases n9 e3 with⟨d1,e3⟩|⟨d1,e3⟩
 ·cases e3
 obtain⟨p2,q2,e3⟩:=Gd e3
 rcases n9 e3 with⟨d2,e3⟩|⟨d2,e3⟩
 ·cases e3
 obtain⟨p3,q3,e3⟩:=Gd e3
 rcases n9 e3 with⟨d3,e3⟩|⟨d3,e3⟩
 ·cases e3
 obtain⟨p4,q4,e3⟩:=Gd e3
 subst d1 d2 d3
 refine⟨λx y=>a1 (hU.n0 x y),λh2=>?_,λa b c d f=>a2 (hU.nm a b c d f),λhk=>?_,λx=>b1 (hU.ps x),λx=>b2 (hU.al x),λa b c d=>b3 (hU.ty a b c d),λh7=>?_,λh6=>?_,λh9=>?_⟩
 ·unfold sU at e4
  rw[vab (by simp[h2]),vad (by simp[h2])]at e4
  rcases n9 e4 with⟨d,e4⟩|⟨d,e4⟩
  ·exact .inr (by simpa using e4)
  ·exact .inl (by simpa using d)
 ·have hm:=hU.k0 hk
  unfold rZ at q1
  rcases n9 q1 with⟨d,q1⟩|⟨d,q1⟩
  ·cases q1
  ·rw[hm]at q1
   exact Rp (va3 q1)
 ·cases p4 with
  |inl _=>cases e3
  | inr _ =>
   have hl:decide ((e.Types.length:Int)<=1)=true:=by
    simp only[]at e3
    rcases n9 e3 with⟨d,e3⟩|⟨d,e3⟩
    ·rw[vab (by simp[h7])]at e3;exact va3 e3
    ·rcases n9 e3 with⟨d',e3⟩|⟨d',e3⟩
     ·rw[vab (by simp[h7])]at e3;exact va3 e3
     ·cases e3
   have hl:e.Types.length<=1:=by simp at hl;omega
   match hq:e.Types,hl with
   |[],_=>exact .inl rfl
   |[t],_=>exact .inr ⟨t,rfl⟩
 ·have hp:=hU.p6 h6
  unfold zv at q2
  rw[vad hp]at q2
  rcases n9 q2 with⟨d,q2⟩|⟨d,q2⟩
  ·cases q2
  ·intro e0
   rw[e0]at d
   simp at d
 ·have hp:=hU.a9 h9
  unfold zw at q3
  rw[vad hp]at q3
  rcases n9 q3 with⟨d,q3⟩|⟨d,q3⟩
  ·cases q3
  ·intro e0
   rw[e0]at d
   simp at d
def qeN(o:Int):ah:=if o=21 then gT else qaL o
def Iq(o:Int):Int:=if o=20 then 1 else if o=19 then 2 else if o=16\/o=17\/o=18\/o=21 then 4 else if o=10\/o=11 then 5 else 6
def Kg(o:Int):ah:=ce++(qeN o++ce)
def V7(s:ah):Option (Int×ah):=[20,19,16,21,18,17,10,11,12,13,14].findSome? λo=>(aN (Kg o) s).map λr=>(o,r)
def eN(o:Int)(ks:List af):af:=⟨o,[],0,ks,[],[],[]⟩
def PY(o:Int)(a b:af):af:=if o=21 then eN 21 [eN 16 [a,b]]else eN o [a,b]
def MW(e:af):af:=if e.Op=15 then⟨1,[],-(e.Kids.headD (eN 0 [])).N,[],[],[],[]⟩else e
def U9(s:ah):Option (List ae×ah):=xr s>>=λx=>
 match aN ax x.2 with
 |some t=>U9 t>>=λy=>some (x.1::y.1,y.2)
 |none=>aN EK x.2>>=λu=>some ([x.1],u)
partial_fixpoint
def TR(s:ah):Option (List ah×ah):=
 match aN ax (ef s)with
 |some t=>TR t>>=λy=>some (cN s::y.1,y.2)
 |none=>aN bA (ef s)>>=λu=>some ([cN s],u)
partial_fixpoint
def qcp(s:ah):Option (cc×ah):=
 match aN aS (ef s)with
 |some t=>(xr t).bind λx=>some (⟨cN s,x.1⟩,x.2)
 |none=>some (⟨cN s,tR⟩,ef s)
def U8(s:ah):Option (List cc×ah):=qcp s>>=λx=>
 match aN ax x.2 with
 |some t=>U8 t>>=λy=>some (x.1::y.1,y.2)
 |none=>some ([x.1],x.2)
partial_fixpoint
def qcn(s:ah):Option (List ae×ah):=
 match aN aS s with
 |some u=>(xr u).bind λy=>some ([y.1],y.2)
 |none=>some ([],s)
def X9(s:ah):Option (List ae×ah):=
 match aN Li s with
 |some t=>U9 t
 |none=>some ([],s)
def qco(s:ah):Option (List ah×ah):=
 match aN iF s with
 |some t=>TR t
 |none=>some ([],s)
def Qt:ah:=[102,117,110]
def Oz:ah:=[108,101,116]
def Ys:ah:=[105,102]
def KK:ah:=[99,97,115,101]
def Qu:ah:=[117,115,101]
mutual
def Dh(l:Int)(s:ah):Option (af×ah):=L2 s>>=λx=>L0 l x.1 x.2
partial_fixpoint
def L0(l:Int)(a:af)(s:ah):Option (af×ah):=
 match V7 s with
 |none=>some (a,s)
 |some (o,r)=>if Iq o<l then some (a,s)else Dh (Iq o+1) r>>=λy=>L0 l (PY o a y.1) y.2
partial_fixpoint
def L2(s:ah):Option (af×ah):=
 match s with
 |[]=>none
 | c :: r =>
  if c=33 then Dh 3 r>>=λx=>some (eN 21 [x.1],x.2)
  else if c=45 then Dh 7 r>>=λx=>some (eN 15 [x.1],x.2)
  else if c=40 then Dh 0 r>>=λx=>match aN aS x.2 with
   |some t=>(xr t).bind λy=>(aN bA y.2).bind λu=>some (⟨26,[],0,[x.1],[],[],[y.1]⟩,u)
   |none=>(aN bA x.2).bind λu=>some (MW x.1,u)
  else if jX c.toNat=true then some (⟨1,[],(dv (cN (c::r)):Int),[],[],[],[]⟩,ef (c::r))
  else TQ (cN (c::r)) (ef (c::r))
partial_fixpoint
def TQ(w s:ah):Option (af×ah):=
 if w=eC then some (⟨2,[],1,[],[],[],[]⟩,s)
 else if w=eR then some (⟨2,[],0,[],[],[],[]⟩,s)
 else if w=Qt then aN iF s>>=λt=>U8 t>>=λx=>aN aR x.2>>=λu=>Dh 0 u>>=λy=>some (⟨6,[],0,[y.1],x.1,[],[]⟩,y.2)
 else if w=Oz then aN ce s>>=λt=>qcn (ef t)>>=λz=>aN dY z.2>>=λu=>Dh 0 u>>=λa=>aN cP a.2>>=λv=>Dh 0 v>>=λb=>some (⟨7,cN t,0,[a.1,b.1],[],[],z.1⟩,b.2)
 else if w=Ys then aN ce s>>=λt=>Dh 0 t>>=λa=>aN fF a.2>>=λu=>Dh 0 u>>=λb=>aN fE b.2>>=λv=>Dh 0 v>>=λd=>some (eN 8 [a.1,b.1,d.1],d.2)
 else if w=KK then aN ce s>>=λt=>Dh 0 t>>=λa=>aN dG a.2>>=λu=>U5 u>>=λy=>aN gS y.2>>=λv=>some (⟨9,[],0,[a.1],[],y.1,[]⟩,v)
 else if w=Qu then aN ce s>>=λt=>aN iF (ef t)>>=λu=>Sp u>>=λx=>aN cP x.2>>=λv=>Dh 0 v>>=λb=>some (⟨25,cN t,0,x.1++[b.1],[],[],[]⟩,b.2)
 else if w=Ll then aN cd s>>=λt=>Sp t>>=λx=>some (eN 22 x.1,x.2)
 else if w=Lk then aN cd s>>=λt=>Sp t>>=λx=>some (eN 23 x.1,x.2)
 else if w=Lm then aN cd s>>=λt=>Sp t>>=λx=>some (eN 24 x.1,x.2)
 else X9 s>>=λz=>match aN cd z.2 with
  |some u=>Sp u>>=λx=>some (⟨if eG fc w=true then 4 else 5,w,0,x.1,[],[],z.1⟩,x.2)
  |none=>some (⟨if eG fc w=true then 4 else 3,w,0,[],[],[],z.1⟩,z.2)
partial_fixpoint
def Sp(s:ah):Option (List af×ah):=Dh 0 s>>=λx=>
 match aN ax x.2 with
 |some t=>Sp t>>=λy=>some (x.1::y.1,y.2)
 |none=>(aN bA x.2).bind λu=>some ([x.1],u)
partial_fixpoint
def U5(s:ah):Option (List cf×ah):=qco (ef s)>>=λz=>aN cX z.2>>=λu=>Dh 0 u>>=λx=>
 match aN ey x.2 with
 |some v=>U5 v>>=λy=>some (⟨cN s,z.1,x.1⟩::y.1,y.2)
 |none=>some ([⟨cN s,z.1,x.1⟩],x.2)
partial_fixpoint
end
theorem Wu(s:ah):U9 s=(xr s).bind λx=>match aN ax x.2 with
 |some t=>(U9 t).bind λy=>some (x.1::y.1,y.2)
 |none=>(aN EK x.2).bind λu=>some ([x.1],u):=by rw[U9];rfl
theorem Wq(s:ah):TR s=match aN ax (ef s)with
 |some t=>(TR t).bind λy=>some (cN s::y.1,y.2)
 |none=>(aN bA (ef s)).bind λu=>some ([cN s],u):=by rw[TR];rfl
theorem Wt(s:ah):U8 s=(qcp s).bind λx=>match aN ax x.2 with
 |some t=>(U8 t).bind λy=>some (x.1::y.1,y.2)
 |none=>some ([x.1],x.2):=by rw[U8];rfl
theorem RR(l:Int)(s:ah):Dh l s=(L2 s).bind λx=>L0 l x.1 x.2:=by rw[Dh];rfl
theorem Wn(l:Int)(a:af)(s:ah):L0 l a s=match V7 s with
 |none=>some (a,s)
 |some (o,r)=>if Iq o<l then some (a,s)else(Dh (Iq o+1) r).bind λy=>L0 l (PY o a y.1) y.2:=by rw[L0];rfl
theorem zd(c:UInt8)(r:ah):L2 (c::r)=if c=33 then(Dh 3 r).bind λx=>some (eN 21 [x.1],x.2)
  else if c=45 then(Dh 7 r).bind λx=>some (eN 15 [x.1],x.2)
  else if c=40 then(Dh 0 r).bind λx=>match aN aS x.2 with
   |some t=>(xr t).bind λy=>(aN bA y.2).bind λu=>some (⟨26,[],0,[x.1],[],[],[y.1]⟩,u)
   |none=>(aN bA x.2).bind λu=>some (MW x.1,u)
  else if jX c.toNat=true then some (⟨1,[],(dv (cN (c::r)):Int),[],[],[],[]⟩,ef (c::r))
  else TQ (cN (c::r)) (ef (c::r)):=by rw[L2];rfl
theorem qax(s:ah):Sp s=(Dh 0 s).bind λx=>match aN ax x.2 with
 |some t=>(Sp t).bind λy=>some (x.1::y.1,y.2)
 |none=>(aN bA x.2).bind λu=>some ([x.1],u):=by rw[Sp];rfl
theorem Wk(s:ah):U5 s=(qco (ef s)).bind λz=>(aN cX z.2).bind λu=>(Dh 0 u).bind λx=>match aN ey x.2 with
 |some v=>(U5 v).bind λy=>some (⟨cN s,z.1,x.1⟩::y.1,y.2)
 |none=>some ([⟨cN s,z.1,x.1⟩],x.2):=by rw[U5];rfl
theorem qp(w s:ah):TQ w s=
 if w=eC then some (⟨2,[],1,[],[],[],[]⟩,s)
 else if w=eR then some (⟨2,[],0,[],[],[],[]⟩,s)
 else if w=Qt then(aN iF s).bind λt=>(U8 t).bind λx=>(aN aR x.2).bind λu=>(Dh 0 u).bind λy=>some (⟨6,[],0,[y.1],x.1,[],[]⟩,y.2)
 else if w=Oz then(aN ce s).bind λt=>(qcn (ef t)).bind λz=>(aN dY z.2).bind λu=>(Dh 0 u).bind λa=>(aN cP a.2).bind λv=>(Dh 0 v).bind λb=>some (⟨7,cN t,0,[a.1,b.1],[],[],z.1⟩,b.2)
 else if w=Ys then(aN ce s).bind λt=>(Dh 0 t).bind λa=>(aN fF a.2).bind λu=>(Dh 0 u).bind λb=>(aN fE b.2).bind λv=>(Dh 0 v).bind λd=>some (eN 8 [a.1,b.1,d.1],d.2)
 else if w=KK then(aN ce s).bind λt=>(Dh 0 t).bind λa=>(aN dG a.2).bind λu=>(U5 u).bind λy=>(aN gS y.2).bind λv=>some (⟨9,[],0,[a.1],[],y.1,[]⟩,v)
 else if w=Qu then(aN ce s).bind λt=>(aN iF (ef t)).bind λu=>(Sp u).bind λx=>(aN cP x.2).bind λv=>(Dh 0 v).bind λb=>some (⟨25,cN t,0,x.1++[b.1],[],[],[]⟩,b.2)
 else if w=Ll then(aN cd s).bind λt=>(Sp t).bind λx=>some (eN 22 x.1,x.2)
 else if w=Lk then(aN cd s).bind λt=>(Sp t).bind λx=>some (eN 23 x.1,x.2)
 else if w=Lm then(aN cd s).bind λt=>(Sp t).bind λx=>some (eN 24 x.1,x.2)
 else(X9 s).bind λz=>match aN cd z.2 with
  |some u=>(Sp u).bind λx=>some (⟨if eG fc w=true then 4 else 5,w,0,x.1,[],[],z.1⟩,x.2)
  |none=>some (⟨if eG fc w=true then 4 else 3,w,0,[],[],[],z.1⟩,z.2):=by rw[TQ];rfl
def Pa(p:cc):cc:=⟨p.Name,if p.Type_=tR then tR else wo p.Type_⟩
mutual
def jY:af->af
 |⟨o,n,k,ks,ps,as1,ts⟩=>⟨o,n,k,qb0 ks,ps.map Pa,qbZ as1,ts.map wo⟩
def qb0:List af->List af
 |[]=>[]
 |e::l=>jY e::qb0 l
def qbY:cf->cf
 |⟨c,ns,b⟩=>⟨c,ns,jY b⟩
def qbZ:List cf->List cf
 |[]=>[]
 |a::l=>qbY a::qbZ l
end
theorem Tp:∀(l:List af),qb0 l=l.map jY
 |[]=>rfl
 |e::l=>by rw[qb0,Tp l];rfl
theorem To:∀(l:List cf),qbZ l=l.map qbY
 |[]=>rfl
 |e::l=>by rw[qbZ,To l];rfl
theorem jJ(e:af):jY e=⟨e.Op,e.Name,e.N,e.Kids.map jY,e.Params.map Pa,e.Alts.map qbY,e.Types.map wo⟩:=by
 obtain⟨o,n,k,ks,ps,as1,ts⟩:=e
 rw[jY,Tp,To]
 rfl
theorem Rq(a:cf):qbY a=⟨a.Con,a.Names,jY a.Body⟩:=by obtain⟨c,ns,b⟩:=a;rw[qbY];rfl
theorem qb5{o:Int}(h:(10<=o/\o<=14)\/(16<=o/\o<=21))(r:ah):V7 (Kg o++r)=some (o,r):=by
 have:o=10\/o=11\/o=12\/o=13\/o=14\/o=16\/o=17\/o=18\/o=19\/o=20\/o=21:=by omega
 rcases this with rfl|rfl|rfl|rfl|rfl|rfl|rfl|rfl|rfl|rfl|rfl<;>rfl
theorem ZX{s:ah}(h:∀c r,s=c::r->c≠32):V7 s=none:=by
 have hs:∀p,aN (ce++p) s=none:=λp=>by
  cases s with
  |nil=>rfl
  |cons c r=>
   show aN (32::([]++p)) (c::r)=none
   rw[aN,vab (λe=>h c r rfl e.symm)]
 unfold V7 Kg
 simp only[List.findSome?_cons,hs,Option.map_none,List.findSome?_nil]
theorem Tx{c:UInt8}{r:ah}(h:c≠32):V7 (c::r)=none:=ZX λd t e=>by cases e;exact h
def CW(n:Int)(r:ah):Prop:=∀o t,V7 r=some (o,t)->Iq o<n
theorem Cj{n:Int}{r:ah}(h:V7 r=none):CW n r:=λo t e=>by rw[h]at e;cases e
theorem Hl{n m:Int}{r:ah}(h:CW n r)(hnm:n<=m):CW m r:=λo t e=>vc1 (h o t e) hnm
theorem wq{l:Int}{a:af}{r:ah}(h:CW l r):L0 l a r=some (a,r):=by
 rw[Wn]
 cases e:V7 r with
 |none=>rfl
 |some x=>
  obtain⟨o,t⟩:=x
  simp only[]
  rw[vad (h o t e)]
def Pc(r:ah):Prop:=∀c t,r=c::t->pk c=false/\c≠40/\c≠91
theorem xf{c:UInt8}{t:ah}(h:(!pk c&&(c !=40&&c !=91))=true):Pc (c::t):=λd u e=>by
 cases e
 simpa using h
theorem Tu{r:ah}(h:Pc r):xv r:=by
 cases r with
 |nil=>trivial
 |cons c t=>exact(h c t rfl).1
theorem qd8(e:af):0<=D6 e:=by
 unfold D6
 repeat' first|omega|split
def Ec(e:af):Int:=if D6 e=0 then 1 else if e.Op=21/\D6 e=3 then 3 else if e.Op=15 then 7 else if D6 e=8 then 100 else D6 e+1
section
variable{f:af->Wr}
def qaz(f:af->Wr)(e:af):Prop:=(f e).2=false->∀l r,l<=D6 e->Pc r->CW (Ec e) r->Dh l ((f e).1++r)=L0 l (jY e) r
theorem jp{e:af}(h:qaz f e)(hf:(f e).2=false){r:ah}(hr:Pc r)(hn:V7 r=none):Dh 0 ((f e).1++r)=some (jY e,r):=by
 rw[h hf 0 r (qd8 e) hr (Cj hn),wq (Cj hn)]
theorem qfW:∀(l:List af),l≠[]->(∀x∈l,qaz f x)->(aJ (eU ax (l.map f))).2=false->∀r,Sp ((aJ (eU ax (l.map f))).1++(bA++r))=some (l.map jY,r)
 |[],h,_,_,_=>absurd rfl h
 |[x],_,h,hf,r=>by
  rw[vae,vaK,rq]at hf ⊢
  rw[qax,jp (r:=bA++r) (h x (by simp)) hf (xf (c:=41) (by decide)) (Tx (c:=41) (by decide))]
  simp only[vaa]
  rw[show aN ax (bA++r)=none from rfl]
  simp only[]
  rw[aT]
  rfl
 |x::y::l,_,h,hf,r=>by
  rw[vae,vae,rr,<-vae (f:=f)]at hf ⊢
  obtain⟨hf1,hf2⟩:=tp hf
  have ih:=qfW (y::l) (by simp) (λz hz=>h z (vax _ hz)) hf2 r
  simp only[]
  rw[vag,vag,qax,jp (r:=ax++_) (h x (by simp)) hf1 (xf (c:=44) (by decide)) (Tx (c:=44) (by decide))]
  simp only[vaa]
  rw[aT]
  simp only[]
  rw[ih]
  rfl
theorem I5{l:List af}(h0:l≠[])(h:∀x∈l,qaz f x)(hf:(aJ (lh f l)).2=false)(r:ah):∃u,(aJ (lh f l)).1++r=cd++u/\Sp u=some (l.map jY,r):=by
 unfold lh at hf ⊢
 rw[bT,ck]at hf ⊢
 have hf:(aJ (eU ax (l.map f))).2=false:=by
  cases hx:(aJ (eU ax (l.map f))).2 with
  |false=>rfl
  |true=>simp[aJ]at hx hf;simp_all
 refine⟨(aJ (eU ax (l.map f))).1++(bA++r),?_,qfW l h0 h hf r⟩
 have e:(aJ [tW bA]).1=bA:=rfl
 simp only[e,vag]
theorem qdi:∀(l:List ae),l≠[]->(∀t∈l,re t)->(aJ (eU ax (l.map xQ))).2=false->∀r,U9 ((aJ (eU ax (l.map xQ))).1++(EK++r))=some (l.map wo,r)
 |[],h,_,_,_=>absurd rfl h
 |[x],_,h,hf,r=>by
  rw[vae,vaK,rq]at hf ⊢
  rw[Wu,Cf (r:=EK++r) (h x (by simp)) hf (Ed (c:=93) (by decide))]
  simp only[vaa]
  rw[show aN ax (EK++r)=none from rfl]
  simp only[]
  rw[aT]
  rfl
 |x::y::l,_,h,hf,r=>by
  rw[vae,vae,rr,<-vae (f:=xQ)]at hf ⊢
  obtain⟨hf1,hf2⟩:=tp hf
  have ih:=qdi (y::l) (by simp) (λz hz=>h z (vax _ hz)) hf2 r
  simp only[]
  rw[vag,vag,Wu,Cf (r:=ax++_) (h x (by simp)) hf1 (Ed (c:=44) (by decide))]
  simp only[vaa]
  rw[aT]
  simp only[]
  rw[ih]
  rfl
theorem qaA{l:List ae}(h:∀t∈l,re t)(hf:(aJ (iZ l)).2=false){r:ah}(hr:∀c t,r=c::t->c≠91):X9 ((aJ (iZ l)).1++r)=some (l.map wo,r):=by
 unfold iZ at hf ⊢
 unfold X9
 by_cases h0:l=[]
 ·subst h0
  rw[vad rfl]
  show(match aN Li ([]++r)with|some t=>U9 t|none=>some ([],[]++r))=_
  have:aN Li r=none:=by
   cases r with
   |nil=>rfl
   |cons c t=>
    show aN [91] (c::t)=none
    rw[aN,vab (λe=>hr c t rfl e.symm)]
  rw[vaJ,this]
  rfl
 ·rw[vab h0]at hf ⊢
  rw[bT,ck]at hf ⊢
  have hf:(aJ (eU ax (l.map xQ))).2=false:=by
   cases hx:(aJ (eU ax (l.map xQ))).2 with
   |false=>rfl
   |true=>simp[aJ]at hx hf;simp_all
  have e:(aJ [tW EK]).1=EK:=rfl
  simp only[e,vag]
  rw[aT]
  exact qdi l h0 h hf r
theorem BI{b:Bool}{s r:ah}(h:(qa b s).2=false)(hr:xv r):cN (s++r)=s/\ef (s++r)=r:=oN s r (IE h).1 hr
theorem qde:∀(l:List ah),l≠[]->(aJ (eU ax (l.map (qa false)))).2=false->∀r,TR ((aJ (eU ax (l.map (qa false)))).1++(bA++r))=some (l,r)
 |[],h,_,_=>absurd rfl h
 |[x],_,hf,r=>by
  rw[vae,vaK,rq]at hf ⊢
  obtain⟨e1,e2⟩:=BI (r:=bA++r) hf (by show pk 41=false;decide)
  show TR (x++(bA++r))=_
  rw[Wq,e1,e2,show aN ax (bA++r)=none from rfl]
  simp only[]
  rw[aT]
  rfl
 |x::y::l,_,hf,r=>by
  rw[vae,vae,rr,<-vae (f:=qa false)]at hf ⊢
  obtain⟨hf1,hf2⟩:=tp hf
  have ih:=qde (y::l) (by simp) hf2 r
  simp only[]
  show TR ((x++(ax++(aJ (eU ax ((y::l).map (qa false)))).1))++(bA++r))=_
  rw[vag,vag]
  obtain⟨e1,e2⟩:=BI (r:=ax++((aJ (eU ax ((y::l).map (qa false)))).1++(bA++r))) hf1 (by show pk 44=false;decide)
  rw[Wq,e1,e2,aT]
  simp only[]
  rw[ih]
  rfl
theorem qdd{l:List ah}(hf:(aJ (pY l)).2=false)(r:ah):qco ((aJ (pY l)).1++(cX++r))=some (l,cX++r):=by
 unfold pY at hf ⊢
 unfold qco
 by_cases h0:l=[]
 ·subst h0
  rw[vad rfl]
  rfl
 ·rw[vab h0]at hf ⊢
  rw[bT,ck]at hf ⊢
  have hf:(aJ (eU ax (l.map (qa false)))).2=false:=by
   cases hx:(aJ (eU ax (l.map (qa false)))).2 with
   |false=>rfl
   |true=>simp[aJ]at hx hf;simp_all
  have e:(aJ [tW bA]).1=bA:=rfl
  simp only[e,vag]
  rw[aT]
  exact qde l h0 hf _
end
end Go.Proofs.YtibglelmlnfojaaGreatDoor
namespace Go.Proofs.YtibglelmlnfojaaGreatDoor
open Go
set_option linter.unusedVariables false
set_option linter.unusedSimpArgs false
theorem qdf{p:cc}(hs:re p.Type_)(hf:(FB p).2=false){r:ah}(hr:LI r)(hn:aN aS r=none):qcp ((FB p).1++r)=some (Pa p,r):=by
 unfold FB at hf ⊢
 unfold qcp Pa
 by_cases hz:p.Type_=tR
 ·rw[vad hz]at hf ⊢
  rw[dC]at hf ⊢
  obtain⟨e1,e2⟩:=BI hf hr.1
  show(match aN aS (ef (p.Name++r))with|some t=>_|none=>some ((⟨cN (p.Name++r),tR⟩:cc),ef (p.Name++r)))=_
  rw[e2,hn,e1,vad hz]
 ·rw[vab hz]at hf ⊢
  rw[bT]at hf ⊢
  obtain⟨hf1,hf2⟩:=tp hf
  have hf2:(xQ p.Type_).2=false:=by simpa[aJ]using hf2
  have e:(aJ [tW aS,xQ p.Type_]).1=aS++(xQ p.Type_).1:=by simp[aJ]
  obtain⟨e1,e2⟩:=BI (r:=aS++((xQ p.Type_).1++r)) hf1 (by show pk 32=false;decide)
  have e3:((qa false p.Name).1++(aJ [tW aS,xQ p.Type_]).1)++r=p.Name++(aS++((xQ p.Type_).1++r)):=by rw[e];simp[qa,vag]
  simp only[]
  rw[e3,e1,e2,aT]
  simp only[]
  rw[Cf hs hf2 hr,vab hz]
  rfl
theorem qdh:∀(l:List cc),l≠[]->(∀p∈l,re p.Type_)->(aJ (eU ax (l.map FB))).2=false->∀r,U8 ((aJ (eU ax (l.map FB))).1++(aR++r))=some (l.map Pa,aR++r)
 |[],h,_,_,_=>absurd rfl h
 |[x],_,h,hf,r=>by
  rw[vae,vaK,rq]at hf ⊢
  rw[Wt,qdf (r:=aR++r) (h x (by simp)) hf (Ed (c:=41) (by decide)) rfl]
  rfl
 |x::y::l,_,h,hf,r=>by
  rw[vae,vae,rr,<-vae (f:=FB)]at hf ⊢
  obtain⟨hf1,hf2⟩:=tp hf
  have ih:=qdh (y::l) (by simp) (λz hz=>h z (vax _ hz)) hf2 r
  simp only[]
  rw[vag,vag,Wt,qdf (r:=ax++_) (h x (by simp)) hf1 (Ed (c:=44) (by decide)) rfl]
  simp only[vaa]
  rw[aT]
  simp only[]
  rw[ih]
  rfl
section
variable{f:af->Wr}
theorem qda{a:cf}(hf:(Bz f a).2=false)(R:ah):(cN ((Bz f a).1++R)=a.Con/\ef ((Bz f a).1++R)=(aJ (pY a.Names)).1++(cX++((f a.Body).1++R)))/\(aJ (pY a.Names)).2=false/\(f a.Body).2=false:=by
 unfold Bz at hf ⊢
 rw[bT,ck]at hf ⊢
 obtain⟨hf1,hf2⟩:=tp hf
 obtain⟨hf2,hf3⟩:=tp hf2
 have hf3:(f a.Body).2=false:=by simpa[aJ]using hf3
 have e:(aJ [tW cX,f a.Body]).1=cX++(f a.Body).1:=by simp[aJ]
 refine⟨?_,hf2,hf3⟩
 have hs:xv ((aJ (pY a.Names)).1++(cX++((f a.Body).1++R))):=by
  unfold pY
  split
  ·show pk 32=false;decide
  ·show pk 32=false;decide
 have:=BI hf1 hs
 have e3:((qa true a.Con).1++((aJ (pY a.Names)).1++(aJ [tW cX,f a.Body]).1))++R=a.Con++((aJ (pY a.Names)).1++(cX++((f a.Body).1++R))):=by rw[e];simp[qa,vag]
 simp only[]
 rw[e3]
 exact this
theorem qdb:∀(l:List cf),l≠[]->(∀a∈l,qaz f a.Body)->(aJ (eU ey (l.map (Bz f)))).2=false->∀r,U5 ((aJ (eU ey (l.map (Bz f)))).1++(gS++r))=some (l.map qbY,gS++r)
 |[],h,_,_,_=>absurd rfl h
 |[x],_,h,hf,r=>by
  rw[vae,vaK,rq]at hf ⊢
  obtain⟨⟨e1,e2⟩,f1,f2⟩:=qda hf (gS++r)
  rw[Wk,e1,e2,qdd f1]
  simp only[vaa]
  rw[aT]
  simp only[vaa]
  rw[jp (r:=gS++r) (h x (by simp)) f2 (xf (c:=32) (by decide)) rfl]
  simp only[vaa]
  rw[show aN ey (gS++r)=none from rfl,vae,Rq]
  rfl
 |x::y::l,_,h,hf,r=>by
  rw[vae,vae,rr,<-vae (f:=Bz f)]at hf ⊢
  obtain⟨hf1,hf2⟩:=tp hf
  have ih:=qdb (y::l) (by simp) (λz hz=>h z (vax _ hz)) hf2 r
  simp only[]
  rw[vag,vag]
  obtain⟨⟨e1,e2⟩,f1,f2⟩:=qda hf1 (ey++((aJ (eU ey ((y::l).map (Bz f)))).1++(gS++r)))
  rw[Wk,e1,e2,qdd f1]
  simp only[vaa]
  rw[aT]
  simp only[vaa]
  rw[jp (r:=ey++_) (h x (by simp)) f2 (xf (c:=59) (by decide)) (Tx (c:=59) (by decide))]
  simp only[vaa]
  rw[aT]
  simp only[]
  rw[ih,vae (a:=x),Rq x]
  rfl
theorem qd7{e:af}(h:e.Op=15):D6 e=7:=by
 unfold D6
 rw[vab (by omega),vab (by omega),vab (by omega),vab (by omega),vab (by omega),vab (by omega),vab (by omega),vad h]
theorem NB(e:af):D6 e<=Ec e:=by
 unfold Ec
 by_cases h0:D6 e=0
 ·rw[vad h0];omega
 rw[vab h0]
 by_cases h1:e.Op=21/\D6 e=3
 ·rw[vad h1];omega
 rw[vab h1]
 by_cases h2:e.Op=15
 ·rw[vad h2,qd7 h2];omega
 rw[vab h2]
 split<;>omega
theorem ZM{e:af}{k L:Int}(hk:1<=k/\k<=6/\k≠3)(hL:L=if k=4 then 5 else k)(h:L<=D6 e):k<Ec e:=by
 unfold Ec
 have hkL:k<=L:=by rw[hL];split<;>omega
 by_cases h0:D6 e=0
 ·omega
 rw[vab h0]
 by_cases h1:e.Op=21/\D6 e=3
 ·rw[vad h1];omega
 rw[vab h1]
 by_cases h2:e.Op=15
 ·rw[vad h2];omega
 rw[vab h2]
 split<;>omega
theorem qed(e:af):(jY e).Op=e.Op:=by rw[jJ];rfl
theorem Ms{x:af}(h:qaz f x){least l:Int}(hL:least<=7)(hf:(yc f least x).2=false)(hl:l<=least){r:ah}(hr:Pc r)(hs:least<=D6 x->CW (Ec x) r):Dh l ((yc f least x).1++r)=L0 l (jY x) r:=by
 unfold yc at hf ⊢
 by_cases hc:D6 x<least
 ·rw[vad hc]at hf ⊢
  have hfx:(f x).2=false:=by simpa[aJ]using hf
  have e:(aJ [tW cd,f x,tW bA]).1++r=40::((f x).1++(bA++r)):=by simp[aJ,cd]
  have h15:¬(jY x).Op=15:=λe=>by
   rw[qed]at e
   have:=qd7 e
   omega
  rw[e,RR,zd,vab (by decide),vab (by decide),vad rfl,jp (r:=bA++r) h hfx (xf (c:=41) (by decide)) (Tx (c:=41) (by decide))]
  simp only[vaa]
  rw[show aN aS (bA++r)=none from rfl]
  simp only[]
  rw[aT]
  unfold MW
  rw[vab h15]
  rfl
 ·rw[vab hc]at hf ⊢
  exact h hf l r (by omega) hr (hs (by omega))
theorem UN(o:Int):1<=Iq o/\Iq o<=6/\Iq o≠3:=by
 unfold Iq
 repeat' first|omega|split
theorem Va{o:Int}(ho:(10<=o/\o<=14)\/(16<=o/\o<=21)){a b:af}(ha:qaz f a)(hb:qaz f b){L1:Int}(hL:L1=if Iq o=4 then 5 else Iq o)(hf:(aJ (Hz f (qeN o) [a,b] L1 (Iq o+1))).2=false){l:Int}(hl:l<=Iq o){r:ah}(hr:Pc r)(hs:CW (Iq o+1) r):Dh l ((aJ (Hz f (qeN o) [a,b] L1 (Iq o+1))).1++r)=L0 l (PY o (jY a) (jY b)) r:=by
 obtain⟨b1,b2,b3⟩:=UN o
 have hL7:Iq o<=L1/\L1<=7:=by rw[hL];split<;>omega
 have e:aJ (Hz f (qeN o) [a,b] L1 (Iq o+1))=((yc f L1 a).1++(Kg o++(yc f (Iq o+1) b).1),(yc f L1 a).2||(yc f (Iq o+1) b).2):=by
  unfold Hz Il Kg
  simp[aJ]
 rw[e]at hf ⊢
 obtain⟨f1,f2⟩:=tp hf
 have htok:=qb5 ho ((yc f (Iq o+1) b).1++r)
 have hor:Pc (Kg o++((yc f (Iq o+1) b).1++r)):=λc t e=>by cases e;exact⟨by decide,by decide,by decide⟩
 simp only[]
 rw[vag,vag,Ms ha hL7.2 f1 (by omega) hor (λh o' t e=>by rw[htok]at e;cases e;exact ZM ⟨b1,b2,b3⟩ hL h),Wn,htok]
 simp only[]
 rw[vab (by omega),Ms hb (by omega) f2 (vch _) hr (λh=>Hl hs (by have:=NB b;omega)),wq hs]
 rfl
theorem AQ{w R:ah}(hw:∀c∈w,pk c=true)(hd:∃c t,w=c::t/\jX c.toNat=false)(hR:xv R):L2 (w++R)=TQ w R:=by
 obtain⟨d,t0,e0,hd0⟩:=hd
 obtain⟨c,t,e,c1,c2,c3,c4,e1,e2,t',e3⟩:=WI hw (by rw[e0];simp) hR
 have:d=c:=by rw[e0]at e3;cases e3;rfl
 subst this
 rw[e,zd,vab c1,vab c2,vab c3,vab (by rw[hd0];simp),e1,e2]
theorem S5{n:Nat}{r:ah}(hr:xv r):L2 (Lib.decDigits n++r)=some (⟨1,[],(n:Int),[],[],[],[]⟩,r):=by
 obtain⟨d,t0,e0,hd0⟩:=SL n
 obtain⟨c,t,e,c1,c2,c3,c4,e1,e2,t',e3⟩:=WI (VO (QZ n)) (by rw[e0];simp) hr
 have:d=c:=by rw[e0]at e3;cases e3;rfl
 subst this
 rw[e,zd,vab c1,vab c2,vab c3,vad hd0,e1,e2,Y4]
theorem Mg{w:ah}(h:aY w=true)(s:ah):TQ w s=(X9 s).bind λz=>match aN cd z.2 with
  |some u=>(Sp u).bind λx=>some (⟨if eG fc w=true then 4 else 5,w,0,x.1,[],[],z.1⟩,x.2)
  |none=>some (⟨if eG fc w=true then 4 else 3,w,0,[],[],[],z.1⟩,z.2):=by
 have hne:∀k:ah,aY k=false->w≠k:=λk hk e=>by rw[e,hk]at h;cases h
 rw[qp,vab (hne eC (by kernel_rfl)),vab (hne eR (by kernel_rfl)),vab (hne Qt (by kernel_rfl)),vab (hne Oz (by kernel_rfl)),vab (hne Ys (by kernel_rfl)),vab (hne KK (by kernel_rfl)),vab (hne Qu (by kernel_rfl)),vab (hne Ll (by kernel_rfl)),vab (hne Lk (by kernel_rfl)),vab (hne Lm (by kernel_rfl))]
 all_goals rfl
end
end Go.Proofs.YtibglelmlnfojaaGreatDoor
