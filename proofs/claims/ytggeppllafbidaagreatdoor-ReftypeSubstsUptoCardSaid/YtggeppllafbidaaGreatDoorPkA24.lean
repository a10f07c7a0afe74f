/- PROVED: parts of the proof (In2 In4 Sb3 Sb4 Wr1). Conditions: none. -/
import Derived.Test.YtggeppllafbidaaGreatDoorPkA23
import Derived.Test.YtggeppllafbidaaGreatDoorPkA22
noncomputable section
namespace Go.Proofs.YtggeppllafbidaaGreatDoor
open Go
set_option linter.unusedVariables false
set_option linter.unusedSimpArgs false
theorem K4(x:ag)(c:Sb)(i:Nat)(h:i<c.length):ca x (c.take (i+1))=if c[i].1=x then ca x (c.take i)else ca x (c.take i)++[c[i]]:=by
 unfold ca
 rw[va9 h,List.filter_append,va5]
 by_cases hx:c[i].1=x
 ·rw[vaj hx,van (by simp[hx]),List.filter_nil,vbv]
 ·rw[van hx,vaj (by simpa using hx),List.filter_nil]
theorem MS(x:ag)(c:Sb)(hc:c.length<=1000000000):zA ⟨kN c,kB c⟩ x=some ⟨kN (ca x c),kB (ca x c)⟩:=by
 unfold zA u4
 have hl:(kN c).length=c.length:=vaC ..
 have hlb:(kB c).length=c.length:=vaC ..
 have:=zX c.length (by omega) (fun i (s:List ag×List aa)=>(i,s.1,s.2)) (fun(zz:Int×(List ag)×(List aa))=>fI x ⟨kN c,kB c⟩ (kN c) ((kN c).length:Int) zz.1 zz.2.1 zz.2.2)
  (fun i=>(kN (ca x (c.take i)),kB (ca x (c.take i)))) (kN (ca x c),kB (ca x c)) (fun i hi=>?_) ?_
 ·rw[show(ca x (c.take 0))=[]from rfl]at this
  rw[show(((0:Int),([]:List ag),([]:List aa)):Int×(List ag)×(List aa))=(0,kN [],kB [])from rfl,this]
  rfl
 ·show fI x ⟨kN c,kB c⟩ (kN c) ((kN c).length:Int) (i:Int) (kN (ca x (c.take i))) (kB (ca x (c.take i)))=_
  unfold fI u3
  have hw:(ca x (c.take i)).length<=(c.take i).length:=vaU ..
  rw[vaR]at hw
  have hkl:(kN (ca x (c.take i))).length=(ca x (c.take i)).length:=vaC ..
  have hkb:(kB (ca x (c.take i))).length=(ca x (c.take i)).length:=vaC ..
  rw[vaj (by simp;omega),cd (kN c) i (by omega)]
  simp only[vaa]
  rw[vaj (vbd (show(i:Int)<((kB c).length:Int) by omega))]
  simp only[vaa]
  have hg:(kN c)[i]'(by omega)=c[i].1:=by simp[kN]
  have hb:(kB c)[i]'(by omega)=c[i].2:=by simp[kB]
  rw[hg,K4 x c i hi]
  by_cases h1:c[i].1=x
  ·have h1':(c[i].1==x)=true:=by simpa using h1
   rw[vaj h1,van (by rw[h1'];decide)]
  ·have h1':(c[i].1==x)=false:=by simpa using h1
   simp only[h1',h1,vbz,if_true,if_false]
   rw[du (by simp;omega)]
   simp only[vaa]
   rw[cd (kB c) i (by omega)]
   simp only[vaa,hb]
   rw[du (by simp;omega)]
   simp[kN,kB]
 ·show fI x ⟨kN c,kB c⟩ (kN c) ((kN c).length:Int) (c.length:Int) (kN (ca x (c.take c.length))) (kB (ca x (c.take c.length)))=_
  unfold fI
  rw[van (by simp),vaW (var _)]
theorem MR(x:ag)(c:Sb)(h:nL (kB c)<=200000000):wn ⟨kN c,kB c⟩ x=some (pf x c):=by
 unfold wn sZ
 have hl:=vq (kB c)
 rw[Mw (kB c) (by omega) (fun zz=>oV x (kB c) ((kB c).length:Int) zz) (fun i y=>(mV y).bind fun r3=>(fp r3 x).bind fun r4=>if(decide (r4>=0))=true then some (.inr (.inl ()))else some (.inl (bA (i+1)))) (fun y=>decide (x∈DY y)) (.inl ()) (.inr ()) (fun i=>rfl) (fun y hy i=>by
  have h1:=BG hy
  have h2:=im y
  rw[FO y (by omega)]
  simp only[vaa]
  obtain⟨r,e1,_,e2⟩:=J0 (l:=cU y) (v:=x) (by omega)
  rw[e1]
  simp only[vaa,e2,rI]
  by_cases hx:x∈DY y<;>simp[hx])]
 simp only[vaa]
 have he:(kB c).any (fun y=>decide (x∈DY y))=pf x c:=by
  unfold pf kB
  rw[List.any_map]
  rfl
 rw[he]
 cases pf x c<;>rfl
theorem MU(l:List aa)(h:nL l<=200000000):∃k,wo l=some k/\k.length<=nL l/\∀x,x∈k↔x∈l.flatMap cU:=by
 unfold wo s8
 have hl:=vq l
 rw[iR l (by omega) (fun i s=>(s,i)) _ (fun i s y=>(mV y).bind fun r3=>(d9 s r3).bind fun r4=>some (.inl (r4,bA (i+1)))) (fun i s=>s.length<=nL (l.take i)) (fun y s=>gw s (cU y)) id [] (by simp[nL]) (fun i s=>rfl) (fun i hi s hs=>?_)]
 ·obtain⟨f1,f2⟩:=qg cU l [] Io
  refine⟨_,rfl,?_,fun x=>?_⟩
  ·have key:∀(l:List aa) (a:List ag),(l.foldl (fun s y=>gw s (cU y)) a).length<=a.length+nL l:=by
    intro l
    induction l with
    |nil=>intro a;simp
    |cons y l ih=>
     intro a
     have g2:=im y
     have g3:=ih (gw a (cU y))
     have g4:=iZ a (cU y)
     rw[List.foldl_cons,nL]
     omega
   have:=key l []
   simpa using this
  ·show x∈l.foldl (fun s y=>gw s (cU y)) []↔_
   rw[f2,vcr]
   simp
 ·have h1:=tB l i hi
  have h2:=kg l (i+1)
  have h3:=im l[i]
  have h4:=iZ s (cU l[i])
  refine⟨?_,by omega⟩
  rw[FO _ (by omega)]
  simp only[vaa]
  rw[gr _ _ (by omega) (by omega)]
  rfl
theorem M6(u w:List ag)(i:Nat)(hi:i<w.length)(hu:u.length<=400000000):pU u (i:Int) 1 w=some (gw u [w[i]]):=by
 have h:=gr u [w[i]] hu (by simp)
 unfold d9 at h
 unfold pU
 have e1:oM u (u.length:Int) [] 0=kQ u (u.length:Int) [] 0:=rfl
 rw[e1]
 cases h1:kQ u (u.length:Int) [] 0 with
 |none=>rw[h1]at h;cases h
 | some o =>
  rw[h1]at h
  simp only[vaa]at h ⊢
  have hb:∀s (k:Nat),eK (i:Int) 1 (((1:Nat):Int)) w s (k:Int)=cq [w[i]] (([w[i]]:List ag).length:Int) s (k:Int):=by
   intro s k
   unfold eK cq
   by_cases hk:k=0
   ·subst hk
    rw[vaj (by simp),vaj (by simp)]
    have hm:QP (i:Int) 1 w ((0:Nat):Int)=some w[i]:=by
     unfold QP
     rw[vaj ⟨by omega,by omega,by simp⟩]
     simp[hi]
    rw[hm,show dv [w[i]] ((0:Nat):Int)=some w[i]from rfl]
   ·rw[van (by simp;omega),van (by simp;omega)]
  have e2:kP (i:Int) 1 (((1:Nat):Int)) w o 0=kR [w[i]] (([w[i]]:List ag).length:Int) o 0:=by
   unfold kP kR
   have h0:=hb o 0
   rw[show((0:Nat):Int)=0 from rfl]at h0
   have e3:=j7 (fun(zz:(List ag)×Int)=>eK (i:Int) 1 (((1:Nat):Int)) w zz.1 zz.2) (o,0)
   have e4:=j7 (fun(zz:(List ag)×Int)=>cq [w[i]] (([w[i]]:List ag).length:Int) zz.1 zz.2) (o,0)
   rw[e3,e4,h0]
   cases hr:cq [w[i]] (([w[i]]:List ag).length:Int) o 0 with
   |none=>rfl
   | some r =>
    cases r with
    |inr y=>rfl
    | inl s =>
     simp only
     have hs:s.2=((1:Nat):Int):=by
      unfold cq at hr
      rw[vaj (by simp),show dv [w[i]] 0=some w[i]from rfl]at hr
      simp only[vaa]at hr
      cases hp:pV o w[i]with
      |none=>rw[hp]at hr;cases hr
      |some q=>rw[hp]at hr;cases hr;rfl
     obtain⟨s1,s2⟩:=s
     simp only at hs
     subst hs
     have h1:=hb s1 1
     have e5:=j7 (fun(zz:(List ag)×Int)=>eK (i:Int) 1 (((1:Nat):Int)) w zz.1 zz.2) (s1,((1:Nat):Int))
     have e6:=j7 (fun(zz:(List ag)×Int)=>cq [w[i]] (([w[i]]:List ag).length:Int) zz.1 zz.2) (s1,((1:Nat):Int))
     rw[e5,e6,h1]
     have hz:cq [w[i]] (([w[i]]:List ag).length:Int) s1 ((1:Nat):Int)=some (.inr s1):=by
      unfold cq
      rw[van (by simp)]
     rw[hz]
  rw[e2]
  exact h
def Ky(o:Int)(ns:List ag)(s:S3)(u:List ag):Nat->List ag
 |0=>u
 |i+1=>if(o=6/\i<ns.length)/\pf (ns.getD i []) (ca (ns.getD i []) (fZ o ns s i).2.1)=true then gw (Ky o ns s u i) [iO (fZ o ns s i).1 (ns.getD i [])]else Ky o ns s u i
theorem Lo(o:Int)(ns:List ag)(s:S3)(u:List ag)(h:∀x,x∈u↔x∈s.1):∀i x,x∈Ky o ns s u i↔x∈(fZ o ns s i).1
 |0,x=>h x
 | i + 1,x => by
  have ih:=Lo o ns s u h i
  show x∈Ky o ns s u (i+1)↔x∈(xn o ns i (fZ o ns s i)).1
  rw[Ky]
  unfold xn
  by_cases h1:o=6/\i<ns.length
  ·by_cases h2:pf (ns.getD i []) (ca (ns.getD i []) (fZ o ns s i).2.1)=true
   ·rw[vaj ⟨h1,h2⟩,vaj h1,vaj h2,jY,ih]
    simp
   ·rw[van (fun h=>h2 h.2),vaj h1,van h2,ih]
  ·rw[van (fun h=>h1 h.1),van h1,ih]
theorem Ln(o:Int)(ns:List ag)(s:S3)(u:List ag):∀i,(Ky o ns s u i).length<=u.length+i
 |0=>by simp[Ky]
 | i + 1 => by
  have ih:=Ln o ns s u i
  rw[Ky]
  split
  ·have:=iZ (Ky o ns s u i) [iO (fZ o ns s i).1 (ns.getD i [])]
   simp only[List.length_singleton]at this
   omega
  ·omega
theorem JW(c:Sb)(l:List aa)(hl:l.length<=1073741824)(hp:∀p∈l,nP p<=cn)(hc:c.length<=cn):la l (l.length:Int) (kN c) (kB c) 0 []=some (l.map (DE (mn (kN c) (kB c)))):=by
 unfold la
 have h1:(kN c).length=c.length:=vaC ..
 rw[rK l hl (fun i s=>(i,s)) _ (fun y=>kV y (kN c) (kB c)) (DE (mn (kN c) (kB c))) id (fun i s=>rfl) (fun y hy=>LT y _ _ (hp y hy) (by unfold cn at hc;omega))]
 rfl
theorem CM(t:ae)(c:Sb)(h:KS t c):uZ t ⟨kN c,kB c⟩=some (ww t c):=by
 have hbig:fK t<OQ:=ly (by have:=h.sz;unfold cn;omega)
 refine(lw (F:=qQ) (fun x=>fK x.1) (fun x=>∃c,x.2=⟨kN c,kB c⟩/\KS x.1 c) (fun x=>ww x.1 (x.2.Names.zip x.2.By)) (fun R x hx ih=>?_) (t,⟨kN c,kB c⟩) ⟨c,rfl,h⟩ hbig).trans (by
  show some (ww t ((kN c).zip (kB c)))=_
  rw[pN])
 obtain⟨t,s⟩:=x
 obtain⟨c,hs,h⟩:=hx
 have hs:s=⟨kN c,kB c⟩:=hs
 have h:KS t c:=h
 subst hs
 show mJ (fun t c=>R (t,c)) t ⟨kN c,kB c⟩=some (ww t ((kN c).zip (kB c)))
 rw[pN]
 have hR:∀(i:Nat) (hi:i<t.Args.length),R (t.Args[i],⟨kN (fZ t.Op t.Names (bj t c) i).2.1,kB (fZ t.Op t.Names (bj t c) i).2.1⟩)=some (ww t.Args[i] (fZ t.Op t.Names (bj t c) i).2.1):=fun i hi=>by
  have:=ih (t.Args[i],⟨kN (fZ t.Op t.Names (bj t c) i).2.1,kB (fZ t.Op t.Names (bj t c) i).2.1⟩) (qX (vaw hi)) ⟨_,rfl,LI h i hi⟩
  rw[this]
  show some (ww t.Args[i] ((kN (fZ t.Op t.Names (bj t c) i).2.1).zip (kB (fZ t.Op t.Names (bj t c) i).2.1)))=_
  rw[pN]
 have l1:=oZ t
 have l2:=mr t
 have l3:=oI t
 have hsz:nL (kB c)+fK t<=20000000:=h.sz
 have hw:wT t<=20000000:=h.w
 have hnd:=h.nd
 have hp:=Qc (t:=t)
 have hcl:=EP c
 have hknl:(kN c).length=c.length:=vaC ..
 unfold mJ
 rw[LT _ _ _ (by unfold cn;omega) (show(kN c).length<9223372036854775808 by omega)]
 simp only[vaa]
 rw[JW c _ (by omega) (fun q hq=>by have:=FE hq;unfold cn;omega) (by unfold cn;omega)]
 simp only[vaa]
 rw[du (by simp;omega)]
 simp only[vaa,va2]
 obtain⟨kn,hk1,hk2,hk3⟩:=MU (kB c) (by omega)
 rw[hk1,MT t (by omega) (by omega)]
 simp only[vaa]
 have f2:=kD t
 have f3:=iZ kn (freeT t)
 rw[gr _ _ (by omega) (by omega)]
 simp only[vaa]
 rw[gr _ _ (by omega) (by omega)]
 simp only[vaa]
 have hu0:∀x,x∈gw (gw kn (freeT t)) t.Names↔x∈(bj t c).1:=fun x=>by
  unfold bj
  rw[jY,jY,hk3,vaB,vaB]
 have hul0:=iZ (gw kn (freeT t)) t.Names
 generalize gw (gw kn (freeT t)) t.Names=u0 at hu0 hul0
 unfold oU
 have hloop:=zX t.Args.length (by omega) (fun i (s:List ag×List ag×List aa×List ae×List ag)=>(s.1,i,s.2.1,s.2.2.1,s.2.2.2.1,s.2.2.2.2)) (fun(zz:(List ag)×Int×(List ag)×(List aa)×(List ae)×List ag)=>dm (fun t c=>R (t,c)) t t.Args (t.Args.length:Int) t.Names.length zz.1 zz.2.1 zz.2.2.1 zz.2.2.2.1 zz.2.2.2.2.1 zz.2.2.2.2.2)
  (fun i=>(Ky t.Op t.Names (bj t c) u0 i,kN (fZ t.Op t.Names (bj t c) i).2.1,kB (fZ t.Op t.Names (bj t c) i).2.1,Kw t c i,(fZ t.Op t.Names (bj t c) i).2.2))
  (kN (fZ t.Op t.Names (bj t c) t.Args.length).2.1,kB (fZ t.Op t.Names (bj t c) t.Args.length).2.1,Kw t c t.Args.length,(fZ t.Op t.Names (bj t c) t.Args.length).2.2) (fun i hi=>?_) ?_
 ·have hloop':loop (fun(zz:(List ag)×Int×(List ag)×(List aa)×(List ae)×List ag)=>dm (fun t c=>R (t,c)) t t.Args (t.Args.length:Int) t.Names.length zz.1 zz.2.1 zz.2.2.1 zz.2.2.2.1 zz.2.2.2.2.1 zz.2.2.2.2.2) (u0,0,kN c,kB c,[],t.Names)=_:=hloop
  rw[hloop']
  simp only[vaa]
  rw[NL _ _ (by rw[Jl];rfl)]
  simp only[vaa]
  rw[Kx,Lk]
 ·show dm (fun t c=>R (t,c)) t t.Args (t.Args.length:Int) t.Names.length (Ky t.Op t.Names (bj t c) u0 i) (i:Int) (kN (fZ t.Op t.Names (bj t c) i).2.1) (kB (fZ t.Op t.Names (bj t c) i).2.1) (Kw t c i) (fZ t.Op t.Names (bj t c) i).2.2=_
  unfold dm
  rw[vaj (by simp;omega),cd _ i hi]
  simp only[vaa]
  rw[hR i hi]
  simp only[vaa]
  have hal:=Ll t c i (by omega)
  rw[du (by simp;omega)]
  simp only[vaa]
  rw[Jj t c i hi]
  have hq:fZ t.Op t.Names (bj t c) (i+1)=xn t.Op t.Names i (fZ t.Op t.Names (bj t c) i):=rfl
  have hU:Ky t.Op t.Names (bj t c) u0 (i+1)=_:=Ky.eq_2 t.Op t.Names (bj t c) u0 i
  have hUm:=Lo t.Op t.Names (bj t c) u0 hu0 i
  have hUl:=Ln t.Op t.Names (bj t c) u0 i
  have hQn:=Lm t.Op t.Names (bj t c) i
  have hQu:=NA t.Op t.Names (bj t c) i
  have hQw:=Jl t.Op t.Names (bj t c) i
  have hQd:=wv t.Op t.Names (bj t c) hnd i
  have hst:=LY t c
  have hn0:nL (kB (bj t c).2.1)=nL (kB c):=rfl
  have hw0:(bj t c).2.2=t.Names:=rfl
  rw[hw0]at hQw
  generalize Ky t.Op t.Names (bj t c) u0 i=U at hU hUm hUl ⊢
  generalize fZ t.Op t.Names (bj t c) i=S at hq hU hUm hQn hQu hQw hQd ⊢
  obtain⟨u,cc,w⟩:=S
  simp only at hQn hQu hQw hQd hUm hU ⊢
  have hccl:=EP cc
  unfold oT
  by_cases ho:t.Op=6
  ·rw [van (by simpa using ho)]
   simp only[vaa]
   by_cases hi2:i<t.Names.length
   ·rw[van (by simp;omega),cd _ i hi2]
    simp only[vaa]
    rw[MS _ cc (by omega)]
    simp only[vaa]
    have hd:=DV t.Names[i] cc
    rw[MR _ _ (by omega)]
    simp only[vaa]
    have hnl:t.Names[i].length<=1000000000000000:=((Eo _ t).1 h.n).1 _ (vaw hi2)
    unfold xn at hq
    rw[vaj ⟨ho,hi2⟩,Ik _ i hi2]at hq
    rw[Ik _ i hi2]at hU
    by_cases hcm:pf t.Names[i] (ca t.Names[i] cc)=true
    ·rw[vaj hcm]at hq ⊢
     rw[vaj ⟨⟨ho,hi2⟩,hcm⟩]at hU
     rw[(IZ U t.Names[i] (by omega) (by omega)).2.1,If hUm]
     simp only[vaa]
     rw[Il _ w i (by omega) (by omega)]
     simp only[vaa]
     rw[OI w i _ (by omega)]
     simp only[vaa]
     rw[show OD t.Names.length (i:Int) (bA ((i:Int)+1))=some 1 by
      rw[nK (by omega) (by omega)]
      unfold OD
      rw[vaj ⟨by omega,by omega,by omega⟩]
      congr 1;omega]
     simp only[vaa]
     rw[M6 U (w.set i (iO u t.Names[i])) i (by rw[vbu];omega) (by omega),vbY]
     simp only[vaa]
     have k1:(kN (ca t.Names[i] cc)).length=(ca t.Names[i] cc).length:=vaC ..
     have k2:(kB (ca t.Names[i] cc)).length=(ca t.Names[i] cc).length:=vaC ..
     have k3:(ca t.Names[i] cc).length<=cc.length:=vaU ..
     rw[du (by simp;omega)]
     simp only[vaa]
     rw[Il _ (w.set i (iO u t.Names[i])) i (by omega) (by rw[vbu];omega),vbY]
     simp only[vaa]
     rw[du (by simp;omega)]
     simp only[vaa]
     rw[hq,hU]
     simp[kN,kB,M7]
    ·rw[van hcm]at hq ⊢
     rw[van (fun h=>hcm h.2)]at hU
     rw[hq,hU]
   ·rw[vaj (by simp;omega),hq,hU,van (fun h=>hi2 h.1.2)]
    unfold xn
    rw[van (fun h=>hi2 h.2)]
  ·rw[vaj (by simpa using ho)]
   simp only[vaa,if_true]
   rw[hq,hU,van (fun h=>ho h.1.1)]
   unfold xn
   rw[van (fun h=>ho h.1)]
 ·show dm (fun t c=>R (t,c)) t t.Args (t.Args.length:Int) t.Names.length (Ky t.Op t.Names (bj t c) u0 t.Args.length) (t.Args.length:Int) (kN (fZ t.Op t.Names (bj t c) t.Args.length).2.1) (kB (fZ t.Op t.Names (bj t c) t.Args.length).2.1) (Kw t c t.Args.length) (fZ t.Op t.Names (bj t c) t.Args.length).2.2=_
  unfold dm
  rw[van (by simp)]
theorem MQ(t:ae)(x:ag)(q:aa)(h:KS t (oB x q)):wm t x q=some (ww t (oB x q)):=by
 unfold wm i8 j0
 have hb:cu [q] [x] (([x]:List ag).length:Int) 0 [] []=some (.inl (bA (0+1),kN (oB x q),kB (oB x q))):=by
  unfold cu fb oB
  rw[vaj (by simp),show dv [x] 0=some x from rfl]
  simp only[vaa]
  rw[vaj (by simp)]
  by_cases hx:x=[118]
  ·have hx':(x==([118]:ag))=true:=by simpa using hx
   simp only[hx',vbK,vaP,if_false,vaa]
   rw[vaj hx]
   rfl
  ·have hx':(x==([118]:ag))=false:=by simpa using hx
   simp only[hx',vbz,if_true]
   rw[FM [] x (by simp)]
   rw[van hx]
   rfl
 have he:cu [q] [x] (([x]:List ag).length:Int) (bA (0+1)) (kN (oB x q)) (kB (oB x q))=some (.inr (kN (oB x q),kB (oB x q))):=by
  unfold cu
  rw[show(([x]:List ag).length:Int)=1 from rfl,van (by decide)]
 rw[oG (body:=fun(zz:Int×(List ag)×(List aa))=>cu [q] [x] (([x]:List ag).length:Int) zz.1 zz.2.1 zz.2.2) (s:=(0,[],[])) (s':=(bA (0+1),kN (oB x q),kB (oB x q))) hb]
 rw[oF (body:=fun(zz:Int×(List ag)×(List aa))=>cu [q] [x] (([x]:List ag).length:Int) zz.1 zz.2.1 zz.2.2) he]
 simp only[vaa]
 rw[CM t _ h]
 rfl
theorem R1(o:Int)(ns:List ag)(i:Nat)(s:S3):(xn o ns i s).2.2.length=s.2.2.length:=by
 unfold xn
 split
 ·split
  ·simp only[vbu]
  ·rfl
 ·rfl
mutual
theorem LE:∀(t:ae) (c:Sb),fK (ww t c)=fK t
 |⟨o,n,xs,ns,p,ps⟩,c=>by
  obtain⟨h1,h2⟩:=LD o ns xs 0 (((kB c).flatMap cU++freeT ⟨o,n,xs,ns,p,ps⟩)++ns,c,ns)
  rw[ww,fK,fK,h1,h2,vaC]
theorem LD(o:Int)(ns:List ag):∀(xs:List ae) (i:Nat) (s:S3),kE (Jk o ns i xs s).1=kE xs/\(Jk o ns i xs s).2.length=s.2.2.length
 |[],i,s=>by rw[Jk];exact⟨rfl,rfl⟩
 | a :: xs,i,s => by
  have h1:=LE a s.2.1
  obtain⟨h2,h3⟩:=LD o ns xs (i+1) (xn o ns i s)
  rw[Jk]
  refine⟨?_,?_⟩
  ·show kE (ww a s.2.1::(Jk o ns (i+1) xs (xn o ns i s)).1)=_
   rw[kE,kE,h1,h2]
  ·show(Jk o ns (i+1) xs (xn o ns i s)).2.length=_
   rw[h3,R1]
end
def Lv(M:Nat)(c:Sb):Prop:=∀e∈c,nP e.2<=M
theorem Jp{M:Nat}{c:Sb}(h:Lv M c)(x:ag):Lv M (ca x c):=fun e he=>h e (vaK.1 he).1
theorem NG{M:Nat}{c:Sb}(hM:1<=M)(h:Lv M c)(x y:ag):Lv M (c++[(x,M7 y)]):=fun e he=>by
 rcases vaB.1 he with he|he
 ·exact h e he
 ·rw[vaV.1 he,N4];exact hM
theorem Ps{M:Nat}(hM:1<=M)(o:Int)(ns:List ag)(i:Nat)(s:S3)(h:Lv M s.2.1):Lv M (xn o ns i s).2.1:=by
 unfold xn
 split
 ·split
  ·exact NG hM (Jp h _) _ _
  ·exact Jp h _
 ·exact h
theorem NF{M:Nat}{c:Sb}(h:Lv M c){n:ag}{q:aa}(hq:mn (kN c) (kB c) n=some q):nP q<=M:=by
 have:=NX hq
 obtain⟨e,he,rfl⟩:=vaq.1 this
 exact h e he
mutual
theorem Lh(B M:Nat)(hM:1<=M):∀(t:ae) (c:Sb),Lv M c->tj (fun p=>nP p<=B) t->tj (fun p=>nP p<=B * M) (ww t c)
 |⟨o,n,xs,ns,p,ps⟩,c,h,ht=>by
  rw[tj]at ht
  have hs:∀q,nP q<=B->nP (DE (mn (kN c) (kB c)) q)<=B * M:=fun q hq=>vaX (Qg _ M hM (fun n r hr=>NF h hr) q) (vaM M hq)
  rw[ww,tj]
  refine⟨hs p ht.1,fun q hq=>?_,Jd B M hM o ns xs 0 _ h ht.2.2⟩
  obtain⟨q',hq',rfl⟩:=vaq.1 hq
  exact hs q' (ht.2.1 q' hq')
theorem Jd(B M:Nat)(hM:1<=M)(o:Int)(ns:List ag):∀(xs:List ae) (i:Nat) (s:S3),Lv M s.2.1->jl (fun p=>nP p<=B) xs->jl (fun p=>nP p<=B * M) (Jk o ns i xs s).1
 |[],i,s,_,_=>by rw[Jk];trivial
 |a::xs,i,s,h,ht=>by
  rw[jl]at ht
  rw[Jk]
  show jl (fun p=>nP p<=B * M) (ww a s.2.1::(Jk o ns (i+1) xs (xn o ns i s)).1)
  rw[jl]
  exact⟨Lh B M hM a s.2.1 h ht.1,Jd B M hM o ns xs (i+1) (xn o ns i s) (Ps hM o ns i s h) ht.2⟩
end
def sB(l:List ag)(by_:List aa):Sb:=wj [([118]:ag)] (l.zip by_)
theorem HC(hid:List ag):∀(c o:Sb),(kN o).Nodup->(kN (c.foldl (fun o e=>if e.1∈hid\/e.1∈kN o then o else o++[e]) o)).Nodup
 |[],o,h=>h
 | e :: c,o,h => by
  rw[List.foldl_cons]
  refine HC hid c _ ?_
  split
  ·exact h
  ·rename_i hn
   rw[not_or]at hn
   unfold kN at hn h ⊢
   rw[vbG,vcL]
   refine⟨h,by simp,fun a ha b hb=>?_⟩
   simp only[vaz,vbX,vaV]at hb
   subst hb
   intro he
   subst he
   exact hn.2 ha
theorem K7(l:List ag)(by_:List aa):(kN (sB l by_)).Nodup:=HC _ _ [] (by simp[kN])
theorem L1(hid:List ag):∀(c o:Sb),∀e∈c.foldl (fun o e=>if e.1∈hid\/e.1∈kN o then o else o++[e]) o,e∈o\/e∈c
 |[],o,e,h=>.inl h
 | x :: c,o,e,h => by
  rw[List.foldl_cons]at h
  rcases L1 hid c _ e h with h|h
  ·split at h
   ·exact .inl h
   ·rcases vaB.1 h with h|h
    ·exact .inl h
    ·rw[vaV.1 h];exact .inr vbE
  ·exact .inr (vaN _ h)
theorem OE{l:List ag}{by_:List aa}{M:Nat}(h:∀q∈by_,nP q<=M):Lv M (sB l by_):=fun e he=>by
 rcases L1 _ _ [] e he with he|he
 ·cases he
 ·exact h _ (List.of_mem_zip he).2
theorem P7{M:Nat}:∀(c:Sb),Lv M c->nL (kB c)<=c.length * M
 |[],_=>by simp[kB,nL]
 |e::c,h=>by
  have h1:=h e vbE
  have h2:=P7 c (fun x hx=>h x (vaN _ hx))
  show nL (e.2::kB c)<=_
  rw[nL,vaS,va0];omega
theorem OF(l:List ag)(by_:List aa):(sB l by_).length<=by_.length:=by
 have:=IT [([118]:ag)] (l.zip by_)
 rw[vbp]at this
 unfold sB
 omega
theorem M8{α β:Type}(l:List α)(m:List β):(l.take (min l.length m.length)).zip (m.take (min l.length m.length))=l.zip m:=by
 exact List.zip_eq_zip_take_min.symm
theorem QT(l:List ag)(m:List aa):kN (l.zip m)=l.take (min l.length m.length)/\kB (l.zip m)=m.take (min l.length m.length):=by
 rw[<-M8 l m]
 unfold kN kB
 have h:(l.take (min l.length m.length)).length=(m.take (min l.length m.length)).length:=by simp only[vaR];omega
 exact⟨List.map_fst_zip (by omega),List.map_snd_zip (by omega)⟩
theorem Iw(t:ae)(l:List ag)(m:List aa)(hl:l.length<=1000000000)(h:KS t (sB l m)):dX t l m=some (ww t (sB l m)):=by
 unfold dX
 have e:(if(m.length:Int)<(l.length:Int)then(m.length:Int)else(l.length:Int))=((min l.length m.length:Nat):Int):=by split<;>omega
 rw[e,IL l _ (Nat.min_le_left _ _),IL m _ (Nat.min_le_right _ _)]
 simp only[vaa]
 have hk:=QT l m
 have hw:=vR [([118]:ag)] (l.zip m) (by simp) (by rw[vbp];omega)
 rw[hk.1,hk.2]at hw
 rw[hw]
 simp only[vaa]
 rw[show(⟨kN (wj [([118]:ag)] (l.zip m)),kB (wj [([118]:ag)] (l.zip m))⟩:ai)=⟨kN (sB l m),kB (sB l m)⟩from rfl,LP t _ h]
 rfl
theorem IF(t:ae)(l:List ag)(m:List aa)(hl:l.length<=1000000000)(h:KS t (sB l m)):i8 t l m=some (ww t (sB l m)):=by
 unfold i8 j0
 have e:=yR l (by omega) (fun i (s:Sb)=>(i,kN s,kB s)) (fun(zz:Int×List ag×List aa)=>cu m l (l.length:Int) zz.1 zz.2.1 zz.2.2) (fun i s x=>(fb m i x (kN s)).bind fun o7=>if o7=true then(app (kN s) ([x]:List ag)).bind fun l10=>(dv m i).bind fun x11=>(app (kB s) ([x11]:List aa)).bind fun l12=>some (.inl (bA (i+1),l10,l12))else some (.inl (bA (i+1),kN s,kB s)))
  (fun i s=>s=wj [([118]:ag)] ((l.zip m).take i)) (fun i x s=>if h:i<m.length then(if x∈[([118]:ag)]\/x∈kN s then s else s++[(x,m[i])])else s) (fun s=>(kN s,kB s)) [] (by simp[wj]) (fun i s=>rfl) (fun i hi s hs=>?_)
 ·have key:∀(r:List ag) (k:Nat) (s:Sb),k+r.length=l.length->l.drop k=r->s=wj [([118]:ag)] ((l.zip m).take k)->nc (fun i x s=>if h:i<m.length then(if x∈[([118]:ag)]\/x∈kN s then s else s++[(x,m[i])])else s) r k s=sB l m:=by
   intro r
   induction r with
   |nil=>
    intro k s hk _ hs
    rw[nc,hs,vaW (by rw[vbp];simp at hk;omega)]
    rfl
   | cons x r ih =>
    intro k s hk hd hs
    have hkl:k<l.length:=by simp at hk;omega
    rw[vbm hkl]at hd
    obtain⟨hx,hr⟩:=List.cons.inj hd
    rw[nc]
    refine ih (k+1) _ (by simp at hk;omega) hr ?_
    by_cases hm:k<m.length
    ·rw[dif_pos hm,F8 _ _ _ (by rw[vbp];omega),<-hs,vcQ]
     simp only[hx]
    ·rw[dif_neg hm,hs,vaW (by rw[vbp];omega),vaW (by rw[vbp];omega)]
  rw[key l 0 [] (by omega) rfl (by simp[wj])]at e
  rw[show loop (fun(zz:Int×List ag×List aa)=>cu m l (l.length:Int) zz.1 zz.2.1 zz.2.2) (0,[],[])=some (kN (sB l m),kB (sB l m))from e]
  simp only[vaa]
  rw[show(⟨kN (sB l m),kB (sB l m)⟩:aj)=⟨kN (sB l m),kB (sB l m)⟩from rfl,CM t _ h]
  rfl
 ·have hsl:s.length<=i:=by
   rw[hs]
   have:=IT [([118]:ag)] ((l.zip m).take i)
   rw[vaR]at this
   omega
  have hkn:(kN s).length=s.length:=by unfold kN;rw[vaC]
  have hkb:(kB s).length=s.length:=by unfold kB;rw[vaC]
  by_cases hm:i<m.length
  ·have hz:i<(l.zip m).length:=by rw[vbp];omega
   have ht:=F8 [([118]:ag)] (l.zip m) i hz
   rw[<-hs,vcQ]at ht
   rw[dif_pos hm]
   refine⟨?_,by rw[ht]⟩
   unfold fb
   rw[vaj (by simp;omega)]
   by_cases hv:l[i]=[118]
   ·rw[van (by simp[hv]),vaj (.inl (by simp[hv]))]
    rfl
   ·rw[vaj (by simpa using hv),mU _ _ (by rw[hkn];omega)]
    simp only[vaa]
    rw[Mq]
    by_cases hin:l[i]∈kN s
    ·have:((kN s).any fun k=>k==l[i])=true:=vbq.2 ⟨_,hin,by simp⟩
     rw[this]
     simp only[vbK,vaP,if_false]
     rw[vaj (.inr hin)]
    ·have:((kN s).any fun k=>k==l[i])=false:=by
      rw[vbj]
      intro y hy hc
      exact hin (by rw[<-eq_of_beq hc];exact hy)
     rw[this]
     simp only[vbz,if_true]
     rw[van (by rw[not_or];exact⟨by simpa using hv,hin⟩)]
     rw[du (by simp;omega),cd m i hm]
     simp only[vaa]
     rw[du (by simp;omega)]
     simp[kN,kB]
  ·rw[dif_neg hm]
   refine⟨?_,by rw[hs,vaW (by rw[vbp];omega),vaW (by rw[vbp];omega)]⟩
   unfold fb
   rw[van (by simp;omega)]
   rfl
mutual
theorem No(B:Nat):∀(t:ae),wT t<=B->tj (fun p=>nP p<=B) t
 |⟨o,n,xs,ns,p,ps⟩,h=>by
  rw[wT]at h
  rw[tj]
  exact⟨by omega,fun q hq=>by have:=BG hq;omega,Lg B xs (by omega)⟩
theorem Lg(B:Nat):∀(l:List ae),uC l<=B->jl (fun p=>nP p<=B) l
 |[],_=>trivial
 |a::xs,h=>by
  rw[uC]at h
  rw[jl]
  exact⟨No B a (by omega),Lg B xs (by omega)⟩
end
theorem Em:wq=some true:=by kernel_rfl
theorem Cb{X:Type}(n:Nat)(hn:n<9223372036854775808){body:Int->Option (Int⊕X)}{Q:X->Prop}(hin:∀i:Nat,i<n->uq (body (i:Int)) (fun r=>r.elim (fun t=>t=bA ((i:Int)+1)) Q))(hend:uq (body (n:Int)) (fun r=>r.elim (fun _=>False) Q)):uq (loop body 0) Q:=by
 have key:∀k i,k+i=n->uq (loop body (i:Int)) Q:=by
  intro k
  induction k with
  |zero=>
   intro i hi
   have:i=n:=by omega
   subst this
   obtain⟨r,e,hr⟩:=hend
   rw[j7,e]
   cases r with
   |inl _=>exact hr.elim
   |inr y=>exact⟨y,rfl,hr⟩
  | succ k ih =>
   intro i hi
   obtain⟨r,e,hr⟩:=hin i (by omega)
   rw[j7,e]
   cases r with
   |inl t=>
    have hr:t=bA ((i:Int)+1):=hr
    simp only
    rw[hr,nK (by omega) (by omega),show((i:Int)+1)=((i+1:Nat):Int) by omega]
    exact ih (i+1) (by omega)
   |inr y=>exact⟨y,rfl,hr⟩
 exact key n 0 (by omega)
theorem KU(t:ae)(ht:fK t<=cn):uq (yF t) (fun _=>True):=by
 refine FY (F:=tg) fK (fun x=>fK x<=cn) (fun _ _=>True) (fun R x hx ih=>?_) t ht (ly ht)
 show uq (nZ (fun t=>R t) x) _
 have h1:=oZ x
 have h2:=mr x
 unfold cn at hx
 unfold nZ qT
 refine eG (R:=fun _=>True) (iA (fun _=>iA (fun _=>bH trivial) (fun _=>?_)) (fun _=>bH trivial)) (fun r _=>?_)
 ·unfold qU
  refine eG (R:=fun _=>True) (Cb x.Names.length (by omega) (fun i hi=>?_) ?_) (fun r _=>by cases r<;>exact bH trivial)
  ·unfold j3
   rw[vaj (vbd (by omega))]
   unfold qV
   refine eG (R:=fun _=>True) (Cb i (by omega) (fun k hk=>?_) ?_) (fun r _=>by
    cases r with
    |inl _=>exact bH trivial
    |inr _=>exact bH rfl)
   ·unfold j4
    rw[vaj (vbd (by omega)),cd _ i hi]
    simp only[vaa]
    rw[cd _ k (by omega)]
    simp only[vaa]
    exact iA (fun _=>bH trivial) (fun _=>bH rfl)
   ·unfold j4
    rw[van (by simp)]
    exact bH trivial
  ·unfold j3
   rw[van (by simp)]
   exact bH trivial
 ·cases r with
  |inl _=>exact bH trivial
  | inr _ =>
   simp only
   unfold qW
   refine eG (R:=fun _=>True) (Cb x.Args.length (by omega) (fun i hi=>?_) ?_) (fun r _=>by cases r<;>exact bH trivial)
   ·unfold j5
    rw[vaj (vbd (by omega)),cd _ i hi]
    simp only[vaa]
    exact eG (ih _ (qX (vaw hi)) (by have:=qX (vaw hi);unfold cn;omega)) (fun b _=>iA (fun _=>bH trivial) (fun _=>bH rfl))
   ·unfold j5
    rw[van (by simp)]
    exact bH trivial
theorem Mj(t:ae)(ht:fK t<=cn):uq (Bo t) (fun _=>True):=by
 refine FY (F:=u9) fK (fun x=>fK x<=cn) (fun _ _=>True) (fun R x hx ih=>?_) t ht (ly ht)
 show uq (qb (fun t=>R t) x) _
 unfold qb tf
 have h1:=oZ x
 refine eG (R:=fun _=>True) (Hx x.Args (by unfold cn at hx;omega) (fun i s=>(s,i)) (fun i s y=>(R y).bind fun r=>some (.inl (bA (s+r),bA (i+1)))) id (fun _ _=>True) (fun i s=>rfl) (fun i hi s _=>?_) (fun _ _=>trivial) 1 trivial) (fun a _=>bH trivial)
 exact eG (ih _ (qX (vaw hi)) (by have:=qX (vaw hi);omega)) (fun a _=>bH ⟨_,rfl,trivial⟩)
theorem Pt(l:List ae)(hl:kE l<=cn)(hp:jl (fun p=>nP p<=cn) l):uq (HU l) (fun _=>True):=by
 refine FY (F:=Bq) kE (fun x=>kE x<=cn/\jl (fun p=>nP p<=cn) x) (fun _ _=>True) (fun R l hx ih=>?_) l ⟨hl,hp⟩ (ly hl)
 obtain⟨hl,hp⟩:=hx
 show uq (wr (fun a=>R a) l) _
 unfold wr yC
 have h1:=BA l
 refine eG (Cc l (by unfold cn at hl;omega) _ (fun _=>True) (fun _=>True) (fun i=>rfl) (fun x hx i=>?_)) (fun a _=>by cases a<;>exact bH trivial)
 have hx1:=wB hx
 have hq:=(Jf _ _).1 ((Bt _ _).1 hp _ hx)
 have h2:=oI x
 have h3:=tx x
 refine eG (R:=fun _=>True) ?_ (fun o _=>iA (fun _=>bH trivial) (fun _=>?_))
 ·unfold yB
  rw[KJ]
  exact eG (Mj x (by omega)) fun _ _=>iA (fun _=>bH trivial) fun _=>v6 (a:=(nP x.Pred:Int)) (by rw[rH];exact E6 _ hq.1) (iA (fun _=>bH trivial) fun _=>iA (fun _=>bH trivial) fun _=>iA (fun _=>bH trivial) fun _=>eG (ih x.Args (by omega) ⟨by omega,hq.2.2⟩) fun _ _=>bH trivial)
 ·unfold yD
  refine eG (Cc x.Preds (by unfold cn at hl;omega) _ (fun _=>True) (fun _=>True) (fun i=>rfl) (fun q hq' i=>?_)) (fun a _=>by
   cases a with
   |inl _=>exact bH trivial
   |inr _=>exact bH ⟨rfl,trivial⟩)
  exact v6 (E6 q (hq.2.1 q hq')) (iA (fun _=>bH trivial) (fun _=>bH ⟨rfl,trivial⟩))
theorem PO(l:List aa)(hl:l.length<9223372036854775808)(hp:∀q∈l,nP q<=cn):uq (ws l) (fun r=>(!r)=true\/(l.length<=8/\∀q∈l,nP q<=30)):=by
 unfold ws th
 refine eG (Cc l hl _ (fun q=>nP q<=30) (fun _=>True) (fun i=>rfl) (fun x hx i=>v6 (E6 x (hp x hx)) (iA (fun _=>bH trivial) fun h=>bH ⟨rfl,by
  have:¬((nP x:Int)>30):=fun hc=>h (vbd hc)
  omega⟩))) (fun r hr=>?_)
 cases r with
 |inl _=>exact bH (.inl rfl)
 | inr _ =>
  refine bH ?_
  by_cases h:(l.length:Int)<=8
  ·exact .inr ⟨by omega,hr⟩
  ·exact .inl (by simp;omega)
theorem N7{t:ae}{c:Sb}(ht:wR (af t)<=1048576)(hn:(kN c).Nodup)(hc:nL (kB c)<=1048576):KS t c where
 nd:=hn
 sz:=by have:=DU t;omega
 w:=by have:=OM t;omega
 n:=GU (by omega) _ (Lf 1048576 t ht)
theorem LU{t:ae}{c:Sb}{M:Nat}(ht:wR (af t)<=1048576)(h1:1<=M)(h2:M<=1000)(hc:Lv M c):jG (ww t c) (ww t c)=some true:=by
 refine J1 _ (by rw[LE];have:=DU t;unfold cn;omega) (GV (fun p hp=>?_) _ (Lh 1048576 M h1 t c hc (Li 1048576 t ht)))
 have:1048576 * M<=1048576 * 1000:=vcF _ h2
 exact vaX hp (by unfold cn;omega)
theorem JS{l:List aa}{q:aa}(h:q∈l):nP q<=lB (l.map ac):=by
 have:=Ak (vaq.2 ⟨q,h,rfl⟩:ac q∈l.map ac)
 have:=N3 q
 omega
theorem y0(t:ae)(names:List ag)(m:List aa)(h:wR (af t)+(pm (sl cS names)+(pm (sl ac m)+0))<=1048576):lh t names m=some true:=by
 have e1:pm (sl cS names)=lB (names.map cS)+1:=by simp only[pm,sl]
 have e2:pm (sl ac m)=lB (m.map ac)+1:=by simp only[pm,sl]
 have l1:=Qb names
 have l2:=Qa m
 have ht:wR (af t)<=1048576:=by omega
 have hw:=OM t
 have hlt:=DU t
 have hb:cn=1073741824:=rfl
 have hP:jl (fun p=>nP p<=cn) [t]:=by rw[jl];exact⟨No cn t (by omega),trivial⟩
 have hm:∀q∈m,nP q<=cn:=fun q hq=>by have:=JS hq;omega
 have g:uq (ft names m t) (fun o=>o=true\/(m.length<=8/\∀q∈m,nP q<=30)):=by
  unfold ft
  refine eG (Pt [t] (by simp only[kE];omega) hP) fun b _=>iA (fun _=>bH (.inl rfl)) fun _=>eG (KU t (by omega)) fun b _=>iA (fun _=>bH (.inl rfl)) fun _=>iA (fun _=>bH (.inl rfl)) fun _=>eG (PO m (by omega) hm) fun r hr=>bH ?_
  rcases hr with hr|hr
  ·exact .inl hr
  ·exact .inr hr
 obtain⟨o,eo,ho⟩:=g
 unfold lh
 rw[eo]
 simp only[vaa]
 by_cases hc:o=true
 ·rw[vaj hc,Em];rfl
 obtain⟨h8,h30⟩:=ho.resolve_left hc
 rw[van hc]
 have hj:fu names m t=some false:=by
  unfold fu
  by_cases hn:0<names.length
  ·rw [vaj (by simp only [vai]; omega)]
   by_cases hm0:0<m.length
   ·rw[vaj (by simp only[vai];omega),show dv names (0:Int)=some names[0]from cd names 0 hn,show dv m (0:Int)=some m[0]from cd m 0 hm0]
    simp only[vaa]
    have hq:=JS (vaw hm0)
    have ok:KS t (oB names[0] m[0]):=N7 ht (K6 _ _) (by have:=Q0 names[0] m[0];omega)
    have hf:Lv 30 (oB names[0] m[0]):=fun e he=>by
     unfold oB at he
     split at he
     ·cases he
     ·rw[vaV.1 he];exact h30 _ (vaw hm0)
    rw[ME t _ _ ok,MQ t _ _ ok]
    simp only[vaa]
    rw[LU ht (by omega) (by omega) hf]
    rfl
   ·rw[van (by simp only[vai];omega)]
  ·rw[van (by simp only[vai];omega)]
 rw[hj]
 simp only[vaa,vaP,if_false]
 have hf:Lv 30 (sB names m):=OE h30
 have hlen:=OF names m
 have hn2:=P7 _ hf
 have ok:KS t (sB names m):=N7 ht (K7 _ _) (by
  have:(sB names m).length * 30<=m.length * 30:=vaM _ hlen
  omega)
 rw[Iw t names m (by omega) ok,IF t names m (by omega) ok]
 simp only[vaa]
 rw[LU ht (by omega) (by omega) hf]
 simp only[vaa,if_true]
 rw[Em]
 rfl
end Go.Proofs.YtggeppllafbidaaGreatDoor
