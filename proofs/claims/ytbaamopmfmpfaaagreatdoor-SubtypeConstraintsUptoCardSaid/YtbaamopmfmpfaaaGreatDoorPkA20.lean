/- PROVED: a part of the proof. Conditions: none. -/
import Derived.Test.YtbaamopmfmpfaaaGreatDoorPkA19
import Derived.Test.YtbaamopmfmpfaaaGreatDoorPkA18
noncomputable section
namespace Go.Proofs.YtbaamopmfmpfaaaGreatDoor
open Go
set_option linter.unusedVariables false
set_option linter.unusedSimpArgs false
theorem yf:∀(c:Sb),(kN c).zip (kB c)=c
 |[]=>rfl
 |e::c=>by
  have ih:=yf c
  unfold kN kB at ih ⊢
  rw[vay,vay,List.zip_cons_cons,ih]
def KF(hid:List ag)(c:Sb):Sb:=c.foldl (fun o e=>if e.1∈hid\/e.1∈kN o then o else o++[e]) []
theorem qd7(hid:List ag)(c:Sb)(i:Nat)(h:i<c.length):KF hid (c.take (i+1))=if c[i].1∈hid\/c[i].1∈kN (KF hid (c.take i))then KF hid (c.take i)else KF hid (c.take i)++[c[i]]:=by
 unfold KF
 rw[vaM h,vcm]
 rfl
theorem qfz(hid:List ag):∀(c:Sb),(KF hid c).length<=c.length:=by
 have key:∀(c o:Sb),(c.foldl (fun o e=>if e.1∈hid\/e.1∈kN o then o else o++[e]) o).length<=o.length+c.length:=by
  intro c
  induction c with
  |nil=>intro o;simp
  | cons e c ih =>
   intro o
   rw[List.foldl_cons,vaP]
   refine vaI (ih _) ?_
   split
   ·omega
   ·rw[vag,List.length_singleton];omega
 intro c
 have:=key c []
 simpa[KF]using this
theorem qfA{x:ag}{c:Sb}(h:(kN c).Nodup):KF [x] c=cY x c:=by
 have key:∀(c o:Sb),(kN c).Nodup->(∀e∈c,e.1∉kN o)->c.foldl (fun o e=>if e.1∈[x]\/e.1∈kN o then o else o++[e]) o=o++cY x c:=by
  intro c
  induction c with
  |nil=>intro o _ _;simp[cY]
  | cons e c ih =>
   intro o hn ho
   unfold kN at hn
   rw[vay,vbN]at hn
   have h1:=ho e (by simp)
   rw[List.foldl_cons]
   by_cases hx:e.1=x
   ·rw[vad (.inl (by simp[hx])),ih o hn.2 (fun e' he'=>ho e' (by simp[he']))]
    unfold cY
    rw[vbd,vae (by simp[hx])]
   ·rw[vae (by simp only[va3];rintro(h|h);exact hx h;exact h1 h)]
    rw[ih (o++[e]) hn.2 (fun e' he' hm=>by
     unfold kN at hm
     rw[vbH,vaE]at hm
     rcases hm with hm|hm
     ·exact ho e' (by simp[he']) hm
     ·simp only[vay,vbW,va3]at hm
      exact hn.1 (vaq.2 ⟨e',he',hm⟩))]
    unfold cY
    rw[vbd,vad (by simpa using hx),vba]
    rfl
 have:=key c [] h (fun e _=>by simp)
 simpa[KF]using this
theorem MA(hid:List ag)(c:Sb)(hh:hid.length<9223372036854775808)(hc:c.length<=1000000000):ce ⟨kN c,kB c⟩ hid=some ⟨kN (KF hid c),kB (KF hid c)⟩:=by
 unfold ce fq
 have hl:(kN c).length=c.length:=vaF ..
 have:=J5 c.length (by omega) (fun i (s:List ag×List aa)=>(i,s.1,s.2)) (fun(zz:Int×(List ag)×(List aa))=>bQ hid ⟨kN c,kB c⟩ (kN c) ((kN c).length:Int) zz.1 zz.2.1 zz.2.2)
  (fun i=>(kN (KF hid (c.take i)),kB (KF hid (c.take i)))) (kN (KF hid c),kB (KF hid c)) (fun i hi=>?_) ?_
 ·rw[show(KF hid (c.take 0))=[]from rfl]at this
  rw[show(((0:Int),([]:List ag),([]:List aa)):Int×(List ag)×(List aa))=(0,kN [],kB [])from rfl,this]
  rfl
 ·show bQ hid ⟨kN c,kB c⟩ (kN c) ((kN c).length:Int) (i:Int) (kN (KF hid (c.take i))) (kB (KF hid (c.take i)))=_
  unfold bQ fp
  have hw:=qfz hid (c.take i)
  rw[vaO]at hw
  have hkl:(kN (KF hid (c.take i))).length=(KF hid (c.take i)).length:=vaF ..
  have hkb:(kB (KF hid (c.take i))).length=(KF hid (c.take i)).length:=vaF ..
  rw[vad (by simp;omega),bo (kN c) i (by omega)]
  simp only[vaa]
  rw[yS hid _ hh,yS (kN (KF hid (c.take i))) _ (by omega)]
  simp only[vaa]
  have hg:(kN c)[i]'(by omega)=c[i].1:=by simp[kN]
  have hb:(kB c)[i]'(by simp[kB];omega)=c[i].2:=by simp[kB]
  rw[hg,qd7 hid c i hi]
  by_cases h1:c[i].1∈hid
  ·simp only[h1,decide_true,vb3,va6,if_false,vaa,true_or,if_true]
  ·by_cases h2:c[i].1∈kN (KF hid (c.take i))
   ·simp only[h1,h2,decide_false,decide_true,vbT,vb3,va6,if_false,vaa,or_true,if_true]
   ·simp only[h1,h2,decide_false,vbT,if_true,vaa,or_self,if_false]
    rw[cN (by simp;omega)]
    simp only[vaa]
    rw[bo (kB c) i (by simp[kB];omega)]
    simp only[vaa,hb]
    rw[cN (by simp;omega)]
    simp[kN,kB]
 ·show bQ hid ⟨kN c,kB c⟩ (kN c) ((kN c).length:Int) (c.length:Int) (kN (KF hid (c.take c.length))) (kB (KF hid (c.take c.length)))=_
  unfold bQ
  rw[vae (by simp),vbr (vah _)]
theorem qdK(x:ag)(c:Sb)(hn:(kN c).Nodup)(hc:c.length<=1000000000):ce ⟨kN c,kB c⟩ [x]=some ⟨kN (cY x c),kB (cY x c)⟩:=by
 rw[MA [x] c (by simp) hc,qfA hn]
theorem qdJ(x:ag)(q:aa)(c:Sb)(hn:(kN c).Nodup)(hc:c.length<=1000000000):fx ⟨kN (cY x c),kB (cY x c)⟩ x q=some ⟨kN (cY x c++[(x,q)]),kB (cY x c++[(x,q)])⟩:=by
 unfold fx
 have hd:(cY x c).length<=c.length:=vaW ..
 rw[qdK x _ (Ib hn) (by omega),YG]
 simp only[vaa]
 have h1:(kN (cY x c)).length=(cY x c).length:=vaF ..
 have h2:(kB (cY x c)).length=(cY x c).length:=vaF ..
 rw[cN (by simp;omega)]
 simp only[vaa]
 rw[cN (by simp;omega)]
 simp[kN,kB]
theorem TE(ns:List ag)(bs:List aa)(h:nL bs<=400000000):eg ⟨ns,bs⟩=some (bs.flatMap d7):=by
 unfold eg gB
 have hl:=Cx bs
 show(loop (fun(zz:(List ag)×Int)=>fL bs (bs.length:Int) zz.1 zz.2) ([],0)).bind _=_
 rw[ik bs (by omega) (fun i s=>(s,i)) _ (fun i s x=>(sZ x).bind fun r3=>(app s r3).bind fun l4=>some (.inl (l4,aR (i+1)))) (fun i s=>s.length<=nL (bs.take i)) (fun x s=>s++d7 x) id [] (by simp[nL]) (fun i s=>rfl) (fun i hi s hs=>?_),P9]
 ·rfl
 ·have h1:=y4 bs i hi
  have h2:=pU bs (i+1)
  have h3:=lE bs[i]
  refine⟨?_,by rw[vag];omega⟩
  rw[Xt _ (by omega)]
  simp only[vaa]
  rw[cN (by omega)]
  rfl
structure qbh(t:ae)(c:Sb):Prop where
 nd:(kN c).Nodup
 sz:nL (kB c)+cn t<=20000000
 w:wT t<=20000000
 n:yh 1000000000000000 t
theorem qgP{c:Sb}{q:aa}(h:q∈kB c):nP q<=nL (kB c):=Cy h
theorem qfX{t:ae}:nP t.Pred<=wT t:=by rw[rX];omega
theorem QZ{t:ae}{q:aa}(h:q∈t.Preds):nP q<=wT t:=by rw[rX];have:=Cy h;omega
theorem Vs{t:ae}{c:Sb}(h:qbh t c)(i:Nat)(hi:i<t.Args.length):qbh t.Args[i] (jw t.Op t.Names (bM t c) i).2.1 where
 nd:=F0 _ _ _ h.nd i
 sz:=by
  have h1:=ZB t.Op t.Names (bM t c) i
  have h2:=tI t
  have h3:=LE (vak hi)
  have h4:=h.sz
  show nL (kB (jw t.Op t.Names (bM t c) i).2.1)+cn t.Args[i]<=20000000
  have h5:nL (kB (bM t c).2.1)=nL (kB c):=rfl
  omega
 w:=vaI (qcj (vak hi)) h.w
 n:=qcd h.n (vak hi)
theorem LX(c:Sb)(p:aa)(hp:nP p<=bq)(hc:nL (kB c)<=bq):dg ⟨kN c,kB c⟩ p=some (GM (ph (kN c) (kB c)) p):=by
 unfold dg
 have:=Qi c
 have h1:(kN c).length=c.length:=vaF ..
 rw[VE p (kN c) (kB c) hp (by unfold bq at hc;omega) (fun q hq=>vaI (qgP hq) hc)]
 rfl
theorem QV(c:Sb)(l:List aa)(hl:l.length<=1073741824)(hp:∀p∈l,nP p<=bq)(hc:nL (kB c)<=bq):mU l ⟨kN c,kB c⟩=some (l.map (GM (ph (kN c) (kB c)))):=by
 unfold mU rJ
 rw[qk l hl (fun i s=>(s,i)) _ (fun y=>dg ⟨kN c,kB c⟩ y) (GM (ph (kN c) (kB c))) id (fun i s=>rfl) (fun y hy=>LX c y (hp y hy) hc)]
 rfl
theorem qcs{o:Int}(ho:o≠6)(ns:List ag)(s:S3):∀i,jw o ns s i=s
 |0=>rfl
 |i+1=>by
  show CW o ns i (jw o ns s i)=s
  rw[qcs ho ns s i]
  unfold CW
  rw[vae (fun h=>ho h.1)]
theorem Hn{α β:Type}(f:α->β):∀(l:List α) (i:Nat),(l.zipIdx i).map (fun y=>f y.1)=l.map f
 |[],i=>rfl
 |x::l,i=>by rw[List.zipIdx_cons,vay,vay,Hn f l (i+1)]
theorem qfe(t:ae)(c:Sb)(h:qbh t c):jp ⟨kN c,kB c⟩ t=some (AC t c):=by
 have hbig:cn t<qee:=ed (by have:=h.sz;unfold bq;omega)
 refine(eP (F:=iq) (fun x=>cn x.2) (fun x=>∃c,x.1=⟨kN c,kB c⟩/\qbh x.2 c) (fun x=>AC x.2 (x.1.names.zip x.1.by_)) (fun R x hx ih=>?_) (⟨kN c,kB c⟩,t) ⟨c,rfl,h⟩ hbig).trans (by
  show some (AC t ((kN c).zip (kB c)))=_
  rw[yf])
 obtain⟨s,t⟩:=x
 obtain⟨c,hs,h⟩:=hx
 have hs:s=⟨kN c,kB c⟩:=hs
 have h:qbh t c:=h
 subst hs
 show fb (fun s t=>R (s,t)) ⟨kN c,kB c⟩ t=some (AC t ((kN c).zip (kB c)))
 rw[yf]
 have hR:∀(i:Nat) (hi:i<t.Args.length),R (⟨kN (jw t.Op t.Names (bM t c) i).2.1,kB (jw t.Op t.Names (bM t c) i).2.1⟩,t.Args[i])=some (AC t.Args[i] (jw t.Op t.Names (bM t c) i).2.1):=fun i hi=>by
  have:=ih (⟨kN (jw t.Op t.Names (bM t c) i).2.1,kB (jw t.Op t.Names (bM t c) i).2.1⟩,t.Args[i]) (gy (vak hi)) ⟨_,rfl,Vs h i hi⟩
  rw[this]
  show some (AC t.Args[i] ((kN (jw t.Op t.Names (bM t c) i).2.1).zip (kB (jw t.Op t.Names (bM t c) i).2.1)))=_
  rw[yf]
 have l1:=fA t
 have l2:=iL t
 have l3:=AV t
 have hsz:nL (kB c)+cn t<=20000000:=h.sz
 have hw:wT t<=20000000:=h.w
 have hnd:=h.nd
 have hp:=qfX (t:=t)
 have hcl:=Qi c
 unfold fb
 by_cases ho:t.Op=6
 ·rw [vad (by simpa using ho)]
  unfold gg
  rw[AE _ (by omega),LX c _ (by unfold bq;omega) (by unfold bq;omega),QV c _ (by omega) (fun q hq=>by have:=QZ hq;unfold bq;omega) (by unfold bq;omega),TE _ _ (by omega),qbB t (by omega) (by omega)]
  simp only[vaa]
  have f1:=F6 (kB c)
  have f2:=qj t
  rw[cN (by omega)]
  simp only[vaa]
  rw[cN (by rw[vag];omega)]
  simp only[vaa]
  unfold fa
  have hloop:=J5 t.Args.length (by omega) (fun i (s:List ag×List ag×List ae×List ag×List aa)=>(s.1,i,s.2.1,s.2.2.1,s.2.2.2.1,s.2.2.2.2)) (fun(zz:(List ag)×Int×List ag×(List ae)×(List ag)×(List aa))=>bI (fun s t=>R (s,t)) t t.Args (t.Args.length:Int) t.Names.length zz.1 zz.2.1 zz.2.2.1 zz.2.2.2.1 zz.2.2.2.2.1 zz.2.2.2.2.2)
   (fun i=>((jw t.Op t.Names (bM t c) i).1,(jw t.Op t.Names (bM t c) i).2.2,Yu t c i,kN (jw t.Op t.Names (bM t c) i).2.1,kB (jw t.Op t.Names (bM t c) i).2.1))
   ((jw t.Op t.Names (bM t c) t.Args.length).2.2,Yu t c t.Args.length,kN (jw t.Op t.Names (bM t c) t.Args.length).2.1,kB (jw t.Op t.Names (bM t c) t.Args.length).2.1) (fun i hi=>?_) ?_
  ·have hloop':loop (fun(zz:(List ag)×Int×List ag×(List ae)×(List ag)×(List aa))=>bI (fun s t=>R (s,t)) t t.Args (t.Args.length:Int) t.Names.length zz.1 zz.2.1 zz.2.2.1 zz.2.2.2.1 zz.2.2.2.2.1 zz.2.2.2.2.2) (((kB c).flatMap d7++freeT t)++t.Names,0,t.Names,[],kN c,kB c)=_:=hloop
   rw[hloop']
   simp only[vaa]
   rw[LC _ _ (by rw[WL];rfl)]
   simp only[vaa]
   rw[UP,Zz]
  ·show bI (fun s t=>R (s,t)) t t.Args (t.Args.length:Int) t.Names.length (jw t.Op t.Names (bM t c) i).1 (i:Int) (jw t.Op t.Names (bM t c) i).2.2 (Yu t c i) (kN (jw t.Op t.Names (bM t c) i).2.1) (kB (jw t.Op t.Names (bM t c) i).2.1)=_
   unfold bI
   rw[vad (by simp;omega),bo _ i hi]
   simp only[vaa]
   rw[hR i hi]
   simp only[vaa]
   have hal:=ZA t c i (by omega)
   rw[cN (by simp;omega)]
   simp only[vaa]
   rw[WK t c i hi]
   have hq:jw t.Op t.Names (bM t c) (i+1)=CW t.Op t.Names i (jw t.Op t.Names (bM t c) i):=rfl
   have hQn:=ZB t.Op t.Names (bM t c) i
   have hQu:=ZC t.Op t.Names (bM t c) i
   have hQw:=WL t.Op t.Names (bM t c) i
   have hQd:=F0 t.Op t.Names (bM t c) hnd i
   have hu0:=VQ t c
   have hn0:nL (kB (bM t c).2.1)=nL (kB c):=rfl
   have hw0:(bM t c).2.2=t.Names:=rfl
   rw[hw0]at hQw
   generalize jw t.Op t.Names (bM t c) i=S at hq hQn hQu hQw hQd ⊢
   obtain⟨u,cc,w⟩:=S
   simp only at hQn hQu hQw hQd ⊢
   have hccl:=Qi cc
   by_cases hi2:i<t.Names.length
   ·rw[vae (by simp;omega),bo _ i hi2]
    simp only[vaa]
    rw[qdK _ cc hQd (by omega)]
    simp only[vaa]
    have hd:=Ok t.Names[i] cc
    rw[TE _ _ (by omega)]
    simp only[vaa]
    have f3:=F6 (kB (cY t.Names[i] cc))
    rw[yS _ _ (by omega),YA]
    simp only[vaa]
    have hnl:t.Names[i].length<=1000000000000000:=((Aw _ t).1 h.n).1 _ (vak hi2)
    unfold CW at hq
    rw[vad ⟨ho,hi2⟩,Cn _ i hi2]at hq
    by_cases hcm:xC t.Names[i] (cY t.Names[i] cc)=true
    ·rw[vad hcm]at hq ⊢
     rw[(Al u t.Names[i] (by omega) (by omega)).1]
     simp only[vaa]
     rw[LD _ w i (by omega) (by omega)]
     simp only[vaa]
     rw[VV w i _ (by omega)]
     simp only[vaa]
     rw[LD _ (w.set i (eQ u t.Names[i])) i (by omega) (by rw[vbq];omega),vbX]
     simp only[vaa]
     rw[cN (by simp;omega)]
     simp only[vaa]
     have hpw:=qdJ t.Names[i] (⟨3,eQ u t.Names[i],0,[]⟩:aa) cc hQd (by omega)
     rw[hpw]
     simp only[vaa]
     rw[hq]
     rfl
    ·rw[vae hcm]at hq ⊢
     rw[hq]
   ·rw[vad (by simp;omega),hq]
    unfold CW
    rw[vae (fun h=>hi2 h.2)]
  ·show bI (fun s t=>R (s,t)) t t.Args (t.Args.length:Int) t.Names.length (jw t.Op t.Names (bM t c) t.Args.length).1 (t.Args.length:Int) (jw t.Op t.Names (bM t c) t.Args.length).2.2 (Yu t c t.Args.length) (kN (jw t.Op t.Names (bM t c) t.Args.length).2.1) (kB (jw t.Op t.Names (bM t c) t.Args.length).2.1)=_
   unfold bI
   rw[vae (by simp)]
 ·rw[vae (by simpa using ho),AE _ (by omega),LX c _ (by unfold bq;omega) (by unfold bq;omega),QV c _ (by omega) (fun q hq=>by have:=QZ hq;unfold bq;omega) (by unfold bq;omega)]
  simp only[vaa]
  have hQ:=qcs ho t.Names (bM t c)
  unfold tg nY
  rw[qk t.Args (by omega) (fun i s=>(s,i)) _ (fun y=>R (⟨kN c,kB c⟩,y)) (fun y=>AC y c) id (fun i s=>rfl) (fun y hy=>by
   obtain⟨i,hi,rfl⟩:=vcK hy
   have:=hR i hi
   rw[hQ i]at this
   exact this)]
  simp only[vaa,id]
  rw[UP]
  simp only[hQ]
  congr 2
  exact(Hn (fun y=>AC y c) t.Args 0).symm
def rS(x:ag)(q:aa):Sb:=if x=[118]then[]else[(x,q)]
theorem Zk(x:ag)(q:aa):(kN (rS x q)).Nodup:=by unfold rS;split<;>simp[kN]
theorem qg0(x:ag)(q:aa):nL (kB (rS x q))<=nP q:=by
 unfold rS
 split
 ·simp[kB,nL]
 ·simp[kB,nL]
theorem qbr(t:ae)(x:ag)(q:aa)(h:qbh t (rS x q)):tN t x q=some (AC t (rS x q)):=by
 unfold tN tf
 rw[show N2 ([x]:List ag) none (some (if(([q]:List aa).length:Int)<(([x]:List ag).length:Int)then(([q]:List aa).length:Int)else(([x]:List ag).length:Int)))=some [x]from rfl,show N2 ([q]:List aa) none (some (if(([q]:List aa).length:Int)<(([x]:List ag).length:Int)then(([q]:List aa).length:Int)else(([x]:List ag).length:Int)))=some [q]from rfl]
 simp only[vaa]
 have hw:=MA [([118]:ag)] [(x,q)] (by simp) (by simp)
 have he:KF [([118]:ag)] [(x,q)]=rS x q:=by
  unfold KF rS
  simp only[List.foldl_cons,List.foldl_nil,va3,kN,vbW,vaH,or_false,vaC]
 rw[he]at hw
 have hw':ce ⟨[x],[q]⟩ [([118]:ag)]=some ⟨kN (rS x q),kB (rS x q)⟩:=hw
 rw[hw']
 simp only[vaa]
 rw[qfe t _ h]
 rfl
theorem Ze(x:ag)(c:Sb)(i:Nat)(h:i<c.length):cY x (c.take (i+1))=if c[i].1=x then cY x (c.take i)else cY x (c.take i)++[c[i]]:=by
 unfold cY
 rw[vaM h,List.filter_append,vbd]
 by_cases hx:c[i].1=x
 ·rw[vad hx,vae (by simp[hx]),List.filter_nil,va1]
 ·rw[vae hx,vad (by simpa using hx),List.filter_nil]
theorem qbK(x:ag)(c:Sb)(hc:c.length<=1000000000):Jf ⟨kN c,kB c⟩ x=some ⟨kN (cY x c),kB (cY x c)⟩:=by
 unfold Jf Er
 have hl:(kN c).length=c.length:=vaF ..
 have hlb:(kB c).length=c.length:=vaF ..
 have:=J5 c.length (by omega) (fun i (s:List ag×List aa)=>(i,s.1,s.2)) (fun(zz:Int×(List ag)×(List aa))=>je x ⟨kN c,kB c⟩ (kN c) ((kN c).length:Int) zz.1 zz.2.1 zz.2.2)
  (fun i=>(kN (cY x (c.take i)),kB (cY x (c.take i)))) (kN (cY x c),kB (cY x c)) (fun i hi=>?_) ?_
 ·rw[show(cY x (c.take 0))=[]from rfl]at this
  rw[show(((0:Int),([]:List ag),([]:List aa)):Int×(List ag)×(List aa))=(0,kN [],kB [])from rfl,this]
  rfl
 ·show je x ⟨kN c,kB c⟩ (kN c) ((kN c).length:Int) (i:Int) (kN (cY x (c.take i))) (kB (cY x (c.take i)))=_
  unfold je Ep
  have hw:(cY x (c.take i)).length<=(c.take i).length:=vaW ..
  rw[vaO]at hw
  have hkl:(kN (cY x (c.take i))).length=(cY x (c.take i)).length:=vaF ..
  have hkb:(kB (cY x (c.take i))).length=(cY x (c.take i)).length:=vaF ..
  rw[vad (by simp;omega),bo (kN c) i (by omega)]
  simp only[vaa]
  rw[vad (vbk (show(i:Int)<((kB c).length:Int) by omega))]
  simp only[vaa]
  have hg:(kN c)[i]'(by omega)=c[i].1:=by simp[kN]
  have hb:(kB c)[i]'(by omega)=c[i].2:=by simp[kB]
  rw[hg,Ze x c i hi]
  by_cases h1:c[i].1=x
  ·have h1':(c[i].1==x)=true:=by simpa using h1
   rw[vad h1,vae (by rw[h1'];decide)]
  ·have h1':(c[i].1==x)=false:=by simpa using h1
   simp only[h1',h1,vbT,if_true,if_false]
   rw[cN (by simp;omega)]
   simp only[vaa]
   rw[bo (kB c) i (by omega)]
   simp only[vaa,hb]
   rw[cN (by simp;omega)]
   simp[kN,kB]
 ·show je x ⟨kN c,kB c⟩ (kN c) ((kN c).length:Int) (c.length:Int) (kN (cY x (c.take c.length))) (kB (cY x (c.take c.length)))=_
  unfold je
  rw[vae (by simp),vbr (vah _)]
theorem qbJ(x:ag)(c:Sb)(h:nL (kB c)<=200000000):FK ⟨kN c,kB c⟩ x=some (xC x c):=by
 unfold FK BO
 have hl:=Cx (kB c)
 rw[qbc (kB c) (by omega) (fun zz=>xi x (kB c) ((kB c).length:Int) zz) (fun i y=>(tU y).bind fun r3=>(gI r3 x).bind fun r4=>if(decide (r4>=0))=true then some (.inr (.inl ()))else some (.inl (aR (i+1)))) (fun y=>decide (x∈On y)) (.inl ()) (.inr ()) (fun i=>rfl) (fun y hy i=>by
  have h1:=Cy hy
  have h2:=lE y
  rw[Q7 y (by omega)]
  simp only[vaa]
  obtain⟨r,e1,_,e2⟩:=XP (l:=d7 y) (v:=x) (by omega)
  rw[e1]
  simp only[vaa,e2,AI]
  by_cases hx:x∈On y<;>simp[hx])]
 simp only[vaa]
 have he:(kB c).any (fun y=>decide (x∈On y))=xC x c:=by
  unfold xC kB
  rw[List.any_map]
  rfl
 rw[he]
 cases xC x c<;>rfl
theorem qbM(l:List aa)(h:nL l<=200000000):∃k,FL l=some k/\k.length<=nL l/\∀x,x∈k↔x∈l.flatMap d7:=by
 unfold FL BQ
 have hl:=Cx l
 rw[ik l (by omega) (fun i s=>(s,i)) _ (fun i s y=>(tU y).bind fun r3=>(gj s r3).bind fun r4=>some (.inl (r4,aR (i+1)))) (fun i s=>s.length<=nL (l.take i)) (fun y s=>kq s (d7 y)) id [] (by simp[nL]) (fun i s=>rfl) (fun i hi s hs=>?_)]
 ·obtain⟨f1,f2⟩:=yX d7 l [] Vf
  refine⟨_,rfl,?_,fun x=>?_⟩
  ·have key:∀(l:List aa) (a:List ag),(l.foldl (fun s y=>kq s (d7 y)) a).length<=a.length+nL l:=by
    intro l
    induction l with
    |nil=>intro a;simp
    |cons y l ih=>
     intro a
     have g2:=lE y
     have g3:=ih (kq a (d7 y))
     have g4:=mY a (d7 y)
     rw[List.foldl_cons,nL]
     omega
   have:=key l []
   simpa using this
  ·show x∈l.foldl (fun s y=>kq s (d7 y)) []↔_
   rw[f2,vcu]
   simp
 ·have h1:=y4 l i hi
  have h2:=pU l (i+1)
  have h3:=lE l[i]
  have h4:=mY s (d7 l[i])
  refine⟨?_,by omega⟩
  rw[Q7 _ (by omega)]
  simp only[vaa]
  rw[ke _ _ (by omega) (by omega)]
  rfl
theorem qbZ(u w:List ag)(i:Nat)(hi:i<w.length)(hu:u.length<=400000000):yt u (i:Int) 1 w=some (kq u [w[i]]):=by
 have h:=ke u [w[i]] hu (by simp)
 unfold gj at h
 unfold yt
 have e1:wA u (u.length:Int) [] 0=qF u (u.length:Int) [] 0:=rfl
 rw[e1]
 cases h1:qF u (u.length:Int) [] 0 with
 |none=>rw[h1]at h;cases h
 | some o =>
  rw[h1]at h
  simp only[vaa]at h ⊢
  have hb:∀s (k:Nat),gY (i:Int) 1 (((1:Nat):Int)) w s (k:Int)=dy [w[i]] (([w[i]]:List ag).length:Int) s (k:Int):=by
   intro s k
   unfold gY dy
   by_cases hk:k=0
   ·subst hk
    rw[vad (by simp),vad (by simp)]
    have hm:qgN (i:Int) 1 w ((0:Nat):Int)=some w[i]:=by
     unfold qgN
     rw[vad ⟨by omega,by omega,by simp⟩]
     simp[hi]
    rw[hm,show cz [w[i]] ((0:Nat):Int)=some w[i]from rfl]
   ·rw[vae (by simp;omega),vae (by simp;omega)]
  have e2:qE (i:Int) 1 (((1:Nat):Int)) w o 0=qG [w[i]] (([w[i]]:List ag).length:Int) o 0:=by
   unfold qE qG
   have h0:=hb o 0
   rw[show((0:Nat):Int)=0 from rfl]at h0
   have e3:=km (fun(zz:(List ag)×Int)=>gY (i:Int) 1 (((1:Nat):Int)) w zz.1 zz.2) (o,0)
   have e4:=km (fun(zz:(List ag)×Int)=>dy [w[i]] (([w[i]]:List ag).length:Int) zz.1 zz.2) (o,0)
   rw[e3,e4,h0]
   cases hr:dy [w[i]] (([w[i]]:List ag).length:Int) o 0 with
   |none=>rfl
   | some r =>
    cases r with
    |inr y=>rfl
    | inl s =>
     simp only
     have hs:s.2=((1:Nat):Int):=by
      unfold dy at hr
      rw[vad (by simp),show cz [w[i]] 0=some w[i]from rfl]at hr
      simp only[vaa]at hr
      cases hp:yw o w[i]with
      |none=>rw[hp]at hr;cases hr
      |some q=>rw[hp]at hr;cases hr;rfl
     obtain⟨s1,s2⟩:=s
     simp only at hs
     subst hs
     have h1:=hb s1 1
     have e5:=km (fun(zz:(List ag)×Int)=>gY (i:Int) 1 (((1:Nat):Int)) w zz.1 zz.2) (s1,((1:Nat):Int))
     have e6:=km (fun(zz:(List ag)×Int)=>dy [w[i]] (([w[i]]:List ag).length:Int) zz.1 zz.2) (s1,((1:Nat):Int))
     rw[e5,e6,h1]
     have hz:dy [w[i]] (([w[i]]:List ag).length:Int) s1 ((1:Nat):Int)=some (.inr s1):=by
      unfold dy
      rw[vae (by simp)]
     rw[hz]
  rw[e2]
  exact h
def Yv(o:Int)(ns:List ag)(s:S3)(u:List ag):Nat->List ag
 |0=>u
 |i+1=>if(o=6/\i<ns.length)/\xC (ns.getD i []) (cY (ns.getD i []) (jw o ns s i).2.1)=true then kq (Yv o ns s u i) [eQ (jw o ns s i).1 (ns.getD i [])]else Yv o ns s u i
theorem ZE(o:Int)(ns:List ag)(s:S3)(u:List ag)(h:∀x,x∈u↔x∈s.1):∀i x,x∈Yv o ns s u i↔x∈(jw o ns s i).1
 |0,x=>h x
 | i + 1,x => by
  have ih:=ZE o ns s u h i
  show x∈Yv o ns s u (i+1)↔x∈(CW o ns i (jw o ns s i)).1
  rw[Yv]
  unfold CW
  by_cases h1:o=6/\i<ns.length
  ·by_cases h2:xC (ns.getD i []) (cY (ns.getD i []) (jw o ns s i).2.1)=true
   ·rw[vad ⟨h1,h2⟩,vad h1,vad h2,pw,ih]
    simp
   ·rw[vae (fun h=>h2 h.2),vad h1,vae h2,ih]
  ·rw[vae (fun h=>h1 h.1),vae h1,ih]
theorem ZD(o:Int)(ns:List ag)(s:S3)(u:List ag):∀i,(Yv o ns s u i).length<=u.length+i
 |0=>by simp[Yv]
 | i + 1 => by
  have ih:=ZD o ns s u i
  rw[Yv]
  split
  ·have:=mY (Yv o ns s u i) [eQ (jw o ns s i).1 (ns.getD i [])]
   simp only[List.length_singleton]at this
   omega
  ·omega
theorem XK(c:Sb)(l:List aa)(hl:l.length<=1073741824)(hp:∀p∈l,nP p<=bq)(hc:c.length<=bq):qS l (l.length:Int) (kN c) (kB c) 0 []=some (l.map (GM (ph (kN c) (kB c)))):=by
 unfold qS
 have h1:(kN c).length=c.length:=vaF ..
 rw[qk l hl (fun i s=>(i,s)) _ (fun y=>nk y (kN c) (kB c)) (GM (ph (kN c) (kB c))) id (fun i s=>rfl) (fun y hy=>VJ y _ _ (hp y hy) (by unfold bq at hc;omega))]
 rfl
theorem XL(t:ae)(c:Sb)(h:qbh t c):Eo t ⟨kN c,kB c⟩=some (AC t c):=by
 have hbig:cn t<qee:=ed (by have:=h.sz;unfold bq;omega)
 refine(eP (F:=zL) (fun x=>cn x.1) (fun x=>∃c,x.2=⟨kN c,kB c⟩/\qbh x.1 c) (fun x=>AC x.1 (x.2.Names.zip x.2.By)) (fun R x hx ih=>?_) (t,⟨kN c,kB c⟩) ⟨c,rfl,h⟩ hbig).trans (by
  show some (AC t ((kN c).zip (kB c)))=_
  rw[yf])
 obtain⟨t,s⟩:=x
 obtain⟨c,hs,h⟩:=hx
 have hs:s=⟨kN c,kB c⟩:=hs
 have h:qbh t c:=h
 subst hs
 show tz (fun t c=>R (t,c)) t ⟨kN c,kB c⟩=some (AC t ((kN c).zip (kB c)))
 rw[yf]
 have hR:∀(i:Nat) (hi:i<t.Args.length),R (t.Args[i],⟨kN (jw t.Op t.Names (bM t c) i).2.1,kB (jw t.Op t.Names (bM t c) i).2.1⟩)=some (AC t.Args[i] (jw t.Op t.Names (bM t c) i).2.1):=fun i hi=>by
  have:=ih (t.Args[i],⟨kN (jw t.Op t.Names (bM t c) i).2.1,kB (jw t.Op t.Names (bM t c) i).2.1⟩) (gy (vak hi)) ⟨_,rfl,Vs h i hi⟩
  rw[this]
  show some (AC t.Args[i] ((kN (jw t.Op t.Names (bM t c) i).2.1).zip (kB (jw t.Op t.Names (bM t c) i).2.1)))=_
  rw[yf]
 have l1:=fA t
 have l2:=iL t
 have l3:=AV t
 have hsz:nL (kB c)+cn t<=20000000:=h.sz
 have hw:wT t<=20000000:=h.w
 have hnd:=h.nd
 have hp:=qfX (t:=t)
 have hcl:=Qi c
 have hknl:(kN c).length=c.length:=vaF ..
 unfold tz
 rw[VJ _ _ _ (by unfold bq;omega) (show(kN c).length<9223372036854775808 by omega)]
 simp only[vaa]
 rw[XK c _ (by omega) (fun q hq=>by have:=QZ hq;unfold bq;omega) (by unfold bq;omega)]
 simp only[vaa]
 rw[cN (by simp;omega)]
 simp only[vaa,vaC]
 obtain⟨kn,hk1,hk2,hk3⟩:=qbM (kB c) (by omega)
 rw[hk1,qbL t (by omega) (by omega)]
 simp only[vaa]
 have f2:=qj t
 have f3:=mY kn (freeT t)
 rw[ke _ _ (by omega) (by omega)]
 simp only[vaa]
 rw[ke _ _ (by omega) (by omega)]
 simp only[vaa]
 have hu0:∀x,x∈kq (kq kn (freeT t)) t.Names↔x∈(bM t c).1:=fun x=>by
  unfold bM
  rw[pw,pw,hk3,vaE,vaE]
 have hul0:=mY (kq kn (freeT t)) t.Names
 generalize kq (kq kn (freeT t)) t.Names=u0 at hu0 hul0
 unfold xh
 have hloop:=J5 t.Args.length (by omega) (fun i (s:List ag×List ag×List aa×List ae×List ag)=>(s.1,i,s.2.1,s.2.2.1,s.2.2.2.1,s.2.2.2.2)) (fun(zz:(List ag)×Int×(List ag)×(List aa)×(List ae)×List ag)=>eJ (fun t c=>R (t,c)) t t.Args (t.Args.length:Int) t.Names.length zz.1 zz.2.1 zz.2.2.1 zz.2.2.2.1 zz.2.2.2.2.1 zz.2.2.2.2.2)
  (fun i=>(Yv t.Op t.Names (bM t c) u0 i,kN (jw t.Op t.Names (bM t c) i).2.1,kB (jw t.Op t.Names (bM t c) i).2.1,Yu t c i,(jw t.Op t.Names (bM t c) i).2.2))
  (kN (jw t.Op t.Names (bM t c) t.Args.length).2.1,kB (jw t.Op t.Names (bM t c) t.Args.length).2.1,Yu t c t.Args.length,(jw t.Op t.Names (bM t c) t.Args.length).2.2) (fun i hi=>?_) ?_
 ·have hloop':loop (fun(zz:(List ag)×Int×(List ag)×(List aa)×(List ae)×List ag)=>eJ (fun t c=>R (t,c)) t t.Args (t.Args.length:Int) t.Names.length zz.1 zz.2.1 zz.2.2.1 zz.2.2.2.1 zz.2.2.2.2.1 zz.2.2.2.2.2) (u0,0,kN c,kB c,[],t.Names)=_:=hloop
  rw[hloop']
  simp only[vaa]
  rw[LC _ _ (by rw[WL];rfl)]
  simp only[vaa]
  rw[UP,Zz]
 ·show eJ (fun t c=>R (t,c)) t t.Args (t.Args.length:Int) t.Names.length (Yv t.Op t.Names (bM t c) u0 i) (i:Int) (kN (jw t.Op t.Names (bM t c) i).2.1) (kB (jw t.Op t.Names (bM t c) i).2.1) (Yu t c i) (jw t.Op t.Names (bM t c) i).2.2=_
  unfold eJ
  rw[vad (by simp;omega),bo _ i hi]
  simp only[vaa]
  rw[hR i hi]
  simp only[vaa]
  have hal:=ZA t c i (by omega)
  rw[cN (by simp;omega)]
  simp only[vaa]
  rw[WK t c i hi]
  have hq:jw t.Op t.Names (bM t c) (i+1)=CW t.Op t.Names i (jw t.Op t.Names (bM t c) i):=rfl
  have hU:Yv t.Op t.Names (bM t c) u0 (i+1)=_:=Yv.eq_2 t.Op t.Names (bM t c) u0 i
  have hUm:=ZE t.Op t.Names (bM t c) u0 hu0 i
  have hUl:=ZD t.Op t.Names (bM t c) u0 i
  have hQn:=ZB t.Op t.Names (bM t c) i
  have hQu:=ZC t.Op t.Names (bM t c) i
  have hQw:=WL t.Op t.Names (bM t c) i
  have hQd:=F0 t.Op t.Names (bM t c) hnd i
  have hst:=VQ t c
  have hn0:nL (kB (bM t c).2.1)=nL (kB c):=rfl
  have hw0:(bM t c).2.2=t.Names:=rfl
  rw[hw0]at hQw
  generalize Yv t.Op t.Names (bM t c) u0 i=U at hU hUm hUl ⊢
  generalize jw t.Op t.Names (bM t c) i=S at hq hU hUm hQn hQu hQw hQd ⊢
  obtain⟨u,cc,w⟩:=S
  simp only at hQn hQu hQw hQd hUm hU ⊢
  have hccl:=Qi cc
  unfold xg
  by_cases ho:t.Op=6
  ·rw [vae (by simpa using ho)]
   simp only[vaa]
   by_cases hi2:i<t.Names.length
   ·rw[vae (by simp;omega),bo _ i hi2]
    simp only[vaa]
    rw[qbK _ cc (by omega)]
    simp only[vaa]
    have hd:=Ok t.Names[i] cc
    rw[qbJ _ _ (by omega)]
    simp only[vaa]
    have hnl:t.Names[i].length<=1000000000000000:=((Aw _ t).1 h.n).1 _ (vak hi2)
    unfold CW at hq
    rw[vad ⟨ho,hi2⟩,Cn _ i hi2]at hq
    rw[Cn _ i hi2]at hU
    by_cases hcm:xC t.Names[i] (cY t.Names[i] cc)=true
    ·rw[vad hcm]at hq ⊢
     rw[vad ⟨⟨ho,hi2⟩,hcm⟩]at hU
     rw[(Al U t.Names[i] (by omega) (by omega)).2.1,JS hUm]
     simp only[vaa]
     rw[LD _ w i (by omega) (by omega)]
     simp only[vaa]
     rw[VV w i _ (by omega)]
     simp only[vaa]
     rw[show qd0 t.Names.length (i:Int) (aR ((i:Int)+1))=some 1 by
      rw[dB (by omega) (by omega)]
      unfold qd0
      rw[vad ⟨by omega,by omega,by omega⟩]
      congr 1;omega]
     simp only[vaa]
     rw[qbZ U (w.set i (eQ u t.Names[i])) i (by rw[vbq];omega) (by omega),vbX]
     simp only[vaa]
     have k1:(kN (cY t.Names[i] cc)).length=(cY t.Names[i] cc).length:=vaF ..
     have k2:(kB (cY t.Names[i] cc)).length=(cY t.Names[i] cc).length:=vaF ..
     have k3:(cY t.Names[i] cc).length<=cc.length:=vaW ..
     rw[cN (by simp;omega)]
     simp only[vaa]
     rw[LD _ (w.set i (eQ u t.Names[i])) i (by omega) (by rw[vbq];omega),vbX]
     simp only[vaa]
     rw[cN (by simp;omega)]
     simp only[vaa]
     rw[hq,hU]
     simp[kN,kB,lN]
    ·rw[vae hcm]at hq ⊢
     rw[vae (fun h=>hcm h.2)]at hU
     rw[hq,hU]
   ·rw[vad (by simp;omega),hq,hU,vae (fun h=>hi2 h.1.2)]
    unfold CW
    rw[vae (fun h=>hi2 h.2)]
  ·rw[vad (by simpa using ho)]
   simp only[vaa,if_true]
   rw[hq,hU,vae (fun h=>ho h.1.1)]
   unfold CW
   rw[vae (fun h=>ho h.1)]
 ·show eJ (fun t c=>R (t,c)) t t.Args (t.Args.length:Int) t.Names.length (Yv t.Op t.Names (bM t c) u0 t.Args.length) (t.Args.length:Int) (kN (jw t.Op t.Names (bM t c) t.Args.length).2.1) (kB (jw t.Op t.Names (bM t c) t.Args.length).2.1) (Yu t c t.Args.length) (jw t.Op t.Names (bM t c) t.Args.length).2.2=_
  unfold eJ
  rw[vae (by simp)]
theorem qbH(t:ae)(x:ag)(q:aa)(h:qbh t (rS x q)):FJ t x q=some (AC t (rS x q)):=by
 unfold FJ BN uQ
 have hb:ej [q] [x] (([x]:List ag).length:Int) 0 [] []=some (.inl (aR (0+1),kN (rS x q),kB (rS x q))):=by
  unfold ej uP rS
  rw[vad (by simp),show cz [x] 0=some x from rfl]
  simp only[vaa]
  rw[vad (by simp)]
  by_cases hx:x=[118]
  ·have hx':(x==([118]:ag))=true:=by simpa using hx
   simp only[hx',vb3,va6,if_false,vaa]
   rw[vad hx]
   rfl
  ·have hx':(x==([118]:ag))=false:=by simpa using hx
   simp only[hx',vbT,if_true]
   rw[Q6 [] x (by simp)]
   rw[vae hx]
   rfl
 have he:ej [q] [x] (([x]:List ag).length:Int) (aR (0+1)) (kN (rS x q)) (kB (rS x q))=some (.inr (kN (rS x q),kB (rS x q))):=by
  unfold ej
  rw[show(([x]:List ag).length:Int)=1 from rfl,vae (by decide)]
 rw[ql (body:=fun(zz:Int×(List ag)×(List aa))=>ej [q] [x] (([x]:List ag).length:Int) zz.1 zz.2.1 zz.2.2) (s:=(0,[],[])) (s':=(aR (0+1),kN (rS x q),kB (rS x q))) hb]
 rw[jV (body:=fun(zz:Int×(List ag)×(List aa))=>ej [q] [x] (([x]:List ag).length:Int) zz.1 zz.2.1 zz.2.2) he]
 simp only[vaa]
 rw[XL t _ h]
 rfl
mutual
def nC:ai->Nat
 |⟨_,_,_,p,_,ks⟩=>nP p+yj ks+1
def yj:List ai->Nat
 |[]=>0
 |c::cs=>nC c+yj cs
end
theorem QC(c:ai):nC c=nP c.Pred+yj c.Kids+1:=by obtain⟨o,n,s,p,t,ks⟩:=c;rw[nC];rfl
theorem qgS(c:ai):1<=nC c:=by rw[QC];omega
theorem Oj:∀{l:List ai} {x:ai},x∈l->nC x<=yj l
 | y :: l,x,h => by
  rw[yj]
  rcases vaw.1 h with rfl|h
  ·omega
  ·have:=Oj h;omega
theorem J8:∀(l:List ai),l.length<=yj l
 |[]=>by simp[yj]
 |p::l=>by rw[yj];have:=J8 l;have:=qgS p;simp only[vaP];omega
theorem QB:∀(a b:List ai),yj (a++b)=yj a+yj b
 |[],b=>by simp[yj]
 |p::a,b=>by rw[vaG,yj,QB a b,yj];omega
theorem E2:∀(l:List ai) (i:Nat),yj (l.take i)<=yj l
 |[],i=>by simp
 |x::l,0=>by simp[yj]
 |x::l,i+1=>by rw[List.take_succ_cons,yj,yj];have:=E2 l i;omega
theorem Oc{c x:ai}(h:x∈c.Kids):nC x<nC c:=by rw[QC c];have:=Oj h;omega
theorem S1(c:ai):c.Kids.length<nC c:=by rw[QC];have:=J8 c.Kids;omega
theorem qaY(c:ai):(⟨c.Op,c.Name,c.Sort_,c.Pred,c.Tag,c.Kids⟩:ai)=c:=by obtain⟨o,n,s,p,t,ks⟩:=c;rfl
theorem PX(c:ai):(⟨c.Op,c.Name,c.Sort_,⟨c.Pred.Op,c.Pred.Name,c.Pred.N,c.Pred.Kids⟩,c.Tag,c.Kids⟩:ai)=c:=by obtain⟨o,n,s,p,t,ks⟩:=c;rw[wq];rfl
mutual
theorem qal:∀(p:aa),GM (ph [] []) p=p
 |⟨o,n,k,ks⟩=>by
  rw[GM,XV ks]
  split<;>rfl
theorem XV:∀(l:List aa),qaj (ph [] []) l=l
 |[]=>by rw[qaj]
 |p::l=>by rw[qaj,qal p,XV l]
end
theorem PO(c:ai)(h:nC c<=bq):lV c=some c:=by
 refine eP (F:=nW) nC (fun c=>nC c<=bq) id (fun R c hc ih=>?_) c h (ed h)
 show jz (fun c=>R c) c=some c
 unfold jz mJ
 have h1:=QC c
 have h2:=S1 c
 unfold bq at hc
 rw[VE c.Pred [] [] (by unfold bq;omega) (by simp) (by simp),qal]
 simp only[vaa]
 rw[qk c.Kids (by omega) (fun i s=>(i,s)) _ R id id (fun i s=>rfl) (fun x hx=>ih x (Oc hx) (by have:=Oc hx;unfold bq;omega)),List.map_id]
 simp only[vaa,id]
 rw[qaY]
abbrev MC:ai:=⟨0,[],[],gQ,0,[]⟩
abbrev Db(ks:List ai):ai:=⟨1,[],[],gQ,0,ks⟩
abbrev JU(p:aa)(tag:Int):ai:=⟨3,[],[],p,tag,[]⟩
abbrev Ss(x s:ag)(p:aa)(c:ai):ai:=⟨2,x,s,p,0,[c]⟩
mutual
def Jx:ai->List ai
 |⟨o,n,s,p,t,ks⟩=>if o=2\/o=3 then[⟨o,n,s,p,t,ks⟩]else fO ks
def fO:List ai->List ai
 |[]=>[]
 |c::cs=>Jx c++fO cs
end
theorem WE(c:ai):Jx c=if c.Op=2\/c.Op=3 then[c]else fO c.Kids:=by obtain⟨o,n,s,p,t,ks⟩:=c;rw[Jx];rfl
mutual
theorem qew:∀(c:ai),yj (Jx c)<=nC c
 | ⟨o,n,s,p,t,ks⟩ => by
  have:=Jz ks
  rw[Jx]
  split
  ·simp[yj]
  ·rw[nC];omega
theorem Jz:∀(l:List ai),yj (fO l)<=yj l
 |[]=>by simp[fO]
 |c::l=>by
  have:=qew c
  have:=Jz l
  rw[fO,QB,yj];omega
end
theorem Jy:∀(a b:List ai),fO (a++b)=fO a++fO b
 |[],b=>by simp[fO]
 |c::a,b=>by rw[vaG,fO,Jy a b,fO,vba]
theorem PE(l:List ai)(i:Nat)(h:i<l.length):fO (l.take (i+1))=fO (l.take i)++Jx l[i]:=by
 rw[vaM h,Jy]
 simp[fO]
theorem P8:∀(l s:List ai),l.foldl (fun s x=>s++Jx x) s=s++fO l
 |[],s=>by simp[fO]
 |c::l,s=>by rw[List.foldl_cons,P8 l,fO,vba]
theorem SY(l:List ai):(fO l).length<=yj l:=vaI (J8 _) (Jz l)
theorem Zy(l:List ai)(h:yj l<=bq):rl l=some (Db (fO l)):=by
 refine eP (F:=sR) yj (fun l=>yj l<=bq) (fun l=>Db (fO l)) (fun R l hl ih=>?_) l h (ed h)
 show nA (fun a=>R a) l=some (Db (fO l))
 unfold nA rm
 have h2:=J8 l
 unfold bq at hl
 rw[ik l (by omega) (fun i s=>(i,s)) _ (fun i s x=>(lU x.Op).bind fun o4=>if o4=true then(lV x).bind fun r7=>(app s ([r7]:List ai)).bind fun l8=>some (.inl (aR (i+1),l8))else(R x.Kids).bind fun r9=>(app s r9.Kids).bind fun l10=>some (.inl (aR (i+1),l10))) (fun i s=>s=fO (l.take i)) (fun x s=>s++Jx x) id [] (by simp[fO]) (fun i s=>rfl) (fun i hi s hs=>?_),P8]
 ·rfl
 ·have h3:=Oj (vak hi)
  have h4:=QC l[i]
  have h5:=PE l i hi
  have h6:=SY (l.take (i+1))
  have h7:=E2 l (i+1)
  rw[h5,vag,<-hs]at h6
  refine⟨?_,by rw[hs,h5]⟩
  have e:=WE l[i]
  unfold lU
  by_cases c2:l[i].Op=2
  ·rw[vad (by simpa using c2)]
   rw[vad (.inl c2)]at e
   simp only[vaa,if_true]
   rw[PO _ (by unfold bq;omega)]
   simp only[vaa]
   rw[e]at h6 ⊢
   rw[cN (by omega)]
   rfl
  ·rw[vae (by simpa using c2)]
   simp only[vaa]
   by_cases c3:l[i].Op=3
   ·rw[vad (by simpa using c3),PO _ (by unfold bq;omega)]
    rw[vad (.inr c3)]at e
    simp only[vaa]
    rw[e]at h6 ⊢
    rw[cN (by omega)]
    rfl
   ·rw[vae (by simpa using c3),ih l[i].Kids (by omega) (by unfold bq;omega)]
    rw[vae (by simp[c2,c3])]at e
    simp only[vaa]
    rw[e]at h6 ⊢
    show(app s (fO l[i].Kids)).bind _=_
    rw[cN (by omega)]
    rfl
theorem TH(l:List ai)(h:yj l<=bq):N8 l=some (Db (fO l)):=by
 refine eP (F:=Ln) yj (fun l=>yj l<=bq) (fun l=>Db (fO l)) (fun R l hl ih=>?_) l h (ed h)
 show FM (fun a=>R a) l=some (Db (fO l))
 unfold FM HT
 have h2:=J8 l
 unfold bq at hl
 rw[ik l (by omega) (fun i s=>(i,s)) _ (fun i s x=>(BU x).bind fun o4=>if o4=true then(app s ([x]:List ai)).bind fun l8=>some (.inl (aR (i+1),l8))else(R x.Kids).bind fun r9=>(app s r9.Kids).bind fun l10=>some (.inl (aR (i+1),l10))) (fun i s=>s=fO (l.take i)) (fun x s=>s++Jx x) id [] (by simp[fO]) (fun i s=>rfl) (fun i hi s hs=>?_),P8]
 ·rfl
 ·have h3:=Oj (vak hi)
  have h4:=QC l[i]
  have h5:=PE l i hi
  have h6:=SY (l.take (i+1))
  have h7:=E2 l (i+1)
  rw[h5,vag,<-hs]at h6
  refine⟨?_,by rw[hs,h5]⟩
  have e:=WE l[i]
  unfold BU
  by_cases c2:l[i].Op=2
  ·rw[vad (by simpa using c2)]
   rw[vad (.inl c2)]at e
   simp only[vaa,if_true]
   rw[e]at h6 ⊢
   rw[cN (by omega)]
   rfl
  ·rw[vae (by simpa using c2)]
   simp only[vaa]
   by_cases c3:l[i].Op=3
   ·rw[vad (by simpa using c3)]
    rw[vad (.inr c3)]at e
    rw[e]at h6 ⊢
    rw[cN (by omega)]
    rfl
   ·rw[vae (by simpa using c3),ih l[i].Kids (by omega) (by unfold bq;omega)]
    rw[vae (by simp[c2,c3])]at e
    simp only[vaa]
    rw[e]at h6 ⊢
    show(app s (fO l[i].Kids)).bind _=_
    rw[cN (by omega)]
    rfl
theorem Zi(c:ai)(h:nC c<=bq):BS c c=some true:=by
 refine eP (F:=xl) (fun x=>nC x.1) (fun x=>nC x.1<=bq/\x.2=x.1) (fun _=>true) (fun R x hx ih=>?_) (c,c) ⟨h,rfl⟩ (ed h)
 obtain⟨c,d⟩:=x
 obtain⟨hc,hd⟩:=hx
 have hd:d=c:=hd
 subst hd
 have hc:nC d<=bq:=hc
 have h1:=QC d
 have h2:=S1 d
 show qT (fun a a2=>R (a,a2)) d d=some true
 unfold qT uR uS
 rw[vae (by simp),vae (by simp),vae (by simp),vae (by simp),Q8 _ _ (by unfold bq at hc ⊢;omega)]
 simp only[vaa,decide_true,vb3,va6,if_false]
 have e:loop (fun zz=>iT (fun a a2=>R (a,a2)) d d zz) 0=some (Sum.inr ():Unit⊕Unit):=by
  refine qc9 d.Kids (by unfold bq at hc;omega) _ (Sum.inr ():Unit⊕Unit) (fun i hi=>?_) ?_
  ·unfold iT
   rw[vad (by simp;omega),bo _ i hi]
   simp only[vaa]
   rw[ih (d.Kids[i],d.Kids[i]) (Oc (vak hi)) ⟨by have:=Oc (vak hi);show nC d.Kids[i]<=bq;omega,rfl⟩]
   rfl
  ·unfold iT
   rw[vae (by simp)]
 rw[vae (by simp),e]
 rfl
theorem X0{X:Type}(n:Nat)(hn:n<9223372036854775808){body:Int->Option (Int⊕X)}(k:Int->Option (Int⊕X))(e:X)(hb:∀i:Int,body i=if decide (i<(n:Int))=true then k i else some (.inr e))
  (hk:∀i:Nat,i<n->fy (k (i:Int)) (fun r=>match r with|.inl t=>t=aR ((i:Int)+1)|.inr _=>True)):fy (loop body 0) (fun _=>True):=by
 have e1:(List.replicate n ()).length=n:=List.length_replicate
 refine A0 (List.replicate n ()) (by omega) (fun i (_:Unit)=>i) (fun _ _=>True) (fun i hi s _=>?_) (fun s _=>?_) () trivial
 ·rw[e1]at hi
  rw[hb,vad (vbk (by omega))]
  exact(hk i hi).mono fun r hr=>by
   cases r with
   |inl t=>exact⟨(),hr,trivial⟩
   |inr _=>trivial
 ·rw[hb,vae (by rw[e1];simp)]
  exact aq trivial
theorem ws(c:Int):fy (ni c) (fun _=>True):=by unfold ni;exact aT (fun _=>aq trivial) (fun _=>aq trivial)
theorem F5(c:Int):fy (sD c) (fun _=>True):=by unfold sD;exact aT (fun _=>aq trivial) (fun _=>aq trivial)
theorem EN(c:Int):fy (qf c) (fun _=>True):=by unfold qf;exact aT (fun _=>aq trivial) (fun _=>aq trivial)
theorem iY{s:ag}{i:Nat}(h:i<s.length):fy (vZ s (i:Int)) (fun _=>True):=VU (qcQ s i h) trivial
theorem AJ{s:ag}(h:0<s.length):fy (vZ s 0) (fun _=>True):=iY (i:=0) h
theorem W5(s:ag):fy (yr s) (fun _=>True):=by
 unfold yr
 exact ax (R:=fun l=>l.length<9223372036854775808) ⟨_,rfl,by decide⟩ (fun l hl=>cT (qe l s hl) (aq trivial))
theorem Yw{s:ag}{i:Nat}(h:i<s.length):fy (qA s i) (fun _=>True):=by
 unfold qA
 exact ax (iY h) fun _ _=>ax (ws _) fun _ _=>aT (fun _=>ax (iY h) fun _ _=>ax (F5 _) fun _ _=>aT (fun _=>ax (iY h) fun _ _=>aq trivial) fun _=>aq trivial) fun _=>aq trivial
theorem SO(s:ag):fy (sw s) (fun _=>True):=by
 unfold sw
 refine ax (R:=fun o=>o=true\/s.length<=24) ?_ fun o ho=>aT (fun _=>aq trivial) fun hn=>?_
 ·unfold Bd
  refine aT (fun _=>aq (.inl rfl)) fun h1=>aT (fun _=>aq (.inl rfl)) fun h2=>?_
  rw[vao]at h1 h2
  exact ax (AJ (by omega)) fun _ _=>ax (ws _) fun _ _=>aT (fun _=>aq (.inl rfl)) fun _=>ax (W5 s) fun _ _=>aq (.inr (by omega))
 ·have hs:s.length<=24:=ho.resolve_left hn
  unfold Be
  refine ax (X0 s.length (by omega) (fun i=>(qA s i).bind fun o=>if o=true then some (.inr (.inl ()))else some (.inl (aR (i+1)))) (.inr ()) (fun i=>rfl) fun i hi=>ax (Yw hi) fun _ _=>aT (fun _=>aq trivial) fun _=>aq rfl) fun o _=>?_
  cases o<;>exact aq trivial
theorem Zl{s:ag}{i:Nat}(h:i<s.length):fy (qC s i) (fun _=>True):=by
 unfold qC
 exact ax (iY h) fun _ _=>ax (ws _) fun _ _=>aT (fun _=>ax (iY h) fun _ _=>ax (EN _) fun _ _=>aT (fun _=>ax (iY h) fun _ _=>ax (F5 _) fun _ _=>aq trivial) fun _=>aq trivial) fun _=>aq trivial
theorem qaC(s:ag):fy (FB s) (fun _=>True):=by
 unfold FB
 refine ax (R:=fun o=>o=true\/s.length<=24) ?_ fun o ho=>aT (fun _=>aq trivial) fun hn=>?_
 ·unfold Bg
  refine aT (fun _=>aq (.inl rfl)) fun h1=>aT (fun _=>aq (.inl rfl)) fun h2=>?_
  rw[vao]at h1 h2
  have h3:s.length<=24:=by omega
  exact ax (AJ (by omega)) fun _ _=>ax (EN _) fun _ _=>aT (fun _=>aq (.inl rfl)) fun _=>aT (fun _=>aq (.inl rfl)) fun _=>aT (fun _=>aq (.inl rfl)) fun _=>aT (fun _=>aq (.inl rfl)) fun _=>aq (.inr h3)
 ·have hs:s.length<=24:=ho.resolve_left hn
  unfold Bh
  refine ax (X0 s.length (by omega) (fun i=>(qC s i).bind fun o=>if o=true then some (.inr (.inl ()))else some (.inl (aR (i+1)))) (.inr ()) (fun i=>rfl) fun i hi=>ax (Zl hi) fun _ _=>aT (fun _=>aq trivial) fun _=>aq rfl) fun o _=>?_
  cases o<;>exact aq trivial
theorem qbs{s:ag}(b:Bool){i:Nat}(h:i<s.length):fy (yu s b i) (fun _=>True):=by
 unfold yu
 exact aT (fun _=>ax (iY h) fun _ _=>ax (ws _) fun _ _=>aT (fun _=>aq trivial) fun _=>ax (iY h) fun _ _=>ax (EN _) fun _ _=>aT (fun _=>aq trivial) fun _=>ax (iY h) fun _ _=>ax (F5 _) fun _ _=>aq trivial) fun _=>aq trivial
theorem qdm(s:ag):fy (IV s) (fun _=>True):=by
 unfold IV
 refine ax (R:=fun o=>o=true\/(0<s.length/\s.length<=24)) ?_ fun o ho=>aT (fun _=>aq trivial) fun hn=>?_
 ·unfold DE
  refine aT (fun _=>aq (.inl rfl)) fun h1=>aq ?_
  rw[vao]at h1
  by_cases h2:(s.length:Int)>24
  ·exact .inl (vbk h2)
  ·exact .inr ⟨by omega,by omega⟩
 ·obtain⟨h0,hs⟩:=ho.resolve_left hn
  refine ax (AJ h0) fun _ _=>ax (ws _) fun r6 _=>?_
  unfold DF
  refine ax (R:=fun _=>True) (A0 s (by omega) (fun i (z:Bool×Bool)=>(z.1,z.2,i)) (fun _ _=>True) (fun i hi z _=>?_) (fun z _=>?_) (true,r6) trivial) fun o _=>aT (fun _=>aq trivial) fun _=>aq trivial
  ·show fy (li s s.length z.1 z.2 i) _
   unfold li
   rw[vad (vbk (by omega))]
   exact ax (qbs _ hi) fun o _=>aT (fun _=>ax (iY hi) fun _ _=>ax (ws _) fun _ _=>aT (fun _=>aq ⟨(o,true),rfl,trivial⟩) fun _=>ax (iY hi) fun _ _=>ax (F5 _) fun _ _=>aT (fun _=>aq ⟨(o,true),rfl,trivial⟩) fun _=>ax (iY hi) fun c _=>aq ⟨(o,c==95),rfl,trivial⟩) fun _=>aq ⟨(o,false),rfl,trivial⟩
  ·show fy (li s s.length z.1 z.2 s.length) _
   unfold li
   rw[vae (by simp)]
   exact aq trivial
theorem XX{α:Type}(l:List α)(a b:Nat)(h:a<=b)(h2:b<=l.length):N2 l (some (a:Int)) (some (b:Int))=some ((l.take b).drop a):=by
 simp[N2,bd,h,h2]
theorem qbt(s:ag)(hs:s.length<=120):fy (FC s) (fun l=>l≠[]/\l.length<=121):=by
 unfold FC Bi
 refine ax (R:=fun o=>o.1.length<=s.length/\∃b:Nat,o.2=(b:Int)/\b<=s.length) (A0 s (by omega) (fun i (z:List ag×Int)=>(z.1,z.2,i)) (fun i z=>z.1.length<=i/\∃b:Nat,z.2=(b:Int)/\b<=i) (fun i hi z hz=>?_) (fun z hz=>?_) ([],0) ⟨vah _,0,rfl,vah _⟩) fun o ho=>?_
 ·obtain⟨out,bg⟩:=z
  obtain⟨h1,b,hb,hbi⟩:=hz
  simp only at h1 hb
  subst hb
  show fy (jI s s.length out b i) _
  unfold jI
  rw[vad (vbk (by omega))]
  refine ax (iY hi) fun c _=>aT (fun _=>?_) fun _=>aq ⟨(out,b),rfl,by simp only;omega,b,rfl,by omega⟩
  refine cT (XX s b i hbi (by omega)) (cT (cN (by simp;omega)) (aq ⟨(_,aR ((i:Int)+1)),rfl,by simp;omega,i+1,?_,vah _⟩))
  simp only
  rw[dB (by omega) (by omega)]
  omega
 ·obtain⟨out,bg⟩:=z
  show fy (jI s s.length out bg s.length) _
  unfold jI
  rw[vae (by simp)]
  exact aq hz
 ·obtain⟨h1,b,hb,hbi⟩:=ho
  rw[hb]
  exact cT (Ft s b hbi) (cT (cN (by simp;omega)) (aq ⟨by simp,by simp;omega⟩))
theorem qaT{v:List ag}(h:v≠[]):fy (yo v) (fun _=>True):=by
 obtain⟨x,r,rfl⟩:=List.exists_cons_of_ne_nil h
 unfold yo
 exact cT (JV x r) (ax (SO x) fun _ _=>aT (fun _=>cT (JV x r) (ax (qaC x) fun _ _=>aT (fun _=>cT (JV x r) (aT (fun _=>aq trivial) fun _=>aq trivial)) fun _=>aq trivial)) fun _=>aq trivial)
theorem qcy:tS []=some 3:=by kernel_rfl
theorem Wa(s:ag):fy (tS s) (fun r=>(r==0)=true->0<s.length):=by
 by_cases hs:s=[]
 ·subst hs
  exact VU qcy fun h=>by simp at h
 have hp:0<s.length:=vcL.2 hs
 unfold tS
 refine aT (fun _=>aq fun _=>hp) fun h1=>?_
 rw[vao]at h1
 refine ax (qbt s (by omega)) fun l hl=>ax (qaT hl.1) fun _ _=>aT (fun _=>aq fun _=>hp) fun _=>?_
 have h2:1<=l.length:=vcL.2 hl.1
 refine cT (Ft l 1 h2) ?_
 unfold DA
 refine ax (tn (l.drop 1) (by simp;omega) _ (fun _=>True) (fun _=>True) (fun i=>rfl) (fun x hx i=>ax (qdm x) fun _ _=>aT (fun _=>aq trivial) fun _=>aq ⟨rfl,trivial⟩)) fun o _=>?_
 cases o<;>exact aq fun _=>hp
theorem T6(l:List ag)(hl:l.length<9223372036854775808):fy (vF l) (fun _=>True):=by
 unfold vF uD
 refine ax (tn l hl _ (fun _=>True) (fun _=>True) (fun i=>rfl) (fun x hx i=>cT (qe l x hl) (aT (fun _=>aq trivial) fun _=>aq ⟨rfl,trivial⟩))) fun o _=>?_
 cases o<;>exact aq trivial
theorem qcx(s:ag)(b:Bool):fy (Ao s b) (fun _=>True):=by
 unfold Ao
 exact ax (Wa s) fun r hr=>aT (fun h=>ax (AJ (hr h)) fun _ _=>aT (fun _=>ax (AJ (hr h)) fun _ _=>aq trivial) fun _=>aq trivial) fun _=>aq trivial
theorem YC(t:ae)(ht:cn t<=bq):fy (KT t) (fun _=>True):=by
 refine px (F:=DV) cn (fun x=>cn x<=bq) (fun _ _=>True) (fun R x hx ih=>?_) t ht (ed ht)
 show fy (yE (fun t=>R t) x) _
 unfold yE Bw
 have h1:=fA x
 refine ax (R:=fun _=>True) (TV x.Args (by unfold bq at hx;omega) (fun i s=>(s,i)) (fun i s y=>(R y).bind fun r=>some (.inl ((if r>s then r else s),aR (i+1)))) id (fun _ _=>True) (fun i s=>rfl) (fun i hi s _=>?_) (fun _ _=>trivial) 0 trivial) (fun a _=>aq trivial)
 exact ax (ih _ (gy (vak hi)) (by have:=gy (vak hi);omega)) (fun a _=>aq ⟨_,rfl,trivial⟩)
theorem YZ(t:ae):fy (I0 t) (fun _=>True):=by
 unfold I0
 refine ax (R:=fun _=>True) ?_ fun _ _=>aT (fun _=>aq trivial) fun _=>ax (R:=fun _=>True) ?_ fun _ _=>aT (fun _=>aq trivial) fun _=>ax (R:=fun _=>True) ?_ fun _ _=>aT (fun _=>aq trivial) fun _=>ax (R:=fun _=>True) ?_ fun _ _=>aT (fun _=>aq trivial) fun _=>aq trivial
 ·unfold D5
  repeat' first|exact aq trivial|refine aT (fun _=>?_) (fun _=>?_)
 ·unfold D6
  repeat' first|exact aq trivial|refine aT (fun _=>?_) (fun _=>?_)
 ·unfold D7
  repeat' first|exact aq trivial|refine aT (fun _=>?_) (fun _=>?_)
 ·unfold D8
  repeat' first|exact aq trivial|refine aT (fun _=>?_) (fun _=>?_)|refine ax (qcx _ _) fun _ _=>?_
theorem YK(t:ae)(ht:cn t<=bq):fy (OY t) (fun _=>True):=by
 refine px (F:=HF) cn (fun x=>cn x<=bq) (fun _ _=>True) (fun R x hx ih=>?_) t ht (ed ht)
 show fy (BA (fun t=>R t) x) _
 unfold BA D3
 have h1:=fA x
 refine ax (YZ x) fun _ _=>aT (fun _=>aq trivial) fun _=>ax (tn x.Args (by unfold bq at hx;omega) _ (fun _=>True) (fun _=>True) (fun i=>rfl) (fun y hy i=>ax (ih _ (gy hy) (by have:=gy hy;omega)) fun _ _=>aT (fun _=>aq trivial) fun _=>aq ⟨rfl,trivial⟩)) fun o _=>?_
 cases o<;>exact aq trivial
theorem V9(t:ae)(ht:cn t<=bq):fy (FF t) (fun _=>True):=by
 unfold FF
 exact ax (YC t ht) fun _ _=>aT (fun _=>aq trivial) fun _=>ax (YK t ht) fun _ _=>aq trivial
theorem qc1(op n:Int):fy (qO op n) (fun r=>r=true->op=8->n=2):=by
 by_cases h:op=8
 ·subst h
  refine VU (a:=n==2) ?_ fun h _=>by simpa using h
  simp[qO,yA,yB,yC]
 ·unfold qO
  refine ax (R:=fun _=>True) ?_ fun _ _=>aT (fun _=>aq fun _ e=>absurd e h) fun _=>ax (R:=fun _=>True) ?_ fun _ _=>aT (fun _=>aT (fun _=>aq fun _ e=>absurd e h) fun _=>aq fun _ e=>absurd e h) fun _=>ax (R:=fun _=>True) ?_ fun _ _=>aT (fun _=>aq fun _ e=>absurd e h) fun _=>aq fun _ e=>absurd e h
  ·unfold yA
   repeat' first|exact aq trivial|refine aT (fun _=>?_) (fun _=>?_)
  ·unfold yB
   repeat' first|exact aq trivial|refine aT (fun _=>?_) (fun _=>?_)
  ·unfold yC
   repeat' first|exact aq trivial|refine aT (fun _=>?_) (fun _=>?_)
theorem Yt(p:aa):fy (Bu p) (fun _=>True):=by
 unfold Bu
 have hc:=fun s=>(Wa s).mono (R:=fun _=>True) fun _ _=>trivial
 repeat' first|exact aq trivial|refine aT (fun _=>?_) (fun _=>?_)|refine ax (hc _) fun _ _=>?_
theorem YY(p:aa):fy (IZ p) (fun _=>True):=by
 unfold IZ
 have hk:fy (qO p.Op (p.Kids.length:Int)) (fun r=>r=true->p.Op=8->0<p.Kids.length):=(qc1 _ _).mono fun r hr h1 h2=>by have:=hr h1 h2;omega
 have hn:∀r:Bool,(r=true->p.Op=8->0<p.Kids.length)->fy (some (!r)) (fun o=>o=true\/(p.Op=8->0<p.Kids.length)):=fun r hr=>by
  cases r with
  |false=>exact aq (.inl rfl)
  |true=>exact aq (.inr (hr rfl))
 refine ax (R:=fun _=>True) ?_ fun o3 _=>ax (R:=fun o=>o=true\/(p.Op=8->0<p.Kids.length)) ?_ fun o ho=>aT (fun _=>aq trivial) fun hno=>ax (R:=fun _=>True) ?_ fun _ _=>aT (fun _=>aq trivial) fun _=>ax (Yt p) fun _ _=>aT (fun _=>aq trivial) fun _=>ax (R:=fun _=>True) ?_ fun _ _=>aT (fun _=>aq trivial) fun _=>aq trivial
 ·unfold DR
  repeat' first|exact aq trivial|refine aT (fun _=>?_) (fun _=>?_)
 ·unfold DS
  have hm:fy (FE p.Op) (fun _=>True):=by
   unfold FE
   repeat' first|exact aq trivial|refine aT (fun _=>?_) (fun _=>?_)
  repeat' first|exact aq (.inl rfl)|refine aT (fun _=>?_) (fun _=>?_)|refine ax hm fun _ _=>?_|exact ax hk hn
 ·have hi:fy (Ub p.N) (fun _=>True):=by
   unfold Ub
   repeat' first|exact aq trivial|refine aT (fun _=>?_) (fun _=>?_)
  unfold DT
  repeat' first|exact aq trivial|refine aT (fun _=>?_) (fun _=>?_)|refine ax hi fun _ _=>?_
 ·unfold DU
  refine aT (fun h=>?_) fun _=>aq trivial
  exact cT (bo p.Kids 0 (ho.resolve_left hno (by simpa using h))) (aq trivial)
theorem YJ(p:aa)(hp:nP p<=bq):fy (OO p) (fun _=>True):=by
 refine px (F:=HD) nP (fun x=>nP x<=bq) (fun _ _=>True) (fun R x hx ih=>?_) p hp (ed hp)
 show fy (Bv (fun t=>R t) x) _
 unfold Bv DP
 have h1:=rx x
 refine ax (YY x) fun _ _=>aT (fun _=>aq trivial) fun _=>ax (tn x.Kids (by unfold bq at hx;omega) _ (fun _=>True) (fun _=>True) (fun i=>rfl) (fun y hy i=>ax (ih _ (pT hy) (by have:=pT hy;omega)) fun _ _=>aT (fun _=>aq trivial) fun _=>aq ⟨rfl,trivial⟩)) fun o _=>?_
 cases o<;>exact aq trivial
theorem V8(p:aa)(hp:nP p<=bq):fy (FD p) (fun _=>True):=by
 unfold FD
 exact cT (qdg p hp) (aT (fun _=>aq trivial) fun _=>cT (qcD p hp) (aT (fun _=>aq trivial) fun _=>ax (YJ p hp) fun _ _=>aq trivial))
theorem L9(p:aa):At p=some (decide (p=gQ)):=by
 unfold At
 have h1:qK p (⟨0,([]:ag),0,([]:List aa)⟩:aa)=some (decide (p=gQ)):=Q8 p gQ Z3
 rw[h1];rfl
mutual
def pu:ae->ae->Bool
 |⟨o,n,xs,ns,p,ps⟩,⟨o',n',xs',ns',p',ps'⟩=>decide (o=o')&&(decide (n=n')&&C5 xs xs')
def C5:List ae->List ae->Bool
 |[],[]=>true
 |a::xs,b::bs=>pu a b&&C5 xs bs
 |_,_=>false
end
theorem TP:∀(a b:List ae),C5 a b=Da pu a b
 |[],[]=>by rw[C5,Da]
 |a::xs,b::bs=>by rw[C5,Da,TP xs bs]
 |[],b::bs=>by simp[C5,Da]
 |a::xs,[]=>by simp[C5,Da]
theorem qai(a b:ae):pu a b=(decide (a.Op=b.Op)&&(decide (a.Name=b.Name)&&Da pu a.Args b.Args)):=by
 obtain⟨o,n,xs,ns,p,ps⟩:=a
 obtain⟨o',n',xs',ns',p',ps'⟩:=b
 rw[pu,TP];rfl
theorem TQ(a b:ae)(ht:cn a<=bq):OW a b=some (pu a b):=by
 refine eP (F:=HE) (fun x=>cn x.1) (fun x=>cn x.1<=bq) (fun x=>pu x.1 x.2) (fun R x hx ih=>?_) (a,b) ht (ed ht)
 obtain⟨a,b⟩:=x
 have hl:cn a<=bq:=hx
 show Bz (fun a a2=>R (a,a2)) a b=some (pu a b)
 unfold Bz DZ D0
 have h1:=fA a
 rw[qai]
 by_cases e1:a.Op=b.Op
 ·by_cases e2:a.Name=b.Name
  ·by_cases e3:a.Args.length=b.Args.length
   ·rw[vae (by simp[e1]),vae (by simp[e2])]
    simp only[vaa]
    rw[vae (by simp[e3]),Tq (X:=Unit⊕Unit) e3 (by unfold bq at hl;omega) (fun zz=>zv (fun a a2=>R (a,a2)) a b (a.Args.length:Int) zz) (fun i y z=>(R (y,z)).bind fun r11=>if(!r11)=true then some (.inr (.inl ()))else some (.inl (aR (i+1)))) pu (.inl ()) (.inr ()) (fun i=>rfl) (fun y hy z hz i=>by
     have he:=ih (y,z) (gy hy) (by have:=gy hy;show cn y<=bq;omega)
     rw[he]
     show(if(!pu y z)=true then _ else _)=_
     cases pu y z<;>rfl)]
    simp only[vaa,e1,e2,decide_true,Bool.true_and]
    cases Da pu a.Args b.Args<;>rfl
   ·rw[vae (by simp[e1]),vae (by simp[e2])]
    simp only[vaa]
    rw[vad (by simp;omega),Zr e3]
    simp
  ·rw[vae (by simp[e1]),vad (by simp[e2])]
   simp[e2]
 ·rw[vad (by simp[e1])]
  simp[e1]
theorem Qz{α σ τ X:Type}(l:List α)(hl:l.length<9223372036854775808)(mk:Int->σ->τ)(body:τ->Option (τ⊕X))(I:Nat->σ->Prop)(g:Nat->α->σ->σ)(e:σ->X)(s0:σ)(h0:I 0 s0)
  (hin:∀(i:Nat) (h:i<l.length) s,I i s->body (mk (i:Int) s)=some (.inl (mk (aR ((i:Int)+1)) (g i l[i] s)))/\I (i+1) (g i l[i] s)) (hend:∀s,I l.length s->body (mk (l.length:Int) s)=some (.inr (e s))):loop body (mk 0 s0)=some (e (ru g l 0 s0)):=by
 have:=kP l hl mk body I (fun i x s=>.inl (g i x s)) e (fun i h s hs=>⟨(hin i h s hs).1,fun s' hs'=>by cases hs';exact(hin i h s hs).2⟩) hend 0 s0 (vaN _) h0
 rw[vaV,show((0:Nat):Int)=0 from rfl]at this
 rw[this]
 have key:∀(l:List α) (i:Nat) (s:σ),mV (fun i x (s:σ)=>(Sum.inl (g i x s):σ⊕X)) e l i s=e (ru g l i s):=by
  intro l
  induction l with
  |nil=>intro i s;rfl
  |cons x l ih=>intro i s;unfold mV;simp only;rw[ih];rfl
 rw[key]
mutual
def vw:ae->ae
 |⟨o,n,xs,_,_,_⟩=>⟨o,n,Fc xs,[],gQ,[]⟩
def Fc:List ae->List ae
 |[]=>[]
 |t::l=>vw t::Fc l
end
theorem Xu:∀(l:List ae),Fc l=l.map vw
 |[]=>by rw[Fc];rfl
 |t::l=>by rw[Fc,Xu l];rfl
theorem Iu(t:ae):vw t=⟨t.Op,t.Name,t.Args.map vw,[],gQ,[]⟩:=by obtain⟨o,n,xs,ns,p,ps⟩:=t;rw[vw,Xu];rfl
theorem TC(t:ae)(h:cn t<=bq):zf t=some (vw t):=by
 refine eP (F:=Ah) cn (fun t=>cn t<=bq) vw (fun R t ht ih=>?_) t h (ed h)
 show tQ (fun t=>R t) t=some (vw t)
 unfold tQ ye
 have h1:=fA t
 unfold bq at ht
 rw[qk t.Args (by omega) (fun i s=>(i,s)) _ R vw id (fun i s=>rfl) (fun x hx=>ih x (gy hx) (by have:=gy hx;unfold bq;omega)),Iu]
 rfl
theorem qbN(t:ae)(h:cn t<=bq):KV t=some (vw t):=by
 refine eP (F:=DX) cn (fun t=>cn t<=bq) vw (fun R t ht ih=>?_) t h (ed h)
 show yF (fun t=>R t) t=some (vw t)
 unfold yF Bx
 have h1:=fA t
 unfold bq at ht
 rw[qk t.Args (by omega) (fun i s=>(i,s)) _ R vw id (fun i s=>rfl) (fun x hx=>ih x (gy hx) (by have:=gy hx;unfold bq;omega)),Iu]
 rfl
def Fu(t:ae):ag×Bool:=(Gm t).getD ([],false)
theorem Q0(t:ae):Gm t=some (Fu t):=by
 unfold Fu Gm
 by_cases h1:(t.Op==1)=true
 ·rw[vad h1];rfl
 ·rw [vae h1]
  by_cases h2:(t.Op==2)=true
  ·rw[vad h2];rfl
  ·rw [vae h2]
   by_cases h3:(t.Op==3)=true
   ·rw[vad h3];rfl
   ·rw[vae h3]
    by_cases h4:(t.Op==4)=true
    ·rw[vad h4]
     by_cases h5:((t.Args.length:Int)==0)=true
     ·rw[vad h5];rfl
     ·rw[vae h5];rfl
    ·rw[vae h4];rfl
theorem qdU(t:ae):Ye t=some (Fu t):=by
 rw[<-Q0];rfl
def WG(t:ae)(q:aa):aa:=if t.Op=6\/t.Pred=gQ then qr else GM (MB [118] q) t.Pred
theorem Y4(t:ae)(q:aa)(h:nP t.Pred<=bq)(hq:nP q<=bq):te t q=some (WG t q):=by
 unfold te Ae CJ WG
 by_cases h6:t.Op=6
 ·rw[vad (by simpa using h6),vad (.inl h6)];rfl
 ·rw[vae (by simpa using h6),show jZ t.Pred (⟨0,[],0,[]⟩:aa)=some (decide (t.Pred=gQ))from Kz t.Pred gQ h]
  simp only[vaa]
  by_cases hz:t.Pred=gQ
  ·rw[vad (by simpa using hz),vad (.inr hz)];rfl
  ·rw[vae (by simpa using hz),vae (by simp[h6,hz]),TF _ _ _ h hq];rfl
theorem qdO(t:ae)(q:aa)(h:nP t.Pred<=bq):Pm t q=some (WG t q):=by
 unfold Pm Li WG
 by_cases h6:t.Op=6
 ·rw[vad (by simpa using h6),vad (.inl h6)];rfl
 ·rw[vae (by simpa using h6),L9]
  simp only[vaa]
  by_cases hz:t.Pred=gQ
  ·rw[vad (by simpa using hz),vad (.inr hz)];rfl
  ·rw[vae (by simpa using hz),vae (by simp[h6,hz]),TL _ _ _ h];rfl
theorem qak(f:ag->Option aa)(hf:∀n q,f n=some q->nP q=1):∀(p:aa),nP (GM f p)<=nP p:=fun p=>by
 have:=qf0 f 1 (vah 1) (fun n q h=>by rw[hf n q h];exact vah 1) p
 omega
theorem TI{v x n:ag}{q:aa}(h:MB v (lN x) n=some q):nP q=1:=by
 unfold MB at h
 split at h
 ·cases h;rfl
 ·cases h
theorem qck(t:ae)(x:ag):nP (WG t (lN x))<=nP t.Pred:=by
 unfold WG
 split
 ·rename_i h
  have:=Vq t.Pred
  show 1<=_
  omega
 ·exact qak _ (fun n q h=>TI h) _
def iA(m:aH)(name:ag):d8×Bool:=(m.Datas.find? (fun d=>d.Name==name)).elim (⟨[],[],[],[]⟩,false) (fun d=>(d,true))
abbrev T4:Type:=ag×List ag×List cG×List ee
theorem LA{α β:Type}(p:α->Bool)(f:α->β):∀(l:List α),l.findSome? (fun x=>if p x=true then some (f x)else none)=(l.find? p).map f
 |[]=>rfl
 |x::l=>by
  rw[List.findSome?_cons,List.find?_cons]
  cases h:p x with
  |true=>rfl
  |false=>simpa using LA p f l
theorem qdt(m:aH)(name:ag)(h1:m.Datas.length<9223372036854775808):zd m name=some (iA m name):=by
 unfold zd yc iA
 have:=Qx m.Datas h1 (fun i=>(i,[],[],[],[])) (fun(zz:Int×ag×(List ag)×(List cG)×(List ee))=>fN name m.Datas (m.Datas.length:Int) zz.1 zz.2.1 zz.2.2.1 zz.2.2.2.1 zz.2.2.2.2)
  (fun d=>if(d.Name==name)=true then some (Sum.inl (d.Name,d.Vars,d.Preds,d.Cons):T4⊕T4)else none) (.inr ([],[],[],[])) (fun i hi=>?_) ?_
 ·rw[this]
  simp only[vaa]
  rw[show m.Datas.findSome? (fun d=>if(d.Name==name)=true then some (Sum.inl (d.Name,d.Vars,d.Preds,d.Cons):T4⊕T4)else none)=_ from LA (fun d:d8=>d.Name==name) (fun d=>(Sum.inl (d.Name,d.Vars,d.Preds,d.Cons):T4⊕T4)) m.Datas]
  cases m.Datas.find? (fun d=>d.Name==name)<;>rfl
 ·show fN name m.Datas (m.Datas.length:Int) (i:Int) [] [] [] []=_
  unfold fN
  rw[vad (by simp;omega),bo _ i hi]
  simp only[vaa]
  by_cases hn:(m.Datas[i].Name==name)=true<;>simp[hn]
 ·show fN name m.Datas (m.Datas.length:Int) (m.Datas.length:Int) [] [] [] []=_
  unfold fN
  rw[vae (by simp)]
theorem qdP(m:aH)(name:ag)(h1:m.Datas.length<9223372036854775808):I2 m name=some (iA m name):=by
 unfold I2 D9 iA
 have:=Qx m.Datas h1 (fun i=>(i,[],[],[],[])) (fun(zz:Int×ag×(List ag)×(List cG)×(List ee))=>jd name m zz.1 zz.2.1 zz.2.2.1 zz.2.2.2.1 zz.2.2.2.2)
  (fun d=>if(d.Name==name)=true then some (Sum.inl (d.Name,d.Vars,d.Preds,d.Cons):T4⊕T4)else none) (.inr ([],[],[],[])) (fun i hi=>?_) ?_
 ·rw[this]
  simp only[vaa]
  rw[show m.Datas.findSome? (fun d=>if(d.Name==name)=true then some (Sum.inl (d.Name,d.Vars,d.Preds,d.Cons):T4⊕T4)else none)=_ from LA (fun d:d8=>d.Name==name) (fun d=>(Sum.inl (d.Name,d.Vars,d.Preds,d.Cons):T4⊕T4)) m.Datas]
  cases m.Datas.find? (fun d=>d.Name==name)<;>rfl
 ·show jd name m (i:Int) [] [] [] []=_
  unfold jd
  rw[vad (by simp;omega),bo _ i hi]
  simp only[vaa]
  by_cases hn:(m.Datas[i].Name==name)=true<;>simp[hn]
 ·show jd name m (m.Datas.length:Int) [] [] [] []=_
  unfold jd
  rw[vae (by simp)]
theorem H9(m:aH)(name:ag)(B:Nat)(h:∀d∈m.Datas,d.Preds.length<=B):(iA m name).1.Preds.length<=B:=by
 unfold iA
 cases hf:m.Datas.find? (fun d=>d.Name==name)with
 |none=>exact vaN _
 |some d=>exact h d (vbl hf)
theorem qbF(a b:ae)(ht:cn a<=bq):IL a b=some (pu a b):=by
 refine eP (F:=CR) (fun x=>cn x.1) (fun x=>cn x.1<=bq) (fun x=>pu x.1 x.2) (fun R x hx ih=>?_) (a,b) ht (ed ht)
 obtain⟨a,b⟩:=x
 have hl:cn a<=bq:=hx
 show wl (fun a a2=>R (a,a2)) a b=some (pu a b)
 unfold wl Ai Aj
 have h1:=fA a
 rw[qai]
 by_cases e1:a.Op=b.Op
 ·by_cases e2:a.Name=b.Name
  ·by_cases e3:a.Args.length=b.Args.length
   ·rw[vae (by simp[e1]),vae (by simp[e2])]
    simp only[vaa]
    rw[vae (by simp[e3]),Tq (X:=Unit⊕Unit) e3 (by unfold bq at hl;omega) (fun zz=>vg (fun a a2=>R (a,a2)) a b (a.Args.length:Int) zz) (fun i y z=>(R (y,z)).bind fun r11=>if(!r11)=true then some (.inr (.inl ()))else some (.inl (aR (i+1)))) pu (.inl ()) (.inr ()) (fun i=>rfl) (fun y hy z hz i=>by
     have he:=ih (y,z) (gy hy) (by have:=gy hy;show cn y<=bq;omega)
     rw[he]
     show(if(!pu y z)=true then _ else _)=_
     cases pu y z<;>rfl)]
    simp only[vaa,e1,e2,decide_true,Bool.true_and]
    cases Da pu a.Args b.Args<;>rfl
   ·rw[vae (by simp[e1]),vae (by simp[e2])]
    simp only[vaa]
    rw[vad (by simp;omega),Zr e3]
    simp
  ·rw[vae (by simp[e1]),vad (by simp[e2])]
   simp[e2]
 ·rw[vad (by simp[e1])]
  simp[e1]
theorem qih(o:Int)(ns:List ag)(i:Nat)(s:S3):(CW o ns i s).2.2.length=s.2.2.length:=by
 unfold CW
 split
 ·split
  ·simp only[vbq]
  ·rfl
 ·rfl
mutual
theorem ZY:∀(t:ae) (c:Sb),cn (AC t c)=cn t
 |⟨o,n,xs,ns,p,ps⟩,c=>by
  obtain⟨h1,h2⟩:=ZW o ns xs 0 (((kB c).flatMap d7++freeT ⟨o,n,xs,ns,p,ps⟩)++ns,c,ns)
  rw[AC,cn,cn,h1,h2,vaF]
theorem ZW(o:Int)(ns:List ag):∀(xs:List ae) (i:Nat) (s:S3),dv (NL o ns i xs s).1=dv xs/\(NL o ns i xs s).2.length=s.2.2.length
 |[],i,s=>by rw[NL];exact⟨rfl,rfl⟩
 | a :: xs,i,s => by
  have h1:=ZY a s.2.1
  obtain⟨h2,h3⟩:=ZW o ns xs (i+1) (CW o ns i s)
  rw[NL]
  refine⟨?_,?_⟩
  ·show dv (AC a s.2.1::(NL o ns (i+1) xs (CW o ns i s)).1)=_
   rw[dv,dv,h1,h2]
  ·show(NL o ns (i+1) xs (CW o ns i s)).2.length=_
   rw[h3,qih]
end
def SM(c:Sb):Prop:=∀e∈c,nP e.2=1
theorem TT{c:Sb}(h:SM c)(x:ag):SM (cY x c):=fun e he=>h e (vaR.1 he).1
theorem qbU{c:Sb}(h:SM c)(x y:ag):SM (c++[(x,lN y)]):=fun e he=>by
 rcases vaE.1 he with he|he
 ·exact h e he
 ·rw[va3.1 he];exact E3 y
theorem qd1(o:Int)(ns:List ag)(i:Nat)(s:S3)(h:SM s.2.1):SM (CW o ns i s).2.1:=by
 unfold CW
 split
 ·split
  ·exact qbU (TT h _) _ _
  ·exact TT h _
 ·exact h
theorem TU{c:Sb}(h:SM c){n:ag}{q:aa}(hq:ph (kN c) (kB c) n=some q):nP q=1:=by
 have:=qc7 hq
 obtain⟨e,he,rfl⟩:=vaq.1 this
 exact h e he
mutual
theorem XW(f:ag->Option aa)(hf:∀n q,f n=some q->nP q=1):∀(p:aa),(∀q,nP q=1->True)->nP (GM f p)<=nP p
 | ⟨o,n,k,ks⟩,hh => by
  have:=Rb f hf ks
  rw[GM]
  cases h:(if o=3 then f n else none)with
  |none=>simp only[Option.getD_none];rw[nP,nP];omega
  | some q =>
   simp only[Option.getD_some]
   have h2:f n=some q:=by
    split at h
    ·exact h
    ·cases h
   rw[hf n q h2,nP];omega
theorem Rb(f:ag->Option aa)(hf:∀n q,f n=some q->nP q=1):∀(l:List aa),nL (qaj f l)<=nL l
 |[]=>by rw[qaj];omega
 |p::l=>by
  have:=XW f hf p (fun _ _=>trivial)
  have:=Rb f hf l
  rw[qaj,nL,nL];omega
end
mutual
theorem qf7:∀(t:ae) (c:Sb),SM c->wT (AC t c)<=wT t
 |⟨o,n,xs,ns,p,ps⟩,c,h=>by
  have h1:=qf6 o ns xs 0 (((kB c).flatMap d7++freeT ⟨o,n,xs,ns,p,ps⟩)++ns,c,ns) h
  have h2:=XW (ph (kN c) (kB c)) (fun _ _ hq=>TU h hq) p (fun _ _=>trivial)
  have h3:=Rb (ph (kN c) (kB c)) (fun _ _ hq=>TU h hq) ps
  rw[VM]at h3
  rw[AC,wT,wT]
  omega
theorem qf6(o:Int)(ns:List ag):∀(xs:List ae) (i:Nat) (s:S3),SM s.2.1->uA (NL o ns i xs s).1<=uA xs
 |[],i,s,_=>by rw[NL];exact vah _
 |a::xs,i,s,h=>by
  have h1:=qf7 a s.2.1 h
  have h2:=qf6 o ns xs (i+1) (CW o ns i s) (qd1 o ns i s h)
  rw[NL]
  show uA (AC a s.2.1::(NL o ns (i+1) xs (CW o ns i s)).1)<=_
  rw[uA,uA];omega
end
theorem qaN{L:Nat}(o:Int)(ns:List ag)(i:Nat)(s:S3)(h:∀x∈ns,x.length<=L)(hw:∀x∈s.2.2,x.length<=L+10):∀x∈(CW o ns i s).2.2,x.length<=L+10:=by
 unfold CW
 split
 ·rename_i hc
  split
  ·intro x hx
   rcases vcj hx with hx|hx
   ·exact hw x hx
   ·have h1:=YL s.1 (ns.getD i [])
    have h2:(ns.getD i []).length<=L:=by rw[Cn _ i hc.2];exact h _ (vak hc.2)
    rw[hx];omega
  ·exact hw
 ·exact hw
mutual
theorem Zt(L:Nat):∀(t:ae) (c:Sb),yh L t->yh (L+10) (AC t c)
 |⟨o,n,xs,ns,p,ps⟩,c,h=>by
  rw[yh]at h
  obtain⟨h1,h2⟩:=WB L o ns h.1 xs 0 (((kB c).flatMap d7++freeT ⟨o,n,xs,ns,p,ps⟩)++ns,c,ns) (fun x hx=>vaI (h.1 x hx) (by omega)) h.2
  rw[AC,yh]
  exact⟨h2,h1⟩
theorem WB(L:Nat)(o:Int)(ns:List ag)(hn:∀x∈ns,x.length<=L):∀(xs:List ae) (i:Nat) (s:S3),(∀x∈s.2.2,x.length<=L+10)->vj L xs->vj (L+10) (NL o ns i xs s).1/\∀x∈(NL o ns i xs s).2,x.length<=L+10
 |[],i,s,hw,_=>by rw[NL];exact⟨trivial,hw⟩
 |a::xs,i,s,hw,h=>by
  rw[vj]at h
  have h1:=Zt L a s.2.1 h.1
  obtain⟨h2,h3⟩:=WB L o ns hn xs (i+1) (CW o ns i s) (qaN o ns i s hn hw) h.2
  rw[NL]
  refine⟨?_,h3⟩
  show vj (L+10) (AC a s.2.1::(NL o ns (i+1) xs (CW o ns i s)).1)
  rw[vj]
  exact⟨h1,h2⟩
end
theorem qbV(x y:ag):SM (rS x (lN y)):=by
 unfold rS
 split
 ·intro e he;cases he
 ·intro e he
  rw[va3.1 he];exact E3 y
mutual
theorem qdD:∀(t:ae) (c:Sb),vw (AC t c)=vw t
 |⟨o,n,xs,ns,p,ps⟩,c=>by rw[AC,vw,vw,Z9]
theorem Z9:∀(xs:List ae) (o:Int) (ns:List ag) (i:Nat) (s:S3),Fc (NL o ns i xs s).1=Fc xs
 |[],o,ns,i,s=>by rw[NL,Fc]
 |a::xs,o,ns,i,s=>by rw[NL,Fc,Fc,qdD a,Z9 xs]
end
mutual
theorem VL:∀(a b:ae),pu a b=true↔vw a=vw b
 |⟨o,n,xs,ns,p,ps⟩,⟨o',n',xs',ns',p',ps'⟩=>by
  have:=XT xs xs'
  rw[pu,vw,vw]
  simp only[vaj,vao,this,ae.mk.injEq,vcN]
theorem XT:∀(a b:List ae),C5 a b=true↔Fc a=Fc b
 |[],[]=>by simp[C5,Fc]
 |x::xs,y::ys=>by
  rw[C5,Fc,Fc,vaj,VL x y,XT xs ys,vbv]
 |[],y::ys=>by simp[C5,Fc]
 |x::xs,[]=>by simp[C5,Fc]
end
def nT(t:ae):Nat:=cn (vw t)
theorem qde(t:ae):nT t=dv (t.Args.map vw)+1:=by
 unfold nT;rw[Iu,tI];rfl
mutual
theorem Xk:∀(t:ae),nT t<=cn t
 |⟨o,n,xs,ns,p,ps⟩=>by
  have:=qdd xs
  rw[qde,cn]
  show dv (xs.map vw)+1<=_
  omega
theorem qdd:∀(l:List ae),dv (l.map vw)<=dv l
 |[]=>by simp[dv]
 |t::l=>by
  have h1:cn (vw t)<=cn t:=Xk t
  have:=qdd l
  rw[vay,dv,dv];omega
end
theorem qe1{l:List ae}{x:ae}(h:x∈l):nT x+l.length<=dv (l.map vw)+1:=by
 induction l with
 |nil=>cases h
 | cons y l ih =>
  have hy:1<=nT y:=pd _
  have hl:l.length<=dv (l.map vw):=by have:=F8 (l.map vw);rwa[vaF]at this
  rw[vay,dv,vaP]
  show _<=nT y+_+1
  rcases vaw.1 h with rfl|h
  ·omega
  ·have:=ih h;omega
theorem XQ{α:Type}(f:α->α)(n:Nat)(hn:n<4611686018427387904)(body:Int×List α->Option ((Int×List α)⊕List α))(P:α->Prop)
  (hin:∀(k:Nat) (w:List α) (h:k<w.length),w.length=n->P w[k]->body ((k:Int),w)=some (.inl (aR ((k:Int)+1),w.set k (f w[k]))))
  (hend:∀w:List α,body ((n:Int),w)=some (.inr w)):∀(j k:Nat) (w:List α),j+k=n->w.length=n->(∀x∈w.drop k,P x)->loop body ((k:Int),w)=some (w.take k++(w.drop k).map f):=by
 intro j
 induction j with
 |zero=>
  intro k w hk hw hP
  have:k=n:=by omega
  subst this
  rw[jV (hend w),<-hw,vbm,vb1]
  simp
 | succ j ih =>
  intro k w hk hw hP
  have hlt:k<w.length:=by omega
  have hd:=va8 hlt
  rw[ql (hin k w hlt hw (hP _ (by rw[hd];exact vcP))),dB (by omega) (by omega),show((k:Int)+1)=((k+1:Nat):Int) by omega,ih (k+1) (w.set k (f w[k])) (by omega) (by rw[vbq];exact hw) (fun x hx=>?_)]
  ·rw[hd,vay]
   have e1:(w.set k (f w[k])).take (k+1)=w.take k++[f w[k]]:=by
    rw[vaM (by rw[vbq];exact hlt)]
    rw[List.take_set,List.set_eq_of_length_le (by rw[vaO];omega)]
    simp
   have e2:(w.set k (f w[k])).drop (k+1)=w.drop (k+1):=by
    rw[vcM (by omega)]
   rw[e1,e2]
   simp
  ·rw[vcM (by omega)]at hx
   exact hP x (by rw[hd];exact va0 _ hx)
def Fp(l:List ae)(ns:List ag)(i:Nat)(y:ag):List ae:=if i<ns.length then l.take (i+1)++(l.drop (i+1)).map (fun t=>AC t (rS (ns.getD i []) (lN y)))else l
theorem Vt{t:ae}(x y:ag)(h1:cn t<=10000000)(h2:wT t<=10000000)(h3:yh 1000000000000000 t):qbh t (rS x (lN y)) where
 nd:=Zk _ _
 sz:=by have:=qg0 x (lN y);rw[E3]at this;omega
 w:=by omega
 n:=h3
structure okV(t:ae):Prop where
 l:cn t<=10000000
 w:wT t<=10000000
 n:yh 1000000000000000 t
theorem Ks(l:List ae)(t:ae)(i:Nat)(y:ag)(hl:l.length<=1073741824)(hi:i<l.length)(h:∀x∈l,okV x)(hn:t.Names.length<=1073741824):j2 l t (i:Int) y=some (Fp l t.Names i y):=by
 unfold j2 Fp
 rw[AE l hl]
 simp only[vaa]
 by_cases hlt:i<t.Names.length
 ·rw[vad (by simp;omega),vad hlt]
  unfold n8
  rw[dB (by omega) (by omega),show((i:Int)+1)=((i+1:Nat):Int) by omega,XQ (fun x=>AC x (rS (t.Names.getD i []) (lN y))) l.length (by omega) _ okV (fun k w hk hw hP=>?_) (fun w=>?_) (l.length - (i+1)) (i+1) l (by omega) rfl (fun x hx=>h x (vcG hx))]
  ·simp only[vaa]
   rw[LC _ _ (by simp;omega)]
   rfl
  ·show ez (i:Int) y t l.length (k:Int) w=_
   unfold ez
   rw[vad (by simp;omega),LD l.length w k (by omega) hk,bo _ i hlt]
   simp only[vaa]
   rw[Cn _ i hlt,show(⟨3,y,0,[]⟩:aa)=lN y from rfl,qbr _ _ _ (Vt _ _ hP.l hP.w hP.n)]
   simp only[vaa]
   rw[VV w k _ hk]
   rfl
  ·show ez (i:Int) y t l.length (l.length:Int) w=_
   unfold ez
   rw[vae (by simp)]
 ·rw[vae (by simp;omega),vae hlt,LC _ _ rfl]
  rfl
theorem Q2(t:ae)(i:Nat)(y:ag)(hl:t.Args.length<=1073741824)(hi:i<t.Args.length)(h:∀x∈t.Args,okV x)(hn:t.Names.length<=1073741824)(he:∀s∈t.Names,s≠[]):xn t (i:Int) y=some ⟨t.Op,t.Name,Fp t.Args t.Names i y,t.Names,t.Pred,t.Preds⟩:=by
 unfold xn zQ Fp
 rw[cN (by simpa using hl),vaC]
 simp only[vaa]
 by_cases hlt:i<t.Names.length
 ·rw[vae (by simp;omega),vad hlt,bo _ i hlt]
  simp only[vaa]
  rw[vae (by have:=he _ (vak hlt);simpa using this)]
  unfold zR
  rw[dB (by omega) (by omega),show((i:Int)+1)=((i+1:Nat):Int) by omega,XQ (fun x=>AC x (rS (t.Names.getD i []) (lN y))) t.Args.length (by omega) _ okV (fun k w hk hw hP=>?_) (fun w=>?_) (t.Args.length - (i+1)) (i+1) t.Args (by omega) rfl (fun x hx=>h x (vcG hx))]
  ·simp only[vaa]
   rw[LC _ _ (by simp;omega)]
   rfl
  ·show iG (i:Int) y t t.Args.length (k:Int) w=_
   unfold iG gR
   rw[vad (by simp;omega),LD t.Args.length w k (by omega) hk,bo _ i hlt]
   simp only[vaa]
   rw[Cn _ i hlt,show(⟨3,y,0,[]⟩:aa)=lN y from rfl,qbH _ _ _ (Vt _ _ hP.l hP.w hP.n)]
   simp only[vaa]
   rw[VV w k _ hk]
   rfl
  ·show iG (i:Int) y t t.Args.length (t.Args.length:Int) w=_
   unfold iG
   rw[vae (by simp)]
 ·rw[vad (by simp;omega),vae hlt]
  simp only[vaa,if_true]
  rw[LC _ _ rfl]
  rfl
def xw(t:ae):Bool:=decide (t.Op=1)||(decide (t.Op=2)||(decide (t.Op=3)||decide (t.Op=4)))
theorem QG(t:ae):kv t=some (xw t):=by
 unfold kv xw
 by_cases h1:t.Op=1
 ·rw[vad (by simpa using h1)];simp[h1]
 ·rw[vae (by simpa using h1)]
  by_cases h2:t.Op=2
  ·rw[vad (by simpa using h2)];simp[h2]
  ·rw[vae (by simpa using h2)]
   by_cases h3:t.Op=3
   ·rw[vad (by simpa using h3)];simp[h3]
   ·rw[vae (by simpa using h3)]
    by_cases h4:t.Op=4<;>simp[h1,h2,h3,h4]
theorem XI(t:ae):Jk t=some (xw t):=by rw[<-QG];rfl
def CV(t:ae)(x:ag)(c:ai):ai:=if xw t=true then Ss x (Fu (vw t)).1 (WG t (lN x)) c else c
theorem qdo(t:ae)(x:ag)(c:ai)(h:cn t<=bq)(hp:nP t.Pred<=bq):wk t x c=some (CV t x c):=by
 unfold wk CV
 rw[QG]
 simp only[vaa]
 cases hb:xw t with
 |false=>rfl
 |true=>
  rw[vae (by simp),vad rfl,TC t h]
  simp only[vaa]
  rw[Q0,show(⟨3,x,0,[]⟩:aa)=lN x from rfl]
  simp only[vaa]
  rw[Y4 t _ hp (by rw[E3];decide)]
  rfl
theorem XJ(t:ae)(x:ag)(c:ai)(h:cn t<=bq)(hp:nP t.Pred<=bq):ED t x c=some (CV t x c):=by
 unfold ED CV HX gR
 rw[XI]
 simp only[vaa]
 cases hb:xw t with
 |false=>rfl
 |true=>
  rw[vae (by simp),vad rfl,qbN t h]
  simp only[vaa]
  rw[qdU,show(⟨3,x,0,[]⟩:aa)=lN x from rfl]
  simp only[vaa]
  rw[qdO t _ hp]
  rfl
def V6(l:List aa)(i:Nat)(x:ag):aa:=(l[i]?).elim qr (fun p=>if p=gQ then qr else GM (MB [118] (lN x)) p)
theorem qdw(l:List aa)(i:Nat)(x:ag)(h:∀p∈l,nP p<=bq):xZ l (i:Int) (lN x)=some (V6 l i x):=by
 unfold xZ Ag V6
 by_cases hi:i<l.length
 ·rw[vae (by simp;omega),bo l i hi,vab hi]
  simp only[vaa]
  have hp:=h _ (vak hi)
  rw[show jZ l[i] (⟨0,[],0,[]⟩:aa)=some (decide (l[i]=gQ))from Kz l[i] gQ hp]
  simp only[vaa,Option.elim]
  by_cases hz:l[i]=gQ
  ·rw[vad (by simpa using hz),vad hz,qcg [] (by simp) (by simp)]
   rfl
  ·rw[vae (by simpa using hz),vae hz,TF _ _ _ hp (by rw[E3];decide)]
   rfl
 ·rw[vad (by simp;omega),vat (by omega)]
  simp only[vaa,if_true]
  rw[qcg [] (by simp) (by simp)]
  rfl
theorem qdQ(l:List aa)(i:Nat)(x:ag)(h:∀p∈l,nP p<=bq):tX l (i:Int) x=some (V6 l i x):=by
 unfold tX xo V6 gR
 by_cases hi:i<l.length
 ·rw[vae (by simp;omega),bo l i hi,vab hi]
  simp only[vaa]
  have hp:=h _ (vak hi)
  rw[show qK l[i] (⟨0,[],0,[]⟩:aa)=some (decide (l[i]=gQ))from Q8 l[i] gQ Z3]
  simp only[vaa,Option.elim]
  by_cases hz:l[i]=gQ
  ·rw[vad (by simpa using hz),vad hz]
   rfl
  ·rw[vae (by simpa using hz),vae hz,show(⟨3,x,0,[]⟩:aa)=lN x from rfl,TL _ _ _ hp]
   rfl
 ·rw[vad (by simp;omega),vat (by omega)]
  rfl
theorem qfR(l:List aa)(i:Nat)(x:ag):nP (V6 l i x)<=(l[i]?).elim 1 nP:=by
 unfold V6
 cases l[i]? with
 |none=>exact vah 1
 | some p =>
  simp only[Option.elim]
  split
  ·exact Vq p
  ·exact qak _ (fun n q h=>TI h) _
def qeh(tag:Int)(a b:ae)(x:ag):List cG->Nat->List ai
 |[],_=>[]
 |d::ds,i=>Ss x d.Sort_ (V6 a.Preds i x) (JU (V6 b.Preds i x) tag)::qeh tag a b x ds (i+1)
theorem Qh(tag:Int)(a b:ae)(x:ag):∀(l:List cG) (i:Nat) (s:List ai),ru (fun i d s=>s++[Ss x d.Sort_ (V6 a.Preds i x) (JU (V6 b.Preds i x) tag)]) l i s=s++qeh tag a b x l i
 |[],i,s=>by rw[ru,qeh,va1]
 |d::l,i,s=>by rw[ru,Qh tag a b x l (i+1),qeh,vba];rfl
theorem qcE(l:List aa)(i:Nat):(l[i]?).elim 1 nP+nL (l.drop (i+1))<=nL (l.drop i)+1:=by
 by_cases h:i<l.length
 ·rw[vab h,va8 h,nL]
  simp only[Option.elim];omega
 ·rw[vat (by omega),vbD (by omega)]
  simp only[Option.elim,nL];omega
theorem qfT(tag:Int)(a b:ae)(x:ag):∀(l:List cG) (i:Nat),yj (qeh tag a b x l i)<=4 * l.length+nL (a.Preds.drop i)+nL (b.Preds.drop i)
 |[],i=>by rw[qeh,yj];omega
 | d :: l,i => by
  have ih:=qfT tag a b x l (i+1)
  have h1:=qfR a.Preds i x
  have h2:=qfR b.Preds i x
  have h3:=qcE a.Preds i
  have h4:=qcE b.Preds i
  have e:nC (Ss x d.Sort_ (V6 a.Preds i x) (JU (V6 b.Preds i x) tag))=nP (V6 a.Preds i x)+(nP (V6 b.Preds i x)+1)+1:=by
   simp[nC,yj]
  rw[qeh,yj,e,vaP]
  omega
def JC(m:aH)(tag:Int)(a b:ae)(used:List ag):ai:=
 let x:=eQ used [118,49]
 let c:=Ss x (Fu (vw a)).1 (WG a (lN x)) (JU (WG b (lN x)) tag)
 if a.Op=4 then Db (fO (c::qeh tag a b x (iA m a.Name).1.Preds 0))else c
theorem Ym(m:aH)(tag:Int)(a b:ae)(x:ag)(D:Nat)(hD:(iA m a.Name).1.Preds.length<=D):yj (Ss x (Fu (vw a)).1 (WG a (lN x)) (JU (WG b (lN x)) tag)::qeh tag a b x (iA m a.Name).1.Preds 0)<=4 * D+wT a+wT b+4:=by
 have h1:=qfT tag a b x (iA m a.Name).1.Preds 0
 have h2:=qck a x
 have h3:=qck b x
 have h4:=rX a
 have h5:=rX b
 have e:nC (Ss x (Fu (vw a)).1 (WG a (lN x)) (JU (WG b (lN x)) tag))=nP (WG a (lN x))+(nP (WG b (lN x))+1)+1:=by
  simp[nC,yj]
 rw[yj,e]
 rw[vaV,vaV]at h1
 omega
theorem qeH(m:aH)(tag:Int)(a b:ae)(used:List ag)(D:Nat)(hD:(iA m a.Name).1.Preds.length<=D):nC (JC m tag a b used)<=4 * D+wT a+wT b+6:=by
 have h:=Ym m tag a b (eQ used [118,49]) D hD
 unfold JC
 simp only
 split
 ·rw[nC]
  have:=Jz (Ss (eQ used [118,49]) (Fu (vw a)).1 (WG a (lN (eQ used [118,49]))) (JU (WG b (lN (eQ used [118,49]))) tag)::qeh tag a b (eQ used [118,49]) (iA m a.Name).1.Preds 0)
  have e:nP gQ=1:=by simp[nP,nL,gQ]
  omega
 ·rw[yj]at h
  omega
structure qkg(m:aH)(a b:ae)(used:List ag):Prop where
 u:used.length<=100000000
 la:cn a<=10000000
 lb:cn b<=10000000
 wa:wT a<=10000000
 wb:wT b<=10000000
 ds:m.Datas.length<=10000000
 dp:∀d∈m.Datas,d.Preds.length<=10000000
theorem qbu(m:aH)(tag:Int)(a b:ae)(used:List ag)(h:qkg m a b used):jA ⟨m,tag⟩ a b used=some (JC m tag a b used):=by
 have w1:=rX a
 have w2:=rX b
 have:=h.wa;have:=h.wb;have:=h.la;have:=h.ds
 have hD:=H9 m a.Name _ h.dp
 unfold jA JC
 rw[(Al used [118,49] h.u (by simp)).1]
 simp only[vaa]
 generalize eQ used [118,49]=x
 rw[TC a (by unfold bq;omega)]
 simp only[vaa]
 rw[Q0,show(⟨3,x,0,[]⟩:aa)=lN x from rfl]
 simp only[vaa]
 rw[Y4 a _ (by unfold bq;omega) (by rw[E3];decide)]
 simp only[vaa]
 rw[Y4 b _ (by unfold bq;omega) (by rw[E3];decide)]
 simp only[vaa]
 unfold fh jB
 simp only[vaa]
 by_cases h4:a.Op=4
 ·rw[vad (by simpa using h4),vad h4,qdt _ _ (by show m.Datas.length<_;omega)]
  simp only[vaa]
  have hn:=Ym m tag a b x 10000000 hD
  unfold kw
  rw[Qz (iA m a.Name).1.Preds (by omega) (fun i s=>(s,i)) _ (fun i s=>s.length=i+1) (fun i d s=>s++[Ss x d.Sort_ (V6 a.Preds i x) (JU (V6 b.Preds i x) tag)]) id _ rfl (fun i hi s hs=>⟨?_,by simp[hs]⟩) (fun s hs=>?_),Qh]
  ·simp only[vaa,id]
   rw[List.singleton_append,Zy _ (vaI hn (by unfold bq;omega))]
   rfl
  ·show dS ⟨m,tag⟩ a b x (iA m a.Name).1.Preds ((iA m a.Name).1.Preds.length:Int) [] s (i:Int)=_
   unfold dS fh jB
   rw[vad (by simp;omega),bo _ i hi,show(⟨3,x,0,[]⟩:aa)=lN x from rfl]
   simp only[vaa]
   rw[qdw a.Preds i x (fun p hp=>by have:=Cy hp;unfold bq;omega)]
   simp only[vaa]
   rw[qdw b.Preds i x (fun p hp=>by have:=Cy hp;unfold bq;omega)]
   simp only[vaa]
   rw[cN (by simp;omega)]
   rfl
  ·show dS ⟨m,tag⟩ a b x (iA m a.Name).1.Preds ((iA m a.Name).1.Preds.length:Int) [] s ((iA m a.Name).1.Preds.length:Int)=_
   unfold dS
   rw[vae (by simp)]
   rfl
 ·rw[vae (by simpa using h4),vae h4]
  rfl
theorem qbI(m:aH)(tag:Int)(a b:ae)(used:List ag)(h:qkg m a b used)(hb:xw a=true):Jl m a b tag used=some (JC m tag a b used):=by
 have w1:=rX a
 have w2:=rX b
 have:=h.wa;have:=h.wb;have:=h.la;have:=h.ds
 have hD:=H9 m a.Name _ h.dp
 unfold Jl JC gR
 rw[(Al used [118,49] h.u (by simp)).2.1]
 simp only[vaa]
 generalize eQ used [118,49]=x
 rw[show(⟨3,x,0,[]⟩:aa)=lN x from rfl,qdO b _ (by unfold bq;omega)]
 simp only[vaa]
 rw[XJ a x _ (by unfold bq;omega) (by unfold bq;omega)]
 unfold CV
 rw[vad hb]
 simp only[vaa]
 by_cases h4:a.Op=4
 ·rw[vae (by simpa using h4),vad h4,qdP _ _ (by omega)]
  simp only[vaa]
  have hn:=Ym m tag a b x 10000000 hD
  unfold EE
  rw[Qz (iA m a.Name).1.Preds (by omega) (fun i s=>(s,i)) _ (fun i s=>s.length=i+1) (fun i d s=>s++[Ss x d.Sort_ (V6 a.Preds i x) (JU (V6 b.Preds i x) tag)]) id _ rfl (fun i hi s hs=>⟨?_,by simp[hs]⟩) (fun s hs=>?_),Qh]
  ·simp only[vaa,id]
   rw[List.singleton_append,TH _ (vaI hn (by unfold bq;omega))]
   rfl
  ·show lz tag a b x (iA m a.Name).1.Preds s (i:Int)=_
   unfold lz
   rw[vad (by simp;omega),bo _ i hi]
   rw[qdQ b.Preds i x (fun p hp=>by have:=Cy hp;unfold bq;omega)]
   simp only[vaa]
   rw[qdQ a.Preds i x (fun p hp=>by have:=Cy hp;unfold bq;omega)]
   simp only[vaa]
   rw[cN (by simp;omega)]
   rfl
  ·show lz tag a b x (iA m a.Name).1.Preds s ((iA m a.Name).1.Preds.length:Int)=_
   unfold lz
   rw[vae (by simp)]
   rfl
 ·rw[vad (by simpa using h4),vae h4]
  rfl
end Go.Proofs.YtbaamopmfmpfaaaGreatDoor
