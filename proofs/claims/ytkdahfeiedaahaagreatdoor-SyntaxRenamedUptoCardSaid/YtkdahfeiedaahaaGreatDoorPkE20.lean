/- PROVED: a part of the proof. Conditions: none. -/
import Derived.Test.YtkdahfeiedaahaaGreatDoorPkE19
import Derived.Test.YtkdahfeiedaahaaGreatDoorPkE18
import Derived.Test.YtkdahfeiedaahaaGreatDoorPkE10
import Derived.Shelf.SlicesE.DeleteFunc
import Derived.Shelf.SlicesE.Index
noncomputable section
namespace Go.Proofs.YtkdahfeiedaahaaGreatDoor
open Go
set_option linter.unusedVariables false
set_option linter.unusedSimpArgs false
def wA(u:List ag)(s:ag):ag:=if u.contains s=true then oN u s (u.length+1) 1 else s
theorem zN(u:List ag)(s:ag)(j:Nat):∀(k n:Nat),(∃N,n<=N/\N<n+k/\s++Lib.decDigits N∉u)->oN u s (k+j) n=oN u s k n/\oN u s k n∉u
 |0,n,⟨N,h1,h2,_⟩=>by omega
 | k + 1,n,⟨N,h1,h2,h3⟩ => by
  rw[show k+1+j=(k+j)+1 by omega,oN,oN]
  by_cases hc:u.contains (s++Lib.decDigits n)=true
  ·rw[vaq hc,vaq hc]
   have hne:n≠N:=by
    rintro rfl
    exact h3 (by simpa using hc)
   exact zN u s j k (n+1) ⟨N,by omega,by omega,h3⟩
  ·rw[vat hc,vat hc]
   exact⟨rfl,by simpa using hc⟩
theorem HT(u:List ag)(s:ag):wA u s∉u:=by
 unfold wA
 split
 ·obtain⟨N,h1,h2,h3⟩:=HU u s
  exact(zN u s 0 (u.length+1) 1 ⟨N,h1,by omega,h3⟩).2
 ·rename_i h
  simpa using h
theorem J4{u:List ag}(h:u.length<=100000000)(s:ag):zO u s=wA u s:=by
 obtain⟨N,h1,h2,h3⟩:=HU u s
 have:=(zN u s (100000001 - (u.length+1)) (u.length+1) 1 ⟨N,h1,by omega,h3⟩).1
 rw[show u.length+1+(100000001 - (u.length+1))=100000001 by omega]at this
 unfold zO wA
 rw[this]
theorem PJ{u:List ag}{s:ag}(h:s∉u):wA u s=s:=by
 unfold wA
 rw[vat (by simpa using h)]
def fN:LT:=fun s u=>(wA u s,u++[wA u s])
theorem Wm(s:ag)(u:List ag):(fN s u).2=u++[(fN s u).1]:=rfl
theorem DA(s:ag)(u:List ag):(fN s u).2.length<=u.length+1:=by simp[fN]
theorem UY(s:ag)(u:List ag)(h:s∉u):fN s u=(s,u++[s]):=by unfold fN;rw[PJ h]
theorem PI(s:ag)(u:List ag)(h:u.Nodup):(fN s u).2.Nodup:=by
 show(u++[wA u s]).Nodup
 rw[va7]
 exact⟨h,by simp,fun a ha b hb hab=>by simp at hb;subst hb;subst hab;exact HT u s ha⟩
theorem HK:∀(k u:Nat),u<10 ^ (k+1)->(Lib.decDigits u).length<=k+1
 |0,u,h=>by
  rw[Lib.decDigits,dif_pos (by omega)];simp
 | k + 1,u,h => by
  rw[Lib.decDigits]
  by_cases h10:u<10
  ·rw[dif_pos h10];simp
  ·rw[dif_neg h10]
   have:=HK k (u / 10) (by
    have:10 ^ (k+1+1)=10 ^ (k+1) * 10:=Nat.pow_succ ..
    omega)
   simp only[vas,List.length_singleton]
   omega
theorem FV(used:List ag)(base:ag):∀(k n:Nat),n+k<=100000002->(oN used base k n).length<=base.length+10
 |0,n,_=>by rw[oN];simp
 | k + 1,n,h => by
  rw[oN]
  split
  ·exact FV used base k (n+1) (by omega)
  ·rw[vas]
   have:=HK 8 n (by omega)
   omega
theorem Mp(used:List ag)(base:ag):(zO used base).length<=base.length+10:=by
 unfold zO
 split
 ·exact FV used base 100000001 1 (by omega)
 ·omega
theorem Sv{ns:List ag}{s:ag}(h:s∈ns):s.length<=bM (ns.map cS):=by
 have h2:=DX (vag.2 ⟨s,h,rfl⟩:cS s∈ns.map cS)
 simp only[cS,iB,pm]at h2
 omega
theorem KC(nm:ag):∀(l:List aa) (s:ag×Bool),Oj (wR nm) l s=some (match l.find? (fun p=>p.old==nm)with|some p=>(false,(p.new,true))|none=>(true,s))
 |[],s=>rfl
 |p::l,s=>by
  rw[Oj,List.find?_cons]
  unfold wR
  cases h:(p.old==nm)with
  |true=>rfl
  |false=>exact KC nm l s
theorem Tp(sc:List aa)(nm:ag)(h:sc.length<4611686018427387904):pq sc nm=some ((uC sc nm).getD [],(uC sc nm).isSome):=by
 unfold pq uC
 rw[vaq (by simpa using h),KC]
 cases sc.reverse.find? (fun p=>p.old==nm)<;>rfl
theorem wP{R:ax->Option ax}(l:List ax)(hl:l.length<=1073741824)(h:∀x∈l,R x=some x):gj R l=some l:=by
 unfold gj j4
 rw[Ke l hl (fun i s=>(s,i)) (fun zz:(List ax)×Int=>jd R l (l.length:Int) zz.1 zz.2) R id id (fun _ _=>rfl) h]
 simp
theorem Dr(p:ax)(hp:nP p<=gZ):kD p=some p:=by
 refine tw (F:=oU) nP (fun x=>nP x<=gZ) id (fun R x hx ih=>?_) p hp (qR hp)
 have hlen:=MB x
 show kZ (fun p=>R p) x=some x
 unfold kZ
 rw[wP x.Kids (by unfold gZ at hx;omega) (fun y hy=>ih y (Lk hy) (vaC (vbK (Lk hy)) hx)),vaa,PD]
theorem Dt{R:List aj->Option (List aj)}(t:aj)(ht:Lu t)(hR:R t.Args=some t.Args):eA R t=some t:=by
 have h1:=tz t
 have h2:zS t<=1073741824:=ht.1
 obtain⟨a1,a2,_⟩:=(HE _ t).1 ht.2
 unfold eA
 rw[hR,wO _ (by omega),Dr _ a1,wP _ (by omega) (fun x hx=>Dr x (a2 x hx))]
 simp only[vaa,PE]
theorem BK(l:List aj)(h:j8 l<=gZ/\∀t∈l,Lu t):cw l=some l:=by
 refine tw (F:=kE) j8 (fun l=>j8 l<=gZ/\∀t∈l,Lu t) id (fun R l hx ih=>?_) l h (qR h.1)
 have hB:j8 l<=1073741824:=hx.1
 have hl:=EO l
 show ig (fun a=>R a) l=some l
 unfold ig j5
 have hone:∀t∈l,eA (fun a=>R a) t=some t:=fun t ht=>by
  have h1:=EP ht
  have h2:=tz t
  exact Dt t (hx.2 t ht) (ih t.Args (by omega) ⟨by unfold gZ;omega,fun a ha=>Hf (hx.2 t ht) ha⟩)
 rw[Ke l (by omega) (fun i s=>(s,i)) (fun zz:(List aj)×Int=>jf (fun a=>R a) l (l.length:Int) zz.1 zz.2) (eA fun a=>R a) id id (fun _ _=>rfl) hone]
 simp
theorem Ds(t:aj)(ht:Lu t):eA cw t=some t:=by
 have h1:=tz t
 have h2:zS t<=1073741824:=ht.1
 exact Dt t ht (BK t.Args ⟨by unfold gZ;omega,fun a ha=>Hf ht ha⟩)
theorem Qr{e:af}(h:F7 e):cw e.Types=some e.Types:=by
 refine BK _ ⟨?_,fun t ht=>Im h ht⟩
 have h1:=H6 e.Types
 have h2:=mR e
 have h3:iB (ae e)<=gZ:=h
 omega
theorem FJ:∀(l:List af) (i:Nat) (hi:i<l.length),fk (l.take (i+1))=fk (l.take i)++kl l[i]
 |x::l,0,hi=>by simp[fk]
 |x::l,i+1,hi=>by
  have ih:=FJ l i (by simpa using hi)
  rw[List.take_succ_cons,List.take_succ_cons,fk,fk,ih]
  simp
theorem FI:∀(l:List aH) (i:Nat) (hi:i<l.length),iC (l.take (i+1))=iC (l.take i)++(l[i].Names++kl l[i].Body)
 |x::l,0,hi=>by simp[iC,Pw]
 |x::l,i+1,hi=>by
  have ih:=FI l i (by simpa using hi)
  rw[List.take_succ_cons,List.take_succ_cons,iC,iC,ih]
  simp
theorem KO(e:af)(he:nE e<=gZ):ED e=some (kl e):=by
 refine tw (F:=zy) nE (fun x=>nE x<=gZ) kl (fun R e he ih=>?_) e he (qR he)
 have hB:nE e<=1073741824:=he
 have hn:=wZ e
 have lk:=DG e.Kids
 have la:=DF e.Alts
 show vK (fun e=>R e) e=_
 have hJ:tn e=some (if(e.Op==7)=true then[e.Name]else[]):=by
  unfold tn
  split
  ·rw[j1 (by simp)];rfl
  ·rfl
 have hJl:(if(e.Op==7)=true then[e.Name]else[]).length<=1:=by split<;>simp
 unfold vK
 rw[hJ]
 simp only[vaa]
 generalize hout:(if(e.Op==7)=true then[e.Name]else[])=out at hJl
 have g2:tp e out 0=some (out++if(e.Op==6)=true then e.Params.map (·.Name)else[]):=by
  unfold tp
  by_cases h6:(e.Op==6)=true
  ·rw[vaq h6]
   have g:=eG e.Params.length (fun zz:(List ag)×Int=>fM e zz.1 zz.2) (fun i=>(out++(e.Params.take i).map (·.Name),(i:Int))) (out++e.Params.map (·.Name)) (fun i hi=>?_) ?_
   ·simpa using g
   ·show fM e _ (i:Int)=_
    unfold fM pE
    rw[vaq (by simpa using hi)]
    simp only[vaa]
    rw[vaq h6,bY _ _ hi,vaa,j1 (by simp;omega),vaa,co (by omega) (by omega),vaA hi,vaF,<-vaN]
    rfl
   ·show fM e _ (e.Params.length:Int)=_
    unfold fM pE
    rw[vat (by simp),vaP]
    simp
  ·have h6':(e.Op==6)=false:=by simpa using h6
   rw[vat h6,vbk]
   refine tP ?_
   show fM e out 0=_
   unfold fM pE
   rw[h6',ite_self]
   simp
 rw[g2]
 simp only[vaa]
 have hol:(out++if(e.Op==6)=true then e.Params.map (·.Name)else[]).length<=1+e.Params.length:=by
  rw[vas]
  have:(if(e.Op==6)=true then e.Params.map (·.Name)else[]).length<=e.Params.length:=by split<;>simp
  omega
 rw[Pv]
 generalize hq:(out++if(e.Op==6)=true then e.Params.map (·.Name)else[])=o2 at hol
 have hk:=xP e.Kids
 have ha:=xO e.Alts
 have g4:tq (fun e=>R e) e o2 0=some (o2++fk e.Kids):=by
  unfold tq
  have g:=eG e.Kids.length (fun zz:(List ag)×Int=>iV (fun e=>R e) e zz.1 zz.2) (fun i=>(o2++fk (e.Kids.take i),(i:Int))) (o2++fk e.Kids) (fun i hi=>?_) ?_
  ·simpa[fk]using g
  ·have hm:=vaB hi
   have hlt:=AP hm
   have t1:=MF e.Kids i hi
   have t2:=F2 e.Kids (i+1)
   have t3:=xP (e.Kids.take i)
   have t4:=uq e.Kids[i]
   show iV (fun e=>R e) e _ (i:Int)=_
   unfold iV
   rw[vaq (by simpa using hi),bY _ _ hi,vaa]
   show(R _).bind _=_
   rw[ih _ hlt (by unfold gZ;omega),vaa,j1 (by simp only[vas];omega),vaa,co (by omega) (by omega),FJ _ _ hi,<-vaN]
   rfl
  ·show iV (fun e=>R e) e _ (e.Kids.length:Int)=_
   unfold iV
   rw[vat (by simp),vaP]
 have g5:tr (fun e=>R e) e (o2++fk e.Kids) 0=some (o2++fk e.Kids++iC e.Alts):=by
  unfold tr
  have g:=eG e.Alts.length (fun zz:(List ag)×Int=>iW (fun e=>R e) e zz.1 zz.2) (fun i=>(o2++fk e.Kids++iC (e.Alts.take i),(i:Int))) (o2++fk e.Kids++iC e.Alts) (fun i hi=>?_) ?_
  ·simpa[iC]using g
  ·have hm:=vaB hi
   have hlt:=AG hm
   have t1:=Kg e.Alts i hi
   have t2:=ME e.Alts (i+1)
   have t3:=xO (e.Alts.take i)
   have t4:=uq e.Alts[i].Body
   have t5:=F0 e.Alts[i]
   show iW (fun e=>R e) e _ (i:Int)=_
   unfold iW
   rw[vaq (by simpa using hi),bY _ _ hi,vaa,j1 (by simp only[vas];omega),vaa,vaa]
   show(R _).bind _=_
   rw[ih _ hlt (by unfold gZ;omega),vaa,j1 (by simp only[vas];omega),vaa,co (by omega) (by omega),FI _ _ hi]
   simp only[vaN]
   rfl
  ·show iW (fun e=>R e) e _ (e.Alts.length:Int)=_
   unfold iW
   rw[vat (by simp),vaP]
 rw[g4]
 simp only[vaa]
 rw[g5]
 simp only[vaa]
 rw[<-hq,<-hout]
 simp only[vaN]
theorem Ow{fe:ag->ag}{fr:LT}:∀(l:List af) (s0 s1:List aa) (u:List ag),(yu fe fr l s0 s1 u).1.length=l.length
 |[],s0,s1,u=>by rw[oq]
 |e::l,s0,s1,u=>by rw[kk];simp[Ow l]
theorem Ot{fe:ag->ag}{fr:LT}:∀(l:List aH) (sc:List aa) (u:List ag),(um fe fr l sc u).1.length=l.length
 |[],sc,u=>by rw[nf]
 |e::l,sc,u=>by rw[jJ];simp[Ot l]
def KS(fr:LT)(t:Bool)(p:av)(sc:List aa)(u:List ag):av×List aa×List ag:=
 if t=true then(⟨(fr p.Name u).1,p.Type_⟩,sc++[⟨p.Name,(fr p.Name u).1⟩],(fr p.Name u).2)else(p,sc,u)
theorem Re(fr:LT)(t:Bool)(l:List av)(p:av)(sc:List aa)(u:List ag):pu fr t (l++[p]) sc u=((pu fr t l sc u).1++[(KS fr t p (pu fr t l sc u).2.1 (pu fr t l sc u).2.2).1],(KS fr t p (pu fr t l sc u).2.1 (pu fr t l sc u).2.2).2):=by
 unfold pu KS
 cases t with
 |false=>rfl
 |true=>
  simp only[if_true]
  rw[vaF,Co]
  simp only[var,vbP,ir]
  have hl:l.length=(ir fr (l.map (·.Name)) sc u).1.length:=by rw[xN,va8]
  unfold Fk
  rw[List.zipWith_append hl]
  rfl
theorem Rf(fr:LT)(t:Bool)(l:List av)(i:Nat)(h:i<l.length)(sc:List aa)(u:List ag):pu fr t (l.take (i+1)) sc u=((pu fr t (l.take i) sc u).1++[(KS fr t l[i] (pu fr t (l.take i) sc u).2.1 (pu fr t (l.take i) sc u).2.2).1],(KS fr t l[i] (pu fr t (l.take i) sc u).2.1 (pu fr t (l.take i) sc u).2.2).2):=by
 rw[vaA h,Re]
theorem SY(fr:LT)(t:Bool)(sc:List aa)(u:List ag):pu fr t [] sc u=([],sc,u):=by
 unfold pu
 cases t<;>rfl
def oO(s:ag):ag:=s
theorem HB(s:ag)(a:List aa)(u:List ag)(hu:u.length<=100000000)(hs:s.length<=1073741824):lH s a u=some (fN s u):=by
 unfold lH
 rw[(QM u s hu (by omega)).1,vaa,J4 hu,j1 (by simp;omega),vaa]
 rfl
theorem HH(s:ag)(a:List aa)(u:List ag)(sc:List aa)(hu:u.length<=100000000)(hs:s.length<=1073741824)(hc:sc.length<=100000000):cz s a u sc=some ((fN s u).1,(fN s u).2,sc++[⟨s,(fN s u).1⟩]):=by
 unfold cz
 rw[HB s a u hu hs,vaa,j1 (by simp;omega),vaa]
theorem Nr(p:av)(t:Bool)(c:List aa)(u:List ag)(sc:List aa)(hu:u.length<=100000000)(hs:p.Name.length<=1073741824)(hc:sc.length<=100000000)(ht:Lu p.Type_):bU p t c u sc=some ((KS fN t p sc u).1,(KS fN t p sc u).2.2,(KS fN t p sc u).2.1):=by
 unfold bU cy KS
 cases t with
 |false=>
  simp only[vaV,if_false,vaa]
  rw[Ds _ ht,vaa]
 |true=>
  simp only[if_true]
  rw[HH _ _ _ _ hu hs hc]
  simp only[vaa]
  rw[Ds _ ht,vaa]
theorem PC(l:List av)(t:Bool)(c:List aa)(u:List ag)(sc:List aa)(hu:u.length+l.length<=100000000)(hc:sc.length+l.length<=100000000)(hs:∀p∈l,p.Name.length<=1073741824/\Lu p.Type_):bB l t c u sc=some ((pu fN t l sc u).1,(pu fN t l sc u).2.2,(pu fN t l sc u).2.1):=by
 unfold bB cc
 have g:=eG l.length (fun(zz:(List av)×Int×(List ag)×(List aa))=>aK t l (l.length:Int) c zz.1 zz.2.1 zz.2.2.1 zz.2.2.2) (fun i=>((pu fN t (l.take i) sc u).1,(i:Int),(pu fN t (l.take i) sc u).2.2,(pu fN t (l.take i) sc u).2.1)) ((pu fN t l sc u).1,(pu fN t l sc u).2.2,(pu fN t l sc u).2.1) (fun i hi=>?_) ?_
 ·simp only[List.take_zero,SY]at g
  rw[show((0:Nat):Int)=0 from rfl]at g
  rw[g,vaa]
 ·have hm:=vaB hi
  have hul:=KT (fr:=fN) DA t (l.take i) sc u
  have hsl:=L8 (fr:=fN) t (l.take i) sc u
  have hpl:=Ox (fr:=fN) t (l.take i) sc u
  rw[vba]at hul hsl hpl
  show aK t l (l.length:Int) c (pu fN t (l.take i) sc u).1 (i:Int) (pu fN t (l.take i) sc u).2.2 (pu fN t (l.take i) sc u).2.1=_
  unfold aK
  rw[vaq (by simpa using hi),bY _ _ hi,vaa,Nr _ _ _ _ _ (by omega) (hs _ hm).1 (by omega) (hs _ hm).2]
  simp only[vaa]
  rw[j1 (by simp only[vay,List.length_nil];omega),vaa,co (by omega) (by omega),Rf _ _ _ _ hi]
  rfl
 ·show aK t l (l.length:Int) c _ (l.length:Int) _ _=_
  unfold aK
  rw[vat (by simp),vaP]
theorem R9(e:af)(ts:List aj)(sc:List aa)(u:List ag)(hu:u.length<=100000000)(hs:e.Name.length<=1073741824)(hc:sc.length<=100000000):dj sc u e.Op e.Name e.N e.Kids e.Params e.Alts ts sc=some ((mz oO fN e.Op e.Name sc u).2.2,(mz oO fN e.Op e.Name sc u).1,(mz oO fN e.Op e.Name sc u).2.1):=by
 unfold dj mz
 rw[Gl,vaa,show uA ⟨e.Op,e.Name,e.N,e.Kids,e.Params,e.Alts,ts⟩=(e.Op==3||e.Op==5)from rfl]
 by_cases h3:(e.Op==3||e.Op==5)=true
 ·rw[vaq h3,vaq h3,Tp _ _ (by omega),vaa]
  cases uC sc e.Name with
  |none=>
   simp only[Option.isSome_none,vaV,if_false]
   rfl
  |some s=>simp only[Option.isSome_some,if_true];rfl
 ·rw[vat h3,vat h3]
  by_cases h7:(e.Op==7)=true
  ·rw[vaq h7,vaq h7,HH _ _ _ _ hu hs hc]
   rfl
  ·rw[vat h7,vat h7]
theorem QR(ns:List ag)(sc:List aa)(u:List ag)(hu:u.length+ns.length<=100000000)(hc:sc.length+ns.length<=100000000)(hs:∀s∈ns,s.length<=1073741824):cV sc ns (ns.length:Int) sc [] 0 u=some ((ir fN ns sc u).2.1,(ir fN ns sc u).1,(ir fN ns sc u).2.2):=by
 unfold cV
 have g:=eG ns.length (fun(zz:(List aa)×(List ag)×Int×(List ag))=>ba sc ns (ns.length:Int) zz.1 zz.2.1 zz.2.2.1 zz.2.2.2) (fun i=>((ir fN (ns.take i) sc u).2.1,(ir fN (ns.take i) sc u).1,(i:Int),(ir fN (ns.take i) sc u).2.2)) ((ir fN ns sc u).2.1,(ir fN ns sc u).1,(ir fN ns sc u).2.2) (fun i hi=>?_) ?_
 ·simpa[ir]using g
 ·have hul:=EH (fr:=fN) DA (ns.take i) sc u
  have hsl:=HF (fr:=fN) (ns.take i) sc u
  have hpl:=xN (fr:=fN) (ns.take i) sc u
  rw[vba]at hul hsl hpl
  show ba sc ns (ns.length:Int) (ir fN (ns.take i) sc u).2.1 (ir fN (ns.take i) sc u).1 (i:Int) (ir fN (ns.take i) sc u).2.2=_
  unfold ba
  rw[vaq (by simpa using hi),bY _ _ hi,vaa,HB _ _ _ (by omega) (hs _ (vaB hi))]
  simp only[vaa]
  rw[j1 (by simp only[vay,List.length_nil];omega),vaa,j1 (by simp only[vay,List.length_nil];omega),vaa,co (by omega) (by omega),QY _ _ _ hi]
  rfl
 ·show ba sc ns (ns.length:Int) _ _ (ns.length:Int) _=_
  unfold ba
  rw[vat (by simp),vaP]
theorem QS{R:af->List aa->List ag->Option (af×List ag)}(a:aH)(sc:List aa)(u:List ag)(hu:u.length+a.Names.length<=100000000)(hc:sc.length+a.Names.length<=100000000)(hs:∀s∈a.Names,s.length<=1073741824)
  (hR:R a.Body (ir fN a.Names sc u).2.1 (ir fN a.Names sc u).2.2=some (uo oO fN a.Body (ir fN a.Names sc u).2.1 (ir fN a.Names sc u).2.2)):
  cC R a sc u=some (Df oO fN a sc u):=by
 unfold cC
 rw[wO _ (by omega),vaa,QR _ _ _ hu hc hs]
 simp only[vaa]
 rw[hR]
 simp only[vaa]
 rw[Rg]
theorem RU{R:af->List aa->List ag->Option (af×List ag)}(ks:List af)(o:Int)(sc S1:List aa)(u:List ag)(hk:ks.length<=100000000)
  (hR:∀(i:Nat) (h:i<ks.length) (s:List aa) (v:List ag),s=sc\/s=S1->v.length<=u.length+tQ (ks.take i)->R ks[i] s v=some (uo oO fN ks[i] s v)):
  dl R sc ks (ks.length:Int) o S1 [] 0 u=some (yu oO fN ks (if(o==7)=true then sc else S1) S1 u):=by
 generalize hS0:(if(o==7)=true then sc else S1)=S0
 have h7:(o==7)=true->S0=sc:=fun h=>by rw[<-hS0,vaq h]
 have h6:¬(o==7)=true->S0=S1:=fun h=>by rw[<-hS0,vat h]
 unfold dl
 have g:=eG ks.length (fun(zz:(List af)×Int×(List ag))=>bk R sc ks (ks.length:Int) o S1 zz.1 zz.2.1 zz.2.2) (fun i=>((yu oO fN (ks.take i) S0 S1 u).1,(i:Int),(yu oO fN (ks.take i) S0 S1 u).2)) (yu oO fN ks S0 S1 u) (fun i hi=>?_) ?_
 ·simp only[List.take_zero,oq]at g
  rw[show((0:Nat):Int)=0 from rfl]at g
  exact g
 ·have t3:=HG (fe:=oO) (fr:=fN) DA (ks.take i) S0 S1 u
  have t4:=Ow (fe:=oO) (fr:=fN) (ks.take i) S0 S1 u
  have t5:=L7 oO fN ks i hi S0 S1 u
  rw[vba]at t4
  show bk R sc ks (ks.length:Int) o S1 (yu oO fN (ks.take i) S0 S1 u).1 (i:Int) (yu oO fN (ks.take i) S0 S1 u).2=some (.inl ((yu oO fN (ks.take (i+1)) S0 S1 u).1,((i+1:Nat):Int),(yu oO fN (ks.take (i+1)) S0 S1 u).2))
  rw[t5]
  generalize yu oO fN (ks.take i) S0 S1 u=K at t3 t4
  unfold bk eH
  rw[vaq (by simpa using hi),bY _ _ hi,vaa]
  by_cases ho:(o==7)=true
  ·rw[vaq ho,vaa]
   cases i with
   |zero=>
    rw[vaq (by decide),vat (by decide),h7 ho,hR 0 hi sc K.2 (.inl rfl) t3]
    simp only[vaa]
    rw[j1 (by simp only[vay,List.length_nil];omega),vaa,co (by omega) (by omega)]
    rfl
   |succ k=>
    rw[vat (by simp;omega),vaq (Nat.succ_pos k),hR (k+1) hi S1 K.2 (.inr rfl) t3]
    simp only[vaa]
    rw[j1 (by simp only[vay,List.length_nil];omega),vaa,co (by omega) (by omega)]
    rfl
  ·rw[vat ho,vaa,vat (by decide),h6 ho,ite_self,hR i hi S1 K.2 (.inr rfl) t3]
   simp only[vaa]
   rw[j1 (by simp only[vay,List.length_nil];omega),vaa,co (by omega) (by omega)]
   rfl
 ·show bk R sc ks (ks.length:Int) o S1 _ (ks.length:Int) _=_
  unfold bk
  rw[vat (by simp),vaP]
theorem QT{R:af->List aa->List ag->Option (af×List ag)}(as1:List aH)(sc:List aa)(v:List ag)(hk:as1.length<=100000000)
  (hR:∀(i:Nat) (h:i<as1.length) (u:List ag),u.length<=v.length+va (as1.take i)->cC R as1[i] sc u=some (Df oO fN as1[i] sc u)):
  b7 R as1 sc v=some (um oO fN as1 sc v):=by
 unfold b7 dL
 have g:=eG as1.length (fun(zz:(List aH)×Int×(List ag))=>aU R sc as1 (as1.length:Int) zz.1 zz.2.1 zz.2.2) (fun i=>((um oO fN (as1.take i) sc v).1,(i:Int),(um oO fN (as1.take i) sc v).2)) (um oO fN as1 sc v) (fun i hi=>?_) ?_
 ·simp only[List.take_zero,nf]at g
  rw[show((0:Nat):Int)=0 from rfl]at g
  rw[g,vaa]
 ·have t3:=Nj (fe:=oO) (fr:=fN) DA (as1.take i) sc v
  have t4:=Ot (fe:=oO) (fr:=fN) (as1.take i) sc v
  have t5:=L6 oO fN as1 i hi sc v
  rw[vba]at t4
  show aU R sc as1 (as1.length:Int) (um oO fN (as1.take i) sc v).1 (i:Int) (um oO fN (as1.take i) sc v).2=some (.inl ((um oO fN (as1.take (i+1)) sc v).1,((i+1:Nat):Int),(um oO fN (as1.take (i+1)) sc v).2))
  rw[t5]
  generalize um oO fN (as1.take i) sc v=K at t3 t4
  unfold aU
  rw[vaq (by simpa using hi),bY _ _ hi,vaa,hR i hi K.2 t3]
  simp only[vaa]
  rw[j1 (by simp only[vay,List.length_nil];omega),vaa,co (by omega) (by omega)]
  rfl
 ·show aU R sc as1 (as1.length:Int) _ (as1.length:Int) _=_
  unfold aU
  rw[vat (by simp),vaP]
theorem TO(e:af)(sc:List aa)(u:List ag)(he:F7 e)(hc:sc.length+nE e<=100000000)(hu:u.length+nE e<=100000000):fE e sc u=some (uo oO fN e sc u):=by
 refine tw (F:=eT) (fun x=>nE x.1) (fun x=>F7 x.1/\x.2.1.length+nE x.1<=100000000/\x.2.2.length+nE x.1<=100000000) (fun x=>uo oO fN x.1 x.2.1 x.2.2) (fun R x hx ih=>?_) (e,sc,u) ⟨he,hc,hu⟩ (qR (uI he))
 obtain⟨e,sc,u⟩:=x
 obtain⟨he,hc,hu⟩:=hx
 simp only[]at he hc hu ih ⊢
 have hn:=wZ e
 have lk:=DG e.Kids
 have la:=DF e.Alts
 have hpm:=mR e
 have hB:iB (ae e)<=1073741824:=he
 have hR:∀(x:af) (s:List aa) (v:List ag),nE x<nE e->F7 x->s.length+nE x<=100000000->v.length+nE x<=100000000->R (x,s,v)=some (uo oO fN x s v):=fun x s v h1 h2 h3 h4=>ih (x,s,v) h1 ⟨h2,h3,h4⟩
 show dJ (fun e scope k0=>R (e,scope,k0)) e sc u=some (uo oO fN e sc u)
 have hN:=Nq (fe:=oO) (fr:=fN) DA e.Op e.Name sc u
 have hNs:=Rd (fe:=oO) (fr:=fN) e.Op e.Name sc u
 have hP:=KT (fr:=fN) DA (e.Op==6) e.Params (mz oO fN e.Op e.Name sc u).2.1 (mz oO fN e.Op e.Name sc u).2.2
 have hPs:=L8 (fr:=fN) (e.Op==6) e.Params (mz oO fN e.Op e.Name sc u).2.1 (mz oO fN e.Op e.Name sc u).2.2
 unfold dJ
 rw[Qr he,vaa,wO _ (by omega),vaa,R9 _ _ _ _ (by omega) (by omega) (by omega)]
 simp only[vaa]
 rw[PC _ _ _ _ _ (by omega) (by omega) (fun p hp=>⟨by have:=MV hp;have:=tS p;omega,E9 he hp⟩)]
 simp only[vaa]
 rw[RU e.Kids e.Op sc (pu fN (e.Op==6) e.Params (mz oO fN e.Op e.Name sc u).2.1 (mz oO fN e.Op e.Name sc u).2.2).2.1 (pu fN (e.Op==6) e.Params (mz oO fN e.Op e.Name sc u).2.1 (mz oO fN e.Op e.Name sc u).2.2).2.2 (by omega) (fun i hi s v hs hv=>by
  have hm:=vaB hi
  have t1:=MF e.Kids i hi
  have t2:=F2 e.Kids (i+1)
  refine hR _ _ _ (AP hm) (Lt he hm) ?_ (by omega)
  rcases hs with rfl|rfl<;>omega)]
 simp only[vaa]
 have hC:(Eu oO fN e.Op e.Name e.Params e.Kids sc u).2.length<=(pu fN (e.Op==6) e.Params (mz oO fN e.Op e.Name sc u).2.1 (mz oO fN e.Op e.Name sc u).2.2).2.2.length+tQ e.Kids:=HG (fe:=oO) (fr:=fN) DA e.Kids (G7 oO fN e.Op e.Name e.Params sc u) (qB oO fN e.Op e.Name e.Params sc u).2.1 (qB oO fN e.Op e.Name e.Params sc u).2.2
 have g3:=QT (R:=fun e scope k0=>R (e,scope,k0)) e.Alts sc (Eu oO fN e.Op e.Name e.Params e.Kids sc u).2 (by omega) (fun i hi v hv=>by
  have hm:=vaB hi
  have t1:=Kg e.Alts i hi
  have t2:=ME e.Alts (i+1)
  have t5:=F0 e.Alts[i]
  have t6:=EH (fr:=fN) DA e.Alts[i].Names sc v
  have t7:=HF (fr:=fN) e.Alts[i].Names sc v
  have t8:=St hm
  have t9:=ye e.Alts[i]
  exact QS _ _ _ (by omega) (by omega) (fun s hs=>by have:=Sv hs;omega) (hR _ _ _ (AG hm) (E8 he hm) (by omega) (by omega)))
 show(b7 (fun e scope k0=>R (e,scope,k0)) e.Alts sc (Eu oO fN e.Op e.Name e.Params e.Kids sc u).2).bind _=_
 rw[g3]
 simp only[vaa]
 rw[Ur]
theorem JK(e:af)(he:F7 e)(hn:nE e<=50000000):gL e=some (uo oO fN e [] (yi (mL e))).1:=by
 have h1:=D8 (mL e)
 have h2:=AO e
 unfold gL
 rw[Iq e (uI he),vaa,TO e [] _ he (by simp;omega) (by omega)]
 rfl
def O9(sc:List aa):Prop:=∀p∈sc,p.new.length<=p.old.length+10
theorem Na{sc:List aa}(h:O9 sc){s t:ag}(ht:t.length<=s.length+10):O9 (sc++[⟨s,t⟩]):=fun q hq=>by
 rcases vaw.1 hq with hq|hq
 ·exact h q hq
 ·rw[vbb.1 hq];exact ht
theorem O2(s:ag):iB (cS s)=s.length+1:=by simp only[cS,iB,pm]
theorem O6:∀(ps:List av) (ns:List ag),ns.length=ps.length->bM ((Fk ps ns).map aq)+bM ((ps.map (·.Name)).map cS)=bM (ps.map aq)+bM (ns.map cS)
 |[],[],_=>by simp[Fk]
 |[],_::_,h=>by simp at h
 |_::_,[],h=>by simp at h
 |p::ps,n::ns,h=>by
  have ih:=O6 ps ns (by simpa using h)
  unfold Fk at ih ⊢
  simp only[List.zipWith_cons_cons,var,bM]
  have h1:=tS p
  have h2:=tS ⟨n,p.Type_⟩
  have h3:=O2 p.Name
  have h4:=O2 n
  simp only[av.Name,av.Type_]at h2
  omega
section
variable{fe:ag->ag}{fr:LT}{B:Nat}
theorem Nm(hfr:∀s u,u.length<=B->(fr s u).1.length<=s.length+10)(hl:∀s u,(fr s u).2.length<=u.length+1):∀(l:List ag) (sc:List aa) (u:List ag),O9 sc->u.length+l.length<=B->bM ((ir fr l sc u).1.map cS)<=bM (l.map cS)+10 * l.length/\O9 (ir fr l sc u).2.1
 |[],sc,u,h,hu=>⟨by simp[ir],h⟩
 |n::l,sc,u,h,hu=>by
  simp only[vay]at hu
  have hn:=hfr n u (by omega)
  have hu2:=hl n u
  obtain⟨h1,h2⟩:=Nm hfr hl l (sc++[⟨n,(fr n u).1⟩]) (fr n u).2 (Na h hn) (by omega)
  rw[ir]
  refine⟨?_,h2⟩
  simp only[var,bM,vay]
  have h3:=O2 n
  have h4:=O2 (fr n u).1
  omega
theorem Ut(hfe:∀s,(fe s).length<=s.length+10)(hfr:∀s u,u.length<=B->(fr s u).1.length<=s.length+10)(o:Int)(n:ag)(sc:List aa)(u:List ag)(h:O9 sc)(hu:u.length<=B):(mz fe fr o n sc u).1.length<=n.length+10/\O9 (mz fe fr o n sc u).2.1:=by
 unfold mz
 split
 ·refine⟨?_,h⟩
  cases hq:uC sc n with
  |none=>exact hfe n
  |some t=>
   obtain⟨p,hp,rfl,rfl⟩:=EU hq
   exact h p hp
 ·split
  ·exact⟨hfr n u hu,Na h (hfr n u hu)⟩
  ·exact⟨by show n.length<=_;omega,h⟩
theorem Uv(hfr:∀s u,u.length<=B->(fr s u).1.length<=s.length+10)(hl:∀s u,(fr s u).2.length<=u.length+1)(t:Bool)(ps:List av)(sc:List aa)(u:List ag)(h:O9 sc)(hu:u.length+ps.length<=B):bM ((pu fr t ps sc u).1.map aq)<=bM (ps.map aq)+10 * ps.length/\O9 (pu fr t ps sc u).2.1:=by
 unfold pu
 split
 ·obtain⟨h1,h2⟩:=Nm hfr hl (ps.map (·.Name)) sc u h (by rw[va8];exact hu)
  refine⟨?_,h2⟩
  have h3:=O6 ps (ir fr (ps.map (·.Name)) sc u).1 (by rw[xN,va8])
  rw[va8]at h1
  show bM ((Fk ps (ir fr (ps.map (·.Name)) sc u).1).map aq)<=_
  omega
 ·exact⟨by show bM (ps.map aq)<=_;omega,h⟩
mutual
theorem No(hfe:∀s,(fe s).length<=s.length+10)(hfr:∀s u,u.length<=B->(fr s u).1.length<=s.length+10)(hl:∀s u,(fr s u).2.length<=u.length+1):∀(e:af) (sc:List aa) (u:List ag),O9 sc->u.length+nE e<=B->iB (ae (uo fe fr e sc u).1)<=iB (ae e)+10 * nE e
 | ⟨o,n,k,ks,ps,as1,ts⟩,sc,u,h,hu => by
  rw[nE]at hu
  obtain⟨n1,n2⟩:=Ut hfe hfr o n sc u h (by omega)
  have n3:=Nq (fe:=fe) hl o n sc u
  obtain⟨p1,p2⟩:=Uv hfr hl (o==6) ps (mz fe fr o n sc u).2.1 (mz fe fr o n sc u).2.2 n2 (by omega)
  have p3:=KT hl (o==6) ps (mz fe fr o n sc u).2.1 (mz fe fr o n sc u).2.2
  have hS:O9 (G7 fe fr o n ps sc u):=by unfold G7;split;exact h;exact p2
  have k1:=Q9 hfe hfr hl ks (G7 fe fr o n ps sc u) (qB fe fr o n ps sc u).2.1 (qB fe fr o n ps sc u).2.2 hS p2 (by show(pu fr (o==6) ps (mz fe fr o n sc u).2.1 (mz fe fr o n sc u).2.2).2.2.length+_<=_;omega)
  have k2:=HG (fe:=fe) hl ks (G7 fe fr o n ps sc u) (qB fe fr o n ps sc u).2.1 (qB fe fr o n ps sc u).2.2
  have a1:=QX hfe hfr hl as1 sc (Eu fe fr o n ps ks sc u).2 h (by
   have:(qB fe fr o n ps sc u).2.2.length<=u.length+1+ps.length:=Q4 (fe:=fe) hl o n ps sc u
   show(yu fe fr ks (G7 fe fr o n ps sc u) (qB fe fr o n ps sc u).2.1 (qB fe fr o n ps sc u).2.2).2.length+_<=_
   omega)
  rw[ww,mR,mR,nE]
  show 1+((mz fe fr o n sc u).1.length+1+(1+(bM ((yu fe fr ks (G7 fe fr o n ps sc u) (qB fe fr o n ps sc u).2.1 (qB fe fr o n ps sc u).2.2).1.map ae)+1+(bM ((pu fr (o==6) ps (mz fe fr o n sc u).2.1 (mz fe fr o n sc u).2.2).1.map aq)+1+(bM ((um fe fr as1 sc (Eu fe fr o n ps ks sc u).2).1.map az)+1+(bM (ts.map ai)+1+0))))))<=1+(n.length+1+(1+(bM (ks.map ae)+1+(bM (ps.map aq)+1+(bM (as1.map az)+1+(bM (ts.map ai)+1+0))))))+_
  omega
theorem UA(hfe:∀s,(fe s).length<=s.length+10)(hfr:∀s u,u.length<=B->(fr s u).1.length<=s.length+10)(hl:∀s u,(fr s u).2.length<=u.length+1):∀(a:aH) (sc:List aa) (u:List ag),O9 sc->u.length+nA a<=B->iB (az (Df fe fr a sc u).1)<=iB (az a)+10 * nA a
 |⟨c,ns,b⟩,sc,u,h,hu=>by
  rw[nA]at hu
  obtain⟨b1,b2⟩:=Nm hfr hl ns sc u h (by omega)
  have b3:=EH hl ns sc u
  have e1:=No hfe hfr hl b (ir fr ns sc u).2.1 (ir fr ns sc u).2.2 b2 (by omega)
  rw[wx,ye,ye,nA]
  show c.length+1+(bM ((ir fr ns sc u).1.map cS)+1+iB (ae (uo fe fr b (ir fr ns sc u).2.1 (ir fr ns sc u).2.2).1))<=c.length+1+(bM (ns.map cS)+1+iB (ae b))+_
  omega
theorem Q9(hfe:∀s,(fe s).length<=s.length+10)(hfr:∀s u,u.length<=B->(fr s u).1.length<=s.length+10)(hl:∀s u,(fr s u).2.length<=u.length+1):∀(l:List af) (s0 s1:List aa) (u:List ag),O9 s0->O9 s1->u.length+tQ l<=B->bM ((yu fe fr l s0 s1 u).1.map ae)<=bM (l.map ae)+10 * tQ l
 |[],s0,s1,u,_,_,_=>by rw[oq];exact vbx _ _
 |e::l,s0,s1,u,h0,h1,hu=>by
  rw[tQ]at hu
  have e1:=No hfe hfr hl e s0 u h0 (by omega)
  have e2:=Np (fe:=fe) hl e s0 u
  have e3:=Q9 hfe hfr hl l s1 s1 (uo fe fr e s0 u).2 h1 h1 (by omega)
  rw[kk,tQ]
  simp only[var,bM]
  omega
theorem QX(hfe:∀s,(fe s).length<=s.length+10)(hfr:∀s u,u.length<=B->(fr s u).1.length<=s.length+10)(hl:∀s u,(fr s u).2.length<=u.length+1):∀(l:List aH) (sc:List aa) (u:List ag),O9 sc->u.length+va l<=B->bM ((um fe fr l sc u).1.map az)<=bM (l.map az)+10 * va l
 |[],sc,u,_,_=>by rw[nf];exact vbx _ _
 |a::l,sc,u,h,hu=>by
  rw[va]at hu
  have e1:=UA hfe hfr hl a sc u h (by omega)
  have e2:=Rh (fe:=fe) hl a sc u
  have e3:=QX hfe hfr hl l sc (Df fe fr a sc u).2 h (by omega)
  rw[jJ,va]
  simp only[var,bM]
  omega
end
end
theorem Tr(s:ag)(u:List ag)(h:u.length<=100000000):(fN s u).1.length<=s.length+10:=by
 show(wA u s).length<=_
 rw[<-J4 h]
 exact Mp u s
def tG(e:af):af:=(uo oO fN e [] (yi (mL e))).1
theorem TR(e:af)(hn:nE e<=50000000):iB (ae (tG e))<=iB (ae e)+10 * nE e:=by
 have h1:=D8 (mL e)
 have h2:=AO e
 exact No (fe:=oO) (fr:=fN) (B:=100000000) (fun s=>by show s.length<=_;omega) Tr DA e [] _ (fun p hp=>by cases hp) (by omega)
theorem Kw(e:af):mL (tG e)=mL e:=by
 unfold mL tG
 refine Lr (G:=fun t=>t∈mL e) (I:=fun u=>∀t∈mL e,t∈u) (fun s _=>rfl) (fun s u hu t ht=>vaw.2 (.inl (hu t ht))) (fun s u hu t ht hst=>?_) e [] (yi (mL e)) (fun p hp=>by cases hp) (fun t ht=>((IN _).2 t).2 ht) (fun x hx=>vag.2 ⟨x,hx,rfl⟩)
 exact absurd (hu t ht) (hst▸HT u s)
theorem XG{l:List ag}(h:W7 l):l.Nodup:=vci (fun{a b} hab he=>by subst he;unfold Qv at hab;rw[AJ]at hab;cases hab) h
theorem Qg(e:af):(uo oO fN e [] (yi (mL e))).2=yi (mL e)++kl (tG e):=Q0 Wm e [] _
theorem IF(e:af):(yi (mL e)++kl (tG e)).Nodup:=by
 rw[<-Qg]
 exact Ov (I:=List.Nodup) PI e [] _ (XG (IN _).1)
theorem TQ(e:af):nE (tG e)=nE e:=Rj e [] _
theorem Qf(e:af):ut (tG e)=ut e:=by
 unfold ut
 have h:=Dh (fe:=oO) (fr:=fN) e [] (yi (mL e))
 rw[List.flatMap_def,List.flatMap_def]
 show((eP (uo oO fN e [] (yi (mL e))).1).map wy).flatten=_
 rw[h]
theorem Oe(e:af):(eP (tG e)).length=(eP e).length:=by
 have:=va9 List.length (Dh (fe:=oO) (fr:=fN) e [] (yi (mL e)))
 simpa[tG]using this
theorem TP(e:af):dE (tG e)=dE e:=Ri e [] _
theorem Of(e:af):tG (tG e)=tG e:=by
 have h:=Nn (fe:=oO) (fr:=fN) (fun s=>rfl) UY (tG e) [] (yi (mL e)) (IF e) (fun p hp=>by cases hp)
 show(uo oO fN (tG e) [] (yi (mL (tG e)))).1=_
 rw[Kw,h]
set_option maxRecDepth 100000
theorem Ns:AC=some true:=by kernel_rfl
theorem TY{l:List ag}(hl:l.length<=1073741824)(h:l.Nodup):jH l 0=some (.inr ()):=by
 unfold jH
 refine eG l.length (fun(zz:Int)=>dP l zz) (fun i=>(i:Int)) _ (fun i hi=>?_) ?_
 ·show dP l (i:Int)=_
  unfold dP
  rw[vaq (by simpa using hi)]
  have g:jI l (i:Int) 0=some (.inr ()):=by
   unfold jI
   refine eG i (fun(zz:Int)=>dQ l (i:Int) zz) (fun j=>(j:Int)) _ (fun j hj=>?_) ?_
   ·show dQ l (i:Int) (j:Int)=_
    unfold dQ
    have hne:l[i]≠l[j]:=fun hc=>(List.pairwise_iff_getElem.1 h j i (by omega) hi hj) hc.symm
    rw[vaq (by simpa using hj),bY _ _ hi,vaa,bY _ _ (by omega),vaa,vat (by simpa using hne),co (by omega) (by omega)]
    rfl
   ·show dQ l (i:Int) (i:Int)=_
    unfold dQ
    rw[vat (by simp)]
  rw[g]
  simp only[vaa]
  rw[co (by omega) (by omega)]
  rfl
 ·show dP l (l.length:Int)=_
  unfold dP
  rw[vat (by simp)]
theorem LF(x0:af)(h:iB (ae x0)+0<=1048576):pD x0=some true:=by
 have hm:iB (ae x0)<=1048576:=by omega
 obtain⟨b,hb,_⟩:=Ql x0 (by unfold Ev;omega)
 have hn:=OU x0
 have he:F7 x0:=by unfold F7 gZ;omega
 have hp:=TR x0 (by omega)
 have hr:F7 (tG x0):=by unfold F7 gZ;omega
 have hrn:=TQ x0
 have hbl:=uq (tG x0)
 have hfl:=D8 (mL x0)
 have hfl2:=AO x0
 unfold pD
 rw[hb,Ns]
 simp only[vaa]
 cases b with
 |false=>simp
 | true =>
  simp only[Bool.not_true,vaV,if_false]
  have hR1:gL x0=some (tG x0):=JK x0 he (by omega)
  have hR2:gL (tG x0)=some (tG x0):=by
   have h1:gL (tG x0)=some (tG (tG x0)):=JK _ hr (by omega)
   rw[h1,Of]
  rw[hR1,vaa,Iq x0 (uI he),vaa,KO _ (uI hr),vaa,j1 (by omega),vaa,TY (by simp;omega) ?_]
  ·simp only[vaa]
   rw[Iq _ (uI hr),vaa,Kw,A7 (by unfold gZ;omega),vaa,vaq (by simp),MM _ hr,vaa,MM _ he,vaa,Qf,A7 (by
    have h1:=D8 (ut x0)
    have h2:(ut x0).length<=nE x0:=JZ x0
    unfold gZ;omega),vaa,vaq (by simp),LY _ (uI hr),vaa,LY _ (uI he),vaa,Oe,vaq (by simp),LX _ (uI hr),vaa,LX _ (uI he),vaa,TP,vaq (by simp),hR2,vaa,SA _ _ hr hr,vaa,vaq (by simp)]
  ·have:=IF x0
   rw[va7]at this ⊢
   exact⟨this.2.1,this.1,fun a ha b hb hab=>this.2.2 b hb a ha hab.symm⟩
end Go.Proofs.YtkdahfeiedaahaaGreatDoor
