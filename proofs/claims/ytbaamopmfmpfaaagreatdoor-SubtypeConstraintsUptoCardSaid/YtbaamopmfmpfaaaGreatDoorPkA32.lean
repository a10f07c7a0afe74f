/- PROVED: parts of the proof (Bk1 Bk2 Su4 Ws1). Conditions: none. -/
import Derived.Test.YtbaamopmfmpfaaaGreatDoorPkA31
import Derived.Test.YtbaamopmfmpfaaaGreatDoorPkA29
noncomputable section
namespace Go.Proofs.YtbaamopmfmpfaaaGreatDoor
open Go
set_option linter.unusedVariables false
set_option linter.unusedSimpArgs false
theorem TJ(t:ae)(i:Nat)(v:List ag)(hi:i<1000000)(hn:t.Names.length<=1000000)(hv:v.length<=100000000):Au t (i:Int) v=some (v++t.Names.drop (i+1)):=by
 unfold Au BX
 rw[dB (by omega) (by omega),show((i:Int)+1)=((i+1:Nat):Int) by omega]
 have e:=Cv ((t.Names.drop (i+1)).length) (fun(zz:(List ag)×Int)=>ig t zz.1 zz.2) (fun j=>(v++(t.Names.drop (i+1)).take j,((i+1+j:Nat):Int))) (v++t.Names.drop (i+1)) (fun j hj=>?_) ?_
 ·rw[List.take_zero,va1,Nat.add_zero]at e
  rw[e]
  rfl
 ·have hj':i+1+j<t.Names.length:=by rw[vaY]at hj;omega
  show ig t (v++(t.Names.drop (i+1)).take j) ((i+1+j:Nat):Int)=_
  unfold ig
  rw[vad (by simp;omega),bo _ _ hj']
  simp only[vaa]
  rw[cN (by simp;omega),dB (by omega) (by omega)]
  simp only[vaa]
  rw[vaM hj,List.getElem_drop,vba,show(((i+1+j:Nat):Int)+1)=((i+1+(j+1):Nat):Int) by omega]
 ·show ig t (v++(t.Names.drop (i+1)).take (t.Names.drop (i+1)).length) ((i+1+(t.Names.drop (i+1)).length:Nat):Int)=_
  unfold ig
  rw[vae (by simp;omega),vbm]
abbrev qt(t:ae)(l:List ae):ae:=⟨t.Op,t.Name,l,t.Names,t.Pred,t.Preds⟩
theorem VI(R:nw)(m:aH)(tag:Int){K:Nat}{rec:Rc}{a b:ae}{used:List ag}{L:Nat}(h:E7 a b used L)(n:Nat)(hn:n+1=a.Args.length)(hr:∀i,i<a.Args.length->JR K rec (rA a b used i) (lA a b used i) (d9 a b used i).2.2/\JR K rec (lA a b used i) (rA a b used i) (d9 a b used i).2.2)(hK:20<=K)(hB:nB K a b<=bq)
  (hR:∀i,i<a.Args.length->R m (rA a b used i) (lA a b used i) tag (d9 a b used i).2.2=some (rec (rA a b used i) (lA a b used i) (d9 a b used i).2.2,0)/\R m (lA a b used i) (rA a b used i) tag (d9 a b used i).2.2=some (rec (lA a b used i) (rA a b used i) (d9 a b used i).2.2,0)):
  BW R m a b 0 tag used=some (tH rec a b used n n,0):=by
 have al:=h.al
 have h1:=fA a
 have h2:=iL a
 have h3:=iL b
 have c1:=h.la;have c2:=h.lb;have c6:=h.u
 have key:=eP (F:=xp R) (fun x=>n - x.2.2.2.1.toNat) (fun x=>∃i:Nat,i<=n/\x=(m,qt a (d9 a b used i).1,qt b (d9 a b used i).2.1,(i:Int),tag,(d9 a b used i).2.2)) (fun x=>(tH rec a b used n (n - x.2.2.2.1.toNat),0)) (fun R2 x hx ih=>?_) (m,a,b,0,tag,used) ⟨0,by omega,by rw[show qt a (d9 a b used 0).1=a from Te a,show qt b (d9 a b used 0).2.1=b from Te b];rfl⟩ (ed (by show n - 0<=bq;unfold bq;omega))
 ·exact key
 ·obtain⟨i,hi,rfl⟩:=hx
  obtain⟨q1,q2,_,_⟩:=Qk h i i (by omega) (vah _)
  have l1:=qcK a b used i
  have u1:=Mo a b used i
  have v1:=h.okVs i (by omega)
  show qU R (fun m a a2 i tag used=>R2 (m,a,a2,i,tag,used)) m (qt a (d9 a b used i).1) (qt b (d9 a b used i).2.1) (i:Int) tag (d9 a b used i).2.2=some (tH rec a b used n (n - i),0)
  unfold qU
  have hlen:(qt b (d9 a b used i).2.1).Args.length=n+1:=by show(d9 a b used i).2.1.length=_;omega
  rw[hlen,dB (n:=((n+1:Nat):Int) - 1) (by omega) (by omega)]
  by_cases he:i=n
  ·subst he
   rw[vad (by simp),show(qt a (d9 a b used i).1).Args=(d9 a b used i).1 from rfl,show(qt b (d9 a b used i).2.1).Args=(d9 a b used i).2.1 from rfl,Cr q1,Cr q2]
   simp only[vaa]
   rw[(hR i (by omega)).2,vby]
   rfl
  ·have hin:i<n:=by omega
   have hne:∀s∈b.Names,s≠[]:=((xv _).1 h.eb).1
   have hnea:∀s∈a.Names,s≠[]:=((xv _).1 h.ea).1
   rw[vae (by simp;omega)]
   have hj:pz (i:Int) (qt b (d9 a b used i).2.1)=some (b.Names.getD i [120]):=by
    unfold pz uV
    show(if decide ((i:Int)<(b.Names.length:Int))=true then(cz b.Names (i:Int)).bind fun x8=>some (!(x8==([]:ag)))else some false).bind (fun o9=>if o9=true then(cz b.Names (i:Int)).bind fun x12=>some x12 else some ([120]:ag))=_
    by_cases hb:i<b.Names.length
    ·rw[vad (by simp;omega),bo _ i hb,vac,vab hb]
     simp only[vaa]
     rw[vad (by have:=hne _ (vak hb);simpa using this)]
     rfl
    ·rw[vae (by simp;omega),vac,vat (by omega)];rfl
   rw[hj]
   simp only[vaa]
   rw[TJ _ i [] (by omega) (by show b.Names.length<=_;omega) (by simp)]
   simp only[vaa]
   rw[TJ _ i _ (by omega) (by show a.Names.length<=_;omega) (by show(([]:List ag)++b.Names.drop (i+1)).length<=_;simp;omega)]
   simp only[vaa]
   rw[show(qt a (d9 a b used i).1).Names=a.Names from rfl,show(qt b (d9 a b used i).2.1).Names=b.Names from rfl,vaC,cN (by simp;omega)]
   simp only[vaa]
   rw[(qcL h i (by omega)).2,show(qt a (d9 a b used i).1).Args=(d9 a b used i).1 from rfl,show(qt b (d9 a b used i).2.1).Args=(d9 a b used i).2.1 from rfl,Cr q1,Cr q2]
   simp only[vaa]
   rw[(hR i (by omega)).1]
   simp only[vaa]
   rw[vae (by simp),Q2 (qt a (d9 a b used i).1) i _ (by show(d9 a b used i).1.length<=_;omega) (by show i<(d9 a b used i).1.length;omega) v1.1 (by show a.Names.length<=_;omega) hnea,Q2 (qt b (d9 a b used i).2.1) i _ (by show(d9 a b used i).2.1.length<=_;omega) (by show i<(d9 a b used i).2.1.length;omega) v1.2 (by show b.Names.length<=_;omega) hne]
   simp only[vaa]
   rw[cN (by simp;omega),vaC]
   simp only[vaa]
   rw[cN (by simp;omega)]
   simp only[vaa]
   rw[dB (by omega) (by omega),show((i:Int)+1)=((i+1:Nat):Int) by omega]
   have hi2:=ih (m,qt a (d9 a b used (i+1)).1,qt b (d9 a b used (i+1)).2.1,((i+1:Nat):Int),tag,(d9 a b used (i+1)).2.2) (by show n - (i+1)<n - i;omega) ⟨i+1,by omega,rfl⟩
   have hi3:R2 (m,qt a (d9 a b used (i+1)).1,qt b (d9 a b used (i+1)).2.1,((i+1:Nat):Int),tag,(d9 a b used (i+1)).2.2)=some (tH rec a b used n (n - (i+1)),0):=hi2
   refine(va9 (fun z=>Option.bind z _) hi3).trans ?_
   simp only[vaa]
   obtain⟨k,hk⟩:∃k,k=n - (i+1):=⟨_,rfl⟩
   have hki:i=n - (k+1):=by omega
   have hp:=WU h n hn hr hK k (by omega)
   have ok:=h.child i (by omega)
   have ok1:=ok.1.lb
   have ok2:=ok.1.wb
   have w1:=rX (rA a b used i)
   rw[vae (by simp),XJ _ _ _ (by unfold bq;omega) (by unfold bq;omega),<-hk]
   simp only[vaa]
   rw[<-hki]at hp
   rw[TH _ (vaI hp hB),show n - i=k+1 by omega]
   have:tH rec a b used n (k+1)=Db (fO [rec (rA a b used i) (lA a b used i) (d9 a b used i).2.2,CV (rA a b used i) (YI a b (d9 a b used i).2.2 i) (tH rec a b used n k)]):=by rw[tH,<-hki]
   rw[this]
   rfl
def yk(m:aH)(tag:Int):Nat->Rc
 |0=>fun _ _ _=>MC
 |k+1=>fun a b used=>if a.Op=6 then(if a.Args.length=0 then Db []else tH (yk m tag k) a b used (a.Args.length - 1) (a.Args.length - 1))else if xw a=true then JC m tag a b used else Db []
structure qe2(m:aH)(D:Nat):Prop where
 ds:m.Datas.length<=1048576
 dp:∀d∈m.Datas,d.Preds.length<=D
 D:D<=1048576
theorem E7.nB{a b:ae}{used:List ag}{L:Nat}(h:E7 a b used L){D:Nat}(hD:D<=1048576):nB (2 * D+20) a b<=bq:=by
 have c1:=h.la;have c2:=h.lb;have c3:=h.wa;have c4:=h.wb
 have:(2 * D+20) * (cn a+cn b)<=(2 * 1048576+20) * 320:=vcf (by omega) (by omega)
 show(2 * D+20) * (cn a+cn b)+4 * (wT a+wT b)<=bq
 unfold bq;omega
theorem qeI{a:ae}(h:xw a=true):a.Op≠6:=by
 unfold xw at h
 simp only[vbb,vao]at h
 omega
theorem th{m:aH}{D:Nat}(hm:qe2 m D)(tag:Int):∀(k:Nat) (a b:ae) (used:List ag) (L:Nat),E7 a b used L->nT a<=k->JR (2 * D+20) (yk m tag k) a b used
 |0,a,b,used,L,h,hk=>by have:1<=nT a:=pd _;omega
 | k + 1,a,b,used,L,h,hk => by
  have e:2 * (2 * D+20)<=(2 * D+20) * (cn a+cn b):=by
   rw[vcw];exact vbK _ (by have:=pd a;have:=pd b;omega)
  have w1:=rX a
  have w2:=rX b
  have z:nC (Db [])=2:=by simp[nC,yj,nP,nL,gQ]
  unfold JR
  show nC (if a.Op=6 then _ else _)+8+nP a.Pred+nP b.Pred<=(2 * D+20) * (cn a+cn b)+4 * (wT a+wT b)
  by_cases h6:a.Op=6
  ·rw[vad h6]
   by_cases h0:a.Args.length=0
   ·rw[vad h0,z];omega
   ·rw[vae h0]
    have h2:=qcJ (K:=2 * D+20) (rec:=yk m tag k) h (a.Args.length - 1) (by omega) (fun i hi=>by
     have hc:=h.child i hi
     exact⟨th hm tag k _ _ _ _ hc.2.1 (by omega),th hm tag k _ _ _ _ hc.1 (by omega)⟩) (a.Args.length - 1) (vah _)
    rw[vby]at h2
    have h3:=Td (2 * D+20) a b (by omega)
    have h4:nB (2 * D+20) a b=(2 * D+20) * (cn a+cn b)+4 * (wT a+wT b):=rfl
    omega
  ·rw[vae h6]
   by_cases hb:xw a=true
   ·rw[vad hb]
    have h2:=qeH m tag a b used D (H9 m a.Name D hm.dp)
    omega
   ·rw[vae hb,z];omega
theorem Tf{rec rec':Rc}{a b:ae}{used:List ag}(n:Nat)(h:∀i,i<=n->rec (rA a b used i) (lA a b used i) (d9 a b used i).2.2=rec' (rA a b used i) (lA a b used i) (d9 a b used i).2.2/\rec (lA a b used i) (rA a b used i) (d9 a b used i).2.2=rec' (lA a b used i) (rA a b used i) (d9 a b used i).2.2):∀k,k<=n->tH rec a b used n k=tH rec' a b used n k
 |0,_=>(h n (vah _)).2
 |k+1,hk=>by
  rw[tH,tH,Tf n h k (by omega),(h (n - (k+1)) (by omega)).1]
theorem wt{m:aH}(tag:Int):∀(k k':Nat) (a b:ae) (used:List ag) (L:Nat),E7 a b used L->nT a<=k->nT a<=k'->yk m tag k a b used=yk m tag k' a b used
 |0,k',a,b,used,L,h,hk,_=>by have:1<=nT a:=pd _;omega
 |k+1,0,a,b,used,L,h,_,hk=>by have:1<=nT a:=pd _;omega
 | k + 1,k' + 1,a,b,used,L,h,hk,hk' => by
  show(if a.Op=6 then _ else _)=(if a.Op=6 then _ else _)
  by_cases h6:a.Op=6
  ·rw[vad h6,vad h6]
   by_cases h0:a.Args.length=0
   ·rw[vad h0,vad h0]
   ·rw[vae h0,vae h0]
    refine Tf _ (fun i hi=>?_) _ (vah _)
    have hc:=h.child i (by omega)
    exact⟨wt tag k k' _ _ _ _ hc.2.1 (by omega) (by omega),wt tag k k' _ _ _ _ hc.1 (by omega) (by omega)⟩
  ·rw[vae h6,vae h6]
def N3(m:aH)(tag:Int)(a b:ae)(used:List ag):ai:=yk m tag (nT a) a b used
theorem E7.b{m:aH}{D:Nat}(hm:qe2 m D){a b:ae}{used:List ag}{L:Nat}(h:E7 a b used L):qkg m a b used where
 u:=by have:=h.u;omega
 la:=by have:=h.la;omega
 lb:=by have:=h.lb;omega
 wa:=by have:=h.wa;omega
 wb:=by have:=h.wb;omega
 ds:=by have:=hm.ds;omega
 dp:=fun d hd=>by have:=hm.dp d hd;have:=hm.D;omega
theorem qdI{m:aH}{D:Nat}(hm:qe2 m D)(tag:Int){a b:ae}{used:List ag}{L:Nat}(h:E7 a b used L):qb ⟨m,tag⟩ a b used=some (N3 m tag a b used):=by
 refine eP (F:=nf) (fun x=>nT x.2.1) (fun x=>x.1=⟨m,tag⟩/\∃L,E7 x.2.1 x.2.2.1 x.2.2.2 L) (fun x=>N3 m tag x.2.1 x.2.2.1 x.2.2.2) (fun R x hx ih=>?_) (⟨m,tag⟩,a,b,used) ⟨rfl,L,h⟩ (ed (by have:=Xk a;have:=h.la;show nT a<=bq;unfold bq;omega))
 obtain⟨w,a,b,used⟩:=x
 obtain⟨hw,L,h⟩:=hx
 have hw:w=⟨m,tag⟩:=hw
 subst hw
 have h:E7 a b used L:=h
 show jc (fun w a a2 used=>R (w,a,a2,used)) ⟨m,tag⟩ a b used=some (yk m tag (nT a) a b used)
 obtain⟨k,hk⟩:∃k,nT a=k+1:=⟨nT a - 1,by have:1<=nT a:=pd _;omega⟩
 have hs:yk m tag (nT a) a b used=if a.Op=6 then(if a.Args.length=0 then Db []else tH (yk m tag k) a b used (a.Args.length - 1) (a.Args.length - 1))else if xw a=true then JC m tag a b used else Db []:=by rw[hk];rfl
 rw[hs]
 unfold jc
 by_cases h6:a.Op=6
 ·rw[vad (by simpa using h6),vad h6]
  by_cases h0:a.Args.length=0
  ·rw[vad (by simp[h0]),vad h0];rfl
  ·rw[vae (by simpa using h0),vae h0]
   have hc:∀i,i<a.Args.length->yk m tag (nT (rA a b used i)) (rA a b used i) (lA a b used i) (d9 a b used i).2.2=yk m tag k (rA a b used i) (lA a b used i) (d9 a b used i).2.2/\yk m tag (nT (lA a b used i)) (lA a b used i) (rA a b used i) (d9 a b used i).2.2=yk m tag k (lA a b used i) (rA a b used i) (d9 a b used i).2.2:=fun i hi=>by
    have hc:=h.child i hi
    exact⟨wt tag _ _ _ _ _ _ hc.2.1 (vah _) (by omega),wt tag _ _ _ _ _ _ hc.1 (vah _) (by omega)⟩
   rw[Vz (fun w a a2 used=>R (w,a,a2,used)) m tag (K:=2 * D+20) (rec:=yk m tag k) h (a.Args.length - 1) (by omega) (fun i hi=>by
    have hc:=h.child i hi
    exact⟨th hm tag k _ _ _ _ hc.2.1 (by omega),th hm tag k _ _ _ _ hc.1 (by omega)⟩) (by omega) (h.nB hm.D) (fun i hi=>by
    have hch:=h.child i hi
    have:=hc i hi
    exact⟨(ih (⟨m,tag⟩,rA a b used i,lA a b used i,(d9 a b used i).2.2) (by show nT (rA a b used i)<nT a;omega) ⟨rfl,_,hch.2.1⟩).trans (va9 some this.1),(ih (⟨m,tag⟩,lA a b used i,rA a b used i,(d9 a b used i).2.2) (by show nT (lA a b used i)<nT a;omega) ⟨rfl,_,hch.1⟩).trans (va9 some this.2)⟩)]
   rfl
 ·rw[vae (by simpa using h6),vae h6,QG]
  simp only[vaa]
  cases hb:xw a with
  |false=>rfl
  |true=>
   rw[vae (by simp),vad rfl,qbu m tag a b used (h.b hm)]
   rfl
theorem qdV{m:aH}{D:Nat}(hm:qe2 m D)(tag:Int){a b:ae}{used:List ag}{L:Nat}(h:E7 a b used L):N9 m a b tag used=some (N3 m tag a b used,0):=by
 refine eP (F:=FO) (fun x=>nT x.2.1) (fun x=>x.1=m/\x.2.2.2.1=tag/\∃L,E7 x.2.1 x.2.2.1 x.2.2.2.2 L) (fun x=>(N3 m tag x.2.1 x.2.2.1 x.2.2.2.2,0)) (fun R x hx ih=>?_) (m,a,b,tag,used) ⟨rfl,rfl,L,h⟩ (ed (by have:=Xk a;have:=h.la;show nT a<=bq;unfold bq;omega))
 obtain⟨m',a,b,tag',used⟩:=x
 obtain⟨hw,hg,L,h⟩:=hx
 have hw:m'=m:=hw
 have hg:tag'=tag:=hg
 subst hw;subst hg
 have h:E7 a b used L:=h
 show wm (fun m a a2 tag used=>R (m,a,a2,tag,used)) m' a b tag' used=some (yk m' tag' (nT a) a b used,0)
 obtain⟨k,hk⟩:∃k,nT a=k+1:=⟨nT a - 1,by have:1<=nT a:=pd _;omega⟩
 have hs:yk m' tag' (nT a) a b used=if a.Op=6 then(if a.Args.length=0 then Db []else tH (yk m' tag' k) a b used (a.Args.length - 1) (a.Args.length - 1))else if xw a=true then JC m' tag' a b used else Db []:=by rw[hk];rfl
 rw[hs]
 unfold wm
 rw[TQ a b (by have:=h.la;unfold bq;omega),(VL a b).2 h.pl]
 simp only[vaa]
 rw[vae (by simp),XI]
 simp only[vaa]
 cases hb:xw a with
 |true=>
  rw[vad rfl,vae (qeI hb),vad rfl,qbI m' tag' a b used (h.b hm) hb]
  rfl
 | false =>
  rw[vae (by simp)]
  unfold HU
  by_cases h6:a.Op=6
  ·rw[vad (by simpa using h6),vad h6]
   simp only[vaa]
   by_cases h0:a.Args.length=0
   ·rw[vae (by simp[h0]),vad h0];rfl
   ·rw[vad (by simp;omega),vae h0]
    have hc:∀i,i<a.Args.length->yk m' tag' (nT (rA a b used i)) (rA a b used i) (lA a b used i) (d9 a b used i).2.2=yk m' tag' k (rA a b used i) (lA a b used i) (d9 a b used i).2.2/\yk m' tag' (nT (lA a b used i)) (lA a b used i) (rA a b used i) (d9 a b used i).2.2=yk m' tag' k (lA a b used i) (rA a b used i) (d9 a b used i).2.2:=fun i hi=>by
     have hc:=h.child i hi
     exact⟨wt tag' _ _ _ _ _ _ hc.2.1 (vah _) (by omega),wt tag' _ _ _ _ _ _ hc.1 (vah _) (by omega)⟩
    rw[VI (fun m a a2 tag used=>R (m,a,a2,tag,used)) m' tag' (K:=2 * D+20) (rec:=yk m' tag' k) h (a.Args.length - 1) (by omega) (fun i hi=>by
     have hc:=h.child i hi
     exact⟨th hm tag' k _ _ _ _ hc.2.1 (by omega),th hm tag' k _ _ _ _ hc.1 (by omega)⟩) (by omega) (h.nB hm.D) (fun i hi=>by
     have hch:=h.child i hi
     have:=hc i hi
     exact⟨(ih (m',rA a b used i,lA a b used i,tag',(d9 a b used i).2.2) (by show nT (rA a b used i)<nT a;omega) ⟨rfl,rfl,_,hch.2.1⟩).trans (va9 (fun z=>some (z,(0:Int))) this.1),(ih (m',lA a b used i,rA a b used i,tag',(d9 a b used i).2.2) (by show nT (lA a b used i)<nT a;omega) ⟨rfl,rfl,_,hch.1⟩).trans (va9 (fun z=>some (z,(0:Int))) this.2)⟩)]
    rfl
  ·rw[vae (by simpa using h6),vae h6]
   rfl
theorem qg1{m:aH}{D:Nat}(hm:qe2 m D)(tag:Int){a b:ae}{used:List ag}{L:Nat}(h:E7 a b used L):2 * nC (N3 m tag a b used)<=2 * bq/\nC (N3 m tag a b used)<=(2 * D+20) * (cn a+cn b)+4 * (wT a+wT b):=by
 have h1:=th hm tag (nT a) a b used L h (vah _)
 have h2:=h.nB hm.D
 unfold JR at h1
 unfold N3
 have h4:nB (2 * D+20) a b=(2 * D+20) * (cn a+cn b)+4 * (wT a+wT b):=rfl
 omega
theorem mI{α:Type}{l:List α}{i:Nat}{n most:Int}(h:i<l.length)(hm:n<=most):(if(decide ((i:Int)<(l.length:Int)))=true then some (decide (n<=most))else some false)=some true:=by
 rw[vad (by simp;omega),vbk hm]
theorem iV{α:Type}{l:List α}{i:Nat}{n most:Int}(h:i=l.length\/¬n<=most):(if(decide ((i:Int)<(l.length:Int)))=true then some (decide (n<=most))else some false)=some false:=by
 by_cases hi:i<l.length
 ·rw[vad (by simp;omega)]
  rcases h with h|h
  ·omega
  ·rw[decide_eq_false h]
 ·rw[vae (by simp;omega)]
theorem VT{α:Type}(l:List α)(hl:l.length<9223372036854775808){body:Int×Int->Option ((Int×Int)⊕Int)}(most:Int)(I:Nat->Int->Prop)
  (hin:∀(i:Nat) (h:i<l.length) n,I i n->n<=most->fy (body (n,(i:Int))) (fun r=>∃n',r=.inl (n',aR ((i:Int)+1))/\I (i+1) n'))
  (hout:∀(i:Nat) n,i<=l.length->(i=l.length\/¬n<=most)->body (n,(i:Int))=some (.inr n)) (n:Int) (h0:I 0 n):fy (loop body (n,0)) (fun r=>∃i,i<=l.length/\I i r/\(i=l.length\/¬r<=most)):=by
 have key:∀k i n,k+i=l.length->I i n->fy (loop body (n,(i:Int))) (fun r=>∃i,i<=l.length/\I i r/\(i=l.length\/¬r<=most)):=by
  intro k
  induction k with
  |zero=>
   intro i n hi hI
   rw[km,hout i n (by omega) (.inl (by omega))]
   exact aq ⟨i,by omega,hI,.inl (by omega)⟩
  | succ k ih =>
   intro i n hi hI
   by_cases hm:n<=most
   ·obtain⟨r,e,n',rfl,hI'⟩:=hin i (by omega) n hI hm
    rw[km,e]
    simp only
    rw[dB (by omega) (by omega),show((i:Int)+1)=((i+1:Nat):Int) by omega]
    exact ih (i+1) n' (by omega) hI'
   ·rw[km,hout i n (by omega) (.inr hm)]
    exact aq ⟨i,by omega,hI,.inr hm⟩
 exact key l.length 0 n (by omega) h0
theorem qdN(a b:Nat)(hb:0<b)(ha:a<9223372036854775808):qu .i64 (a:Int) (b:Int)=some ((a / b:Nat):Int):=by
 unfold qu
 rw[vae (by omega)]
 have h:((a:Int).tdiv (b:Int))=((a / b:Nat):Int):=by
  rw[vca (by omega)];rfl
 rw[h]
 have h2:=vcD a b
 generalize a / b=q at *
 congr 1
 exact dB (by omega) (by omega)
theorem Fe(p:aa):gf (ac p)=1+(p.Name.length+1+(1+(bZ (p.Kids.map ac)+1+0))):=by
 rw[aJ];simp only[gf,pm,sl]
theorem Tw{α:Type}(c:α->List PVal)(l:List α)(i:Nat)(h:i<l.length):bZ ((l.take (i+1)).map c)=bZ ((l.take i).map c)+gf (c l[i]):=by
 rw[vaM h,vbH]
 have:∀(a b:List (List PVal)),bZ (a++b)=bZ a+bZ b:=by
  intro a
  induction a with
  |nil=>intro b;simp[bZ]
  |cons x a ih=>intro b;rw[vaG,bZ,ih,bZ];omega
 rw[this]
 simp[bZ]
theorem wd{α:Type}(c:α->List PVal)(l:List α)(i:Nat):bZ ((l.take i).map c)<=bZ (l.map c):=by
 have:∀(l:List α) (i:Nat),bZ ((l.take i).map c)<=bZ (l.map c):=by
  intro l
  induction l with
  |nil=>intro i;simp
  |cons x l ih=>
   intro i
   cases i with
   |zero=>simp[bZ]
   |succ i=>have:=ih i;simp only[List.take_succ_cons,vay,bZ];omega
 exact this l i
theorem sY{α:Type}(c:α->List PVal)(h:∀x,1<=gf (c x)):∀(l:List α),l.length<=bZ (l.map c)
 |[]=>by simp
 |x::l=>by have:=sY c h l;have:=h x;simp only[vay,bZ,vaP];omega
theorem Xy(p:aa):1<=gf (ac p):=by rw[Fe];omega
theorem Xj(l:List aa):nL (l.take l.length)=nL l:=by rw[vbm]
abbrev A6:Nat:=4000000
structure qij(l:List aa)(most r:Int):Prop where
 lo:0<=r
 hi:r<=(bZ (l.map ac):Int)
 sm:r<=most->(nL l:Int)<=r
theorem qfb(l:List aa)(most:Int)(hl:bZ (l.map ac)<=A6)(h1: -8000000<=most)(h2:most<=1000000000):fy (KY l most) (qij l most):=by
 refine px (F:=Ec) (fun x=>bZ (x.1.map ac)) (fun x=>bZ (x.1.map ac)<=A6/\-8000000<=x.2/\x.2<=1000000000) (fun x r=>qij x.1 x.2 r) (fun R x hx ih=>?_) (l,most) ⟨hl,h1,h2⟩ (ed (vaI hl (by decide)))
 obtain⟨l,most⟩:=x
 obtain⟨hl,h1,h2⟩:=hx
 have hl:bZ (l.map ac)<=A6:=hl
 have h1: -8000000<=most:=h1
 have h2:most<=1000000000:=h2
 have hlen:=sY ac Xy l
 show fy (yG (fun a most=>R (a,most)) l most) _
 unfold yG BC
 unfold A6 at hl
 refine ax (VT l (by omega) most (fun i n=>0<=n/\n<=(bZ ((l.take i).map ac):Int)/\(n<=most->(nL (l.take i):Int)<=n)) (fun i hi n hI hm=>?_) (fun i n _ h=>?_) 0 ⟨by omega,by omega,fun _=>by simp[nL]⟩) (fun r hr=>aq ?_)
 ·obtain⟨g1,g2,g3⟩:=hI
  have e:=Tw ac l i hi
  have e2:=wd ac l (i+1)
  have ep:=Fe l[i]
  have en:=y4 l i hi
  have enp:=QD l[i]
  show fy (jJ (fun a most=>R (a,most)) l most n i) _
  unfold jJ vH
  rw[mI hi hm,bo l i hi]
  simp only[vaa,if_true]
  have hq:=vcD l[i].Name.length 50
  rw[show(50:Int)=((50:Nat):Int)from rfl,qdN _ 50 (by omega) (by omega)]
  simp only[vaa]
  rw[dB (n:=n+1) (by omega) (by omega),dB (n:=n+1+_) (by omega) (by omega),dB (n:=most - _) (by omega) (by omega)]
  refine ax (ih (l[i].Kids,most - (n+1+((l[i].Name.length / 50:Nat):Int))) (by show _<bZ (l.map ac);show bZ (l[i].Kids.map ac)<_;omega) ⟨by show bZ (l[i].Kids.map ac)<=A6;unfold A6;omega,by show -8000000<=most - _;omega,by show most - _<=1000000000;omega⟩) (fun r hr=>?_)
  have q1:=hr.lo
  have q2:r<=(bZ (l[i].Kids.map ac):Int):=hr.hi
  have q3:r<=most - (n+1+((l[i].Name.length / 50:Nat):Int))->(nL l[i].Kids:Int)<=r:=hr.sm
  rw[dB (n:=n+1+_+r) (by omega) (by omega)]
  refine aq ⟨_,rfl,by omega,by omega,fun hm'=>?_⟩
  have:=q3 (by omega)
  have:=g3 hm
  omega
 ·show jJ (fun a most=>R (a,most)) l most n i=_
  unfold jJ vH
  rw[iV h]
  rfl
 ·obtain⟨i,hi,⟨g1,g2,g3⟩,h⟩:=hr
  have e2:=wd ac l i
  refine⟨g1,by show r<=(bZ (l.map ac):Int);omega,fun hm=>?_⟩
  have hm:r<=most:=hm
  have:i=l.length:=by
   rcases h with h|h
   ·exact h
   ·exact absurd hm h
  subst this
  rw[Xj]at g3
  exact g3 hm
theorem YT(l:List ae)(i:Nat)(h:i<l.length):dv (l.take (i+1))=dv (l.take i)+cn l[i]:=by
 have ap:∀(a b:List ae),dv (a++b)=dv a+dv b:=by
  intro a
  induction a with
  |nil=>intro b;simp[dv]
  |cons x a ih=>intro b;rw[vaG,dv,ih,dv];omega
 rw[vaM h,ap]
 simp[dv]
theorem XC(t:ae):1<=gf (af t):=by rw[AS];omega
theorem TA(t:ae):gf (af t)=1+(t.Name.length+1)+(bZ (t.Args.map af)+1)+(bZ (t.Names.map cS)+1)+gf (ac t.Pred)+(bZ (t.Preds.map ac)+1):=by
 rw[AS,Fe];simp only[pm,sl];omega
structure qik(l:List ae)(most r:Int):Prop where
 lo:0<=r
 hi:r<=(bZ (l.map af):Int)
 sm:r<=most->(dv l:Int)<=r/\(uA l:Int)<=r
theorem qfq(l:List ae)(most:Int)(hl:bZ (l.map af)<=A6)(h1: -8000000<=most)(h2:most<=1000000000):fy (FH l most) (qik l most):=by
 refine px (F:=Ed) (fun x=>bZ (x.1.map af)) (fun x=>bZ (x.1.map af)<=A6/\-8000000<=x.2/\x.2<=1000000000) (fun x r=>qik x.1 x.2 r) (fun R x hx ih=>?_) (l,most) ⟨hl,h1,h2⟩ (ed (vaI hl (by decide)))
 obtain⟨l,most⟩:=x
 obtain⟨hl,h1,h2⟩:=hx
 have hl:bZ (l.map af)<=A6:=hl
 have h1: -8000000<=most:=h1
 have h2:most<=1000000000:=h2
 have hlen:=sY af XC l
 show fy (yH (fun a most=>R (a,most)) l most) _
 unfold yH BD
 unfold A6 at hl
 refine ax (VT l (by omega) most (fun i n=>0<=n/\n<=(bZ ((l.take i).map af):Int)/\(n<=most->(dv (l.take i):Int)<=n/\(uA (l.take i):Int)<=n)) (fun i hi n hI hm=>?_) (fun i n _ h=>?_) 0 ⟨by omega,by omega,fun _=>by simp[dv,uA]⟩) (fun r hr=>aq ?_)
 ·obtain⟨g1,g2,g3⟩:=hI
  have e:=Tw af l i hi
  have e2:=wd af l (i+1)
  have ep:=TA l[i]
  have epp:=Fe l[i].Pred
  have en:=YT l i hi
  have en2:=Fy l i hi
  have enp:=tI l[i]
  have enp2:=rX l[i]
  have hns:=ZX l[i].Names
  have hps:=qfV l[i].Preds
  have hpl:=Cx l[i].Preds
  show fy (jK (fun a most=>R (a,most)) l most n i) _
  unfold jK vI
  rw[mI hi hm,bo l i hi]
  simp only[vaa,if_true]
  have hq:=vcD l[i].Name.length 50
  rw[show(50:Int)=((50:Nat):Int)from rfl,qdN _ 50 (by omega) (by omega)]
  simp only[vaa]
  rw[cN (by simp;omega)]
  simp only[vaa]
  refine ax (qfb ([l[i].Pred]++l[i].Preds) most (by unfold A6;simp only[List.singleton_append,vay,bZ];omega) h1 h2) (fun rp hp=>?_)
  have p1:=hp.lo
  have p2:rp<=((gf (ac l[i].Pred)+bZ (l[i].Preds.map ac):Nat):Int):=by
   have:=hp.hi
   simp only[List.singleton_append,vay,bZ]at this
   exact this
  have p3:rp<=most->((nP l[i].Pred+nL l[i].Preds:Nat):Int)<=rp:=by
   have:=hp.sm
   simp only[List.singleton_append,nL]at this
   exact this
  rw[dB (n:=n+1) (by omega) (by omega),dB (n:=n+1+_) (by omega) (by omega),dB (n:=n+1+_+_) (by omega) (by omega),dB (n:=n+1+_+_+_) (by omega) (by omega),dB (n:=most - _) (by omega) (by omega)]
  refine ax (ih (l[i].Args,most - (n+1+((l[i].Name.length / 50:Nat):Int)+(l[i].Names.length:Int)+rp)) (by show _<bZ (l.map af);show bZ (l[i].Args.map af)<_;omega) ⟨by show bZ (l[i].Args.map af)<=A6;unfold A6;omega,by show -8000000<=most - _;omega,by show most - _<=1000000000;omega⟩) (fun r hr=>?_)
  have q1:=hr.lo
  have q2:r<=(bZ (l[i].Args.map af):Int):=hr.hi
  have q3:r<=most - (n+1+((l[i].Name.length / 50:Nat):Int)+(l[i].Names.length:Int)+rp)->(dv l[i].Args:Int)<=r/\(uA l[i].Args:Int)<=r:=hr.sm
  rw[dB (n:=_+r) (by omega) (by omega)]
  refine aq ⟨_,rfl,by omega,by omega,fun hm'=>?_⟩
  have:=q3 (by omega)
  have:=p3 (by omega)
  have:=g3 hm
  have:=Vq l[i].Pred
  omega
 ·show jK (fun a most=>R (a,most)) l most n i=_
  unfold jK vI
  rw[iV h]
  rfl
 ·obtain⟨i,hi,⟨g1,g2,g3⟩,h⟩:=hr
  have e2:=wd af l i
  refine⟨g1,by show r<=(bZ (l.map af):Int);omega,fun hm=>?_⟩
  have hm:r<=most:=hm
  have:i=l.length:=by
   rcases h with h|h
   ·exact h
   ·exact absurd hm h
  subst this
  rw[vbm]at g3
  exact g3 hm
theorem qgG(l:List ae)(most:Int)(hl:bZ (l.map af)<=A6)(h1:0<=most)(h2:most<=1000000000):fy (I1 ⟨0,[],0,[],[],[],l⟩ most) (fun r=>0<=r/\(r<=most->(dv l:Int)<=r/\(uA l:Int)<=r)):=by
 unfold I1
 refine px (F:=HG) (fun _=>0) (fun x=>x=(⟨0,[],0,[],[],[],l⟩,most)) (fun _ r=>0<=r/\(r<=most->(dv l:Int)<=r/\(uA l:Int)<=r)) (fun R x hx ih=>?_) _ rfl (ed (by decide))
 rw[hx]
 show fy (BB (fun a most=>R (a,most)) ⟨0,[],0,[],[],[],l⟩ most) _
 unfold BB
 refine cT (a:=0) (show qu .i64 0 50=some 0 by decide) ?_
 refine ax (qfq l most hl (by omega) h2) (fun r hr=>?_)
 have q1:=hr.lo
 have q2:=hr.hi
 have q3:=hr.sm
 unfold A6 at hl
 rw[dB (n:=1+0) (by omega) (by omega),dB (n:=1+0+r) (by omega) (by omega)]
 refine cT (a:=1+0+r) ?_ (cT (a:=1+0+r) ?_ (cT (a:=1+0+r) ?_ (aq ⟨by omega,fun h=>⟨by have:=(q3 (by omega)).1;omega,by have:=(q3 (by omega)).2;omega⟩⟩)))
 ·exact jV rfl
 ·exact jV rfl
 ·exact jV rfl
theorem iu{α:Type}(l:List α)(hl:l.length<9223372036854775808){body:Int×Int->Option ((Int×Int)⊕Int)}(most:Int)
  (hin:∀(i:Nat) (h:i<l.length) n,n<=most->fy (body (n,(i:Int))) (fun r=>∃n',r=.inl (n',aR ((i:Int)+1))))
  (hout:∀(i:Nat) n,i<=l.length->(i=l.length\/¬n<=most)->body (n,(i:Int))=some (.inr n)) (n:Int):fy (loop body (n,0)) (fun _=>True):=
 (VT l hl most (fun _ _=>True) (fun i h n _ hm=>(hin i h n hm).mono fun r ⟨n',e⟩=>⟨n',e,trivial⟩) hout n trivial).mono fun _ _=>trivial
theorem LZ(k:IntKind)(a b:Int)(hb:b≠0):fy (qu k a b) (fun _=>True):=by
 unfold qu;rw[vae hb];exact aq trivial
theorem CE(l:List aa)(most:Int)(hl:bZ (l.map ac)<=A6):fy (eV l most) (fun _=>True):=by
 refine px (F:=sH) (fun x=>bZ (x.1.map ac)) (fun x=>bZ (x.1.map ac)<=A6) (fun _ _=>True) (fun R x hx ih=>?_) (l,most) hl (ed (vaI hl (by decide)))
 obtain⟨l,most⟩:=x
 have hl:bZ (l.map ac)<=A6:=hx
 have hlen:=sY ac Xy l
 show fy (np (fun a most=>R (a,most)) l most) _
 unfold np qP
 unfold A6 at hl
 refine ax (iu l (by omega) most (fun i hi n hm=>?_) (fun i n _ h=>?_) 0) (fun r _=>aq trivial)
 ·have e:=xQ (vaq.2 ⟨_,vak hi,rfl⟩:ac l[i]∈l.map ac)
  have ep:=Fe l[i]
  show fy (fi (fun a most=>R (a,most)) l most n i) _
  unfold fi lP
  rw[mI hi hm,bo l i hi]
  simp only[vaa,if_true]
  exact ax (LZ _ _ _ (by decide)) fun q _=>ax (ih (l[i].Kids,_) (by show bZ (l[i].Kids.map ac)<bZ (l.map ac);omega) (by show bZ (l[i].Kids.map ac)<=A6;unfold A6;omega)) fun r _=>aq ⟨_,rfl⟩
 ·show fi (fun a most=>R (a,most)) l most n i=_
  unfold fi lP
  rw[iV h]
  rfl
theorem VC(p:aa):bZ ([p].map ac)=gf (ac p):=by simp[bZ]
theorem Gn(l:List ae)(most:Int)(hl:bZ (l.map af)<=A6):fy (fT l most) (fun _=>True):=by
 refine px (F:=sI) (fun x=>bZ (x.1.map af)) (fun x=>bZ (x.1.map af)<=A6) (fun _ _=>True) (fun R x hx ih=>?_) (l,most) hl (ed (vaI hl (by decide)))
 obtain⟨l,most⟩:=x
 have hl:bZ (l.map af)<=A6:=hx
 have hlen:=sY af XC l
 show fy (nq (fun a most=>R (a,most)) l most) _
 unfold nq qQ
 unfold A6 at hl
 refine ax (iu l (by omega) most (fun i hi n hm=>?_) (fun i n _ h=>?_) 0) (fun r _=>aq trivial)
 ·have e:=xQ (vaq.2 ⟨_,vak hi,rfl⟩:af l[i]∈l.map af)
  have ep:=TA l[i]
  show fy (fj (fun a most=>R (a,most)) l most n i) _
  unfold fj lQ
  rw[mI hi hm,bo l i hi]
  simp only[vaa,if_true]
  exact ax (LZ _ _ _ (by decide)) fun q _=>ax (CE _ _ (by unfold A6;omega)) fun _ _=>ax (CE _ _ (by rw[VC];unfold A6;omega)) fun _ _=>ax (ih (l[i].Args,_) (by show bZ (l[i].Args.map af)<bZ (l.map af);omega) (by show bZ (l[i].Args.map af)<=A6;unfold A6;omega)) fun r _=>aq ⟨_,rfl⟩
 ·show fj (fun a most=>R (a,most)) l most n i=_
  unfold fj lQ
  rw[iV h]
  rfl
theorem Kf(t:ae):bZ ([t].map af)=gf (af t):=by simp[bZ]
theorem XA(e:bX):gf (aZ e)=1+(e.Name.length+1)+1+(bZ (e.Kids.map aZ)+1)+(bZ (e.Params.map d5)+1)+(bZ (e.Alts.map fo)+1)+(bZ (e.Types.map af)+1):=by
 rw[ef];simp only[gf,pm,sl];omega
theorem qaa(a:uw):gf (fo a)=(a.Con.length+1)+(bZ (a.Names.map cS)+1)+gf (aZ a.Body):=by
 rw[tE,ef];simp only[gf,pm,sl];omega
theorem Tz(a:qc):gf (d5 a)=(a.Name.length+1)+gf (af a.Type_):=by
 unfold d5;rw[eG];simp only[gf,pm]
theorem LI(α:Type){c:α->List PVal}(h:∀x,1<=gf (c x)){l:List α}(hl:bZ (l.map c)<=A6):l.length<9223372036854775808:=by
 have:=sY c h l
 unfold A6 at hl;omega
theorem LL{α:Type}{c:α->List PVal}{l:List α}{i:Nat}(h:i<l.length):gf (c l[i])<=bZ (l.map c):=xQ (vaq.2 ⟨_,vak h,rfl⟩)
theorem qe7(e:bX)(most:Int)(he:gf (aZ e)<=A6):fy (K1 e most) (fun _=>True):=by
 refine px (F:=Ee) (fun x=>gf (aZ x.1)) (fun x=>gf (aZ x.1)<=A6) (fun _ _=>True) (fun R x hx ih=>?_) (e,most) he (ed (vaI he (by decide)))
 obtain⟨e,most⟩:=x
 have he:gf (aZ e)<=A6:=hx
 have hp:=XA e
 show fy (yI (fun a most=>R (a,most)) e most) _
 unfold yI BE BF BG
 refine ax (LZ _ _ _ (by decide)) fun q _=>ax (Gn _ _ (by omega)) fun _ _=>ax (iu e.Params (LI _ (fun x=>by rw[Tz];omega) (c:=d5) (by omega)) most (fun i hi n hm=>?_) (fun i n _ h=>?_) _) fun _ _=>ax (iu e.Kids (LI _ (fun x=>by rw[XA];omega) (c:=aZ) (by omega)) most (fun i hi n hm=>?_) (fun i n _ h=>?_) _) fun _ _=>ax (iu e.Alts (LI _ (fun x=>by rw[qaa];omega) (c:=fo) (by omega)) most (fun i hi n hm=>?_) (fun i n _ h=>?_) _) fun _ _=>aq trivial
 ·have:=LL (c:=d5) hi
  have:=Tz e.Params[i]
  show fy (jL most e n i) _
  unfold jL vJ
  rw[mI hi hm,bo _ i hi]
  simp only[vaa,if_true]
  exact ax (LZ _ _ _ (by decide)) fun q _=>ax (Gn _ _ (by rw[Kf];omega)) fun r _=>aq ⟨_,rfl⟩
 ·show jL most e n i=_
  unfold jL vJ
  rw[iV h]
  rfl
 ·have:=LL (c:=aZ) hi
  show fy (jM (fun a most=>R (a,most)) most e n i) _
  unfold jM vK
  rw[mI hi hm,bo _ i hi]
  simp only[vaa,if_true]
  exact ax (ih (e.Kids[i],_) (by show gf (aZ e.Kids[i])<gf (aZ e);omega) (by show gf (aZ e.Kids[i])<=A6;omega)) fun r _=>aq ⟨_,rfl⟩
 ·show jM (fun a most=>R (a,most)) most e n i=_
  unfold jM vK
  rw[iV h]
  rfl
 ·have:=LL (c:=fo) hi
  have:=qaa e.Alts[i]
  show fy (jN (fun a most=>R (a,most)) most e n i) _
  unfold jN vM
  rw[mI hi hm,bo _ i hi]
  simp only[vaa,if_true]
  exact ax (ih (e.Alts[i].Body,_) (by show gf (aZ e.Alts[i].Body)<gf (aZ e);omega) (by show gf (aZ e.Alts[i].Body)<=A6;omega)) fun r _=>aq ⟨_,rfl⟩
 ·show jN (fun a most=>R (a,most)) most e n i=_
  unfold jN vM
  rw[iV h]
  rfl
theorem Tx(b:ng):gf (db b)=(b.Name.length+1)+(bZ (b.Vars.map bH)+1)+gf (ac b.Hyp)+gf (ac b.Goal):=by
 unfold db;simp only[eG,gf,pm,sl];omega
theorem qfa(b:qbT):(bZ (b.Bounds.map db)+1)+gf (af b.Type_)+(bZ (b.Metric.map ac)+1)<=gf (Cf b):=by
 unfold Cf;simp only[eG,gf,pm,sl];omega
theorem qac(b:sd):(b.Name.length+1)+gf (aZ b.Body)+gf (Cf b.Sig)<=gf (dG b):=by
 unfold dG;simp only[eG,gf,pm,sl];omega
theorem qcC(l:List sd)(most:Int)(hl:bZ (l.map dG)<=A6):fy (oM l most) (fun _=>True):=by
 unfold oM sF
 refine ax (iu l (LI _ (fun x=>by have:=qac x;omega) hl) most (fun i hi n hm=>?_) (fun i n _ h=>?_) _) fun _ _=>aq trivial
 ·have h1:=LL (c:=dG) hi
  have h2:=qac l[i]
  have h3:=qfa l[i].Sig
  show fy (fF l most n i) _
  unfold fF nm sG
  rw[mI hi hm,bo _ i hi]
  simp only[vaa,if_true]
  refine ax (LZ _ _ _ (by decide)) fun q _=>ax (Gn _ _ (by rw[Kf];omega)) fun r _=>ax (CE _ _ (by omega)) fun _ _=>ax (iu l[i].Sig.Bounds (LI _ (fun x=>by rw[Tx];omega) (c:=db) (by omega)) most (fun k hk n hm=>?_) (fun k n _ h=>?_) _) fun _ _=>ax (qe7 _ _ (by omega)) fun _ _=>aq ⟨_,rfl⟩
  ·have h4:=LL (c:=db) hk
   have h5:=Tx l[i].Sig.Bounds[k]
   show fy (fG most l[i].Sig.Bounds n k) _
   unfold fG nn
   rw[mI hk hm,bo _ k hk]
   simp only[vaa,if_true]
   exact ax (CE _ _ (by simp only[vay,vbW,bZ];omega)) fun _ _=>aq ⟨_,rfl⟩
  ·show fG most l[i].Sig.Bounds n k=_
   unfold fG nn
   rw[iV h]
   rfl
 ·show fF l most n i=_
  unfold fF nm
  rw[iV h]
  rfl
theorem QT(m:aH):gf (aB m)=(bZ (m.Datas.map cH)+1)+(bZ (m.Classes.map fC)+1)+(bZ (m.Instances.map ca)+1)+(bZ (m.Measures.map dc)+1)+(bZ (m.Quals.map fw)+1)+(bZ (m.Defs.map dG)+1):=by
 unfold aB;simp only[gf,pm,sl];omega
theorem Kg(b:d8):gf (cH b)=(b.Name.length+1)+(bZ (b.Vars.map cS)+1)+(bZ (b.Preds.map bH)+1)+(bZ (b.Cons.map ec)+1):=by
 unfold cH;simp only[eG,gf,pm,sl];omega
theorem qab(b:ee):gf (ec b)=(b.Name.length+1)+(bZ (b.Names.map cS)+1)+(bZ (b.Fields.map af)+1):=by
 unfold ec;simp only[eG,gf,pm,sl];omega
theorem Ty(b:rV):gf (fC b)=(b.Name.length+1)+(b.Var.length+1)+(bZ (b.Methods.map ew)+1):=by
 unfold fC;simp only[eG,gf,pm,sl];omega
theorem QS(b:tP):gf (ew b)=(b.Name.length+1)+gf (af b.Type_):=by
 unfold ew;simp only[eG,gf,pm,sl]
theorem Kh(b:eA):1+gf (af b.Type_)+(bZ (b.Defs.map dG)+1)<=gf (ca b):=by
 unfold ca;simp only[eG,gf,pm,sl];omega
theorem My(b:gP):1+(bZ (b.Cases.map fP)+1)+gf (ac b.Inv)<=gf (dc b):=by
 unfold dc;simp only[eG,gf,pm,sl];omega
theorem Xz(b:C7):1+gf (ac b.Body)<=gf (fP b):=by
 unfold fP;simp only[eG,gf,pm,sl];omega
theorem XB(b:vD):1+gf (ac b.Body)<=gf (fw b):=by
 unfold fw;simp only[eG,gf,pm,sl];omega
theorem qfm(m:aH)(hm:gf (aB m)<=A6):fy (FI m) (fun _=>True):=by
 have hp:=QT m
 unfold FI
 refine ax (R:=fun _=>True) ?_ fun o _=>aT (fun _=>aq trivial) fun _=>?_
 ·unfold BH
  exact aT (fun _=>aq trivial) fun _=>aT (fun _=>aq trivial) fun _=>aT (fun _=>aq trivial) fun _=>aT (fun _=>aq trivial) fun _=>aT (fun _=>aq trivial) fun _=>aq trivial
 unfold BI BK zE zF zH
 refine ax (qcC _ _ (by omega)) fun _ _=>ax (iu m.Datas (LI _ (fun x=>by rw[Kg];omega) (c:=cH) (by omega)) 4000 (fun i hi n hn=>?_) (fun i n hi h=>?_) _) fun _ _=>ax (iu m.Classes (LI _ (fun x=>by rw[Ty];omega) (c:=fC) (by omega)) 4000 (fun i hi n hn=>?_) (fun i n hi h=>?_) _) fun _ _=>ax (iu m.Instances (LI _ (fun x=>by have:=Kh x;omega) (c:=ca) (by omega)) 4000 (fun i hi n hn=>?_) (fun i n hi h=>?_) _) fun _ _=>ax (iu m.Measures (LI _ (fun x=>by have:=My x;omega) (c:=dc) (by omega)) 4000 (fun i hi n hn=>?_) (fun i n hi h=>?_) _) fun _ _=>ax (iu m.Quals (LI _ (fun x=>by have:=XB x;omega) (c:=fw) (by omega)) 4000 (fun i hi n hn=>?_) (fun i n hi h=>?_) _) fun _ _=>aq trivial
 ·have h1:=LL (c:=cH) hi
  have h2:=Kg m.Datas[i]
  show fy (jO m n i) _
  unfold jO vN BJ
  rw[mI hi hn,bo _ i hi]
  simp only[vaa,if_true]
  refine ax (LZ _ _ _ (by decide)) fun q _=>ax (iu m.Datas[i].Cons (LI _ (fun x=>by rw[qab];omega) (c:=ec) (by omega)) 4000 (fun k hk n hn=>?_) (fun k n _ h=>?_) _) fun _ _=>aq ⟨_,rfl⟩
  ·have h3:=LL (c:=ec) hk
   have h4:=qab m.Datas[i].Cons[k]
   show fy (jP m i n k) _
   unfold jP vO
   rw[bo _ i hi]
   simp only[vaa]
   rw[mI hk hn,bo _ k hk]
   simp only[vaa,if_true]
   exact ax (Gn _ _ (by omega)) fun _ _=>aq ⟨_,rfl⟩
  ·show jP m i n k=_
   unfold jP vO
   rw[bo _ i hi]
   simp only[vaa]
   rw[iV h]
   rfl
 ·show jO m n i=_
  unfold jO vN
  rw[iV h]
  rfl
 ·have h1:=LL (c:=fC) hi
  have h2:=Ty m.Classes[i]
  show fy (jQ m n i) _
  unfold jQ vP BL
  rw[mI hi hn]
  simp only[vaa,if_true]
  refine ax (iu m.Classes[i].Methods (LI _ (fun x=>by rw[QS];omega) (c:=ew) (by omega)) 4000 (fun k hk n hn=>?_) (fun k n _ h=>?_) _) fun _ _=>aq ⟨_,rfl⟩
  ·have h3:=LL (c:=ew) hk
   have h4:=QS m.Classes[i].Methods[k]
   show fy (jR m i n k) _
   unfold jR vQ
   rw[bo _ i hi]
   simp only[vaa]
   rw[mI hk hn,bo _ k hk]
   simp only[vaa,if_true]
   exact ax (Gn _ _ (by rw[Kf];omega)) fun _ _=>aq ⟨_,rfl⟩
  ·show jR m i n k=_
   unfold jR vQ
   rw[bo _ i hi]
   simp only[vaa]
   rw[iV h]
   rfl
 ·show jQ m n i=_
  unfold jQ vP
  rw[iV h]
  rfl
 ·have h1:=LL (c:=ca) hi
  have h2:=Kh m.Instances[i]
  show fy (iC m n i) _
  unfold iC tu
  rw[mI hi hn,bo _ i hi]
  simp only[vaa,if_true]
  exact ax (Gn _ _ (by rw[Kf];omega)) fun _ _=>ax (qcC _ _ (by omega)) fun _ _=>aq ⟨_,rfl⟩
 ·show iC m n i=_
  unfold iC tu
  rw[iV h]
  rfl
 ·have h1:=LL (c:=dc) hi
  have h2:=My m.Measures[i]
  show fy (iD m n i) _
  unfold iD tv zG
  rw[mI hi hn,bo _ i hi]
  simp only[vaa,if_true]
  refine ax (CE _ _ (by rw[VC];omega)) fun _ _=>ax (iu m.Measures[i].Cases (LI _ (fun x=>by have:=Xz x;omega) (c:=fP) (by omega)) 4000 (fun k hk n hn=>?_) (fun k n _ h=>?_) _) fun _ _=>aq ⟨_,rfl⟩
  ·have h3:=LL (c:=fP) hk
   have h4:=Xz m.Measures[i].Cases[k]
   show fy (iE m i n k) _
   unfold iE tw
   rw[bo _ i hi]
   simp only[vaa]
   rw[mI hk hn,bo _ k hk]
   simp only[vaa,if_true]
   exact ax (CE _ _ (by rw[VC];omega)) fun _ _=>aq ⟨_,rfl⟩
  ·show iE m i n k=_
   unfold iE tw
   rw[bo _ i hi]
   simp only[vaa]
   rw[iV h]
   rfl
 ·show iD m n i=_
  unfold iD tv
  rw[iV h]
  rfl
 ·have h1:=LL (c:=fw) hi
  have h2:=XB m.Quals[i]
  show fy (iF m n i) _
  unfold iF tx
  rw[mI hi hn,bo _ i hi]
  simp only[vaa,if_true]
  exact ax (CE _ _ (by rw[VC];omega)) fun _ _=>aq ⟨_,rfl⟩
 ·show iF m n i=_
  unfold iF tx
  rw[iV h]
  rfl
theorem PG:FQ=some true:=by kernel_rfl
theorem qao(t:ae)(h:gf (af t)<=1048576):fy (Av t) (fun r=>(!r)=true\/(cn t<=160/\wT t<=160)):=by
 unfold Av
 refine ax (qgG [t] 150 (by rw[Kf];unfold A6;omega) (by omega) (by omega)) fun r hr=>aq ?_
 by_cases hc:r<=150
 ·have h1:=hr.2 hc
  simp only[dv,uA]at h1
  exact .inr ⟨by omega,by omega⟩
 ·exact .inl (by simp;omega)
theorem qiz(l:List ag)(h:l.length<9223372036854775808):fy (Oa l) (fun _=>True):=by
 unfold Oa HZ
 refine ax (A0 l h (fun i (_:Unit)=>i) (fun _ _=>True) (Q:=fun _=>True) (fun i hi s _=>?_) (fun s _=>?_) () trivial) fun o _=>by cases o<;>exact aq trivial
 ·show fy (ny l (i:Int)) _
  unfold ny HY
  rw[vad (by simp;omega)]
  refine ax (R:=fun _=>True) (aT (fun _=>aq trivial) fun _=>cT (bo l i hi) (aq trivial)) fun o _=>aT (fun _=>aq trivial) fun _=>aq ⟨(),rfl,trivial⟩
 ·show fy (ny l (l.length:Int)) _
  unfold ny
  rw[vae (by simp)]
  exact aq trivial
theorem qfh(x:aQ)(ha:cn x.A<=bq)(hb:cn x.B<=bq)(pa:H1 (fun p=>nP p<=bq) x.A)(pb:H1 (fun p=>nP p<=bq) x.B):fy (FT x) (fun r=>(!r)=true\/(Dc x.A/\Dc x.B)):=by
 unfold FT
 refine ax (Ou x.A ha pa) fun r hr=>aT (fun h=>?_) (fun _=>aq (.inl rfl))
 refine ax (Ou x.B hb pb) fun r' hr'=>aq ?_
 by_cases h':r'=0
 ·exact .inr ⟨hr (by simpa using h),hr' (by simpa using h')⟩
 ·exact .inl (by simpa using h')
structure qcR(m:aH)(x:aQ)(used:List ag):Prop where
 la:cn x.A<=160
 lb:cn x.B<=160
 wa:wT x.A<=160
 wb:wT x.B<=160
 ea:Dc x.A
 eb:Dc x.B
theorem VB(x:aQ):gf (aE x)=gf (af x.A)+gf (af x.B)+1:=by
 unfold aE;simp only[eG,gf,pm];omega
abbrev qeP(m:aH)(x:aQ)(used:List ag):Prop:=gf (aB m)+(gf (aE x)+(pm (sl cS used)+0))<=1048576
theorem qco{t:ae}(h:gf (af t)<=1048576):cn t<=bq/\H1 (fun p=>nP p<=bq) t:=⟨by have:=ZZ t;unfold bq;omega,SV (fun p hp=>vaI hp (by decide)) t (Zu 1048576 t h)⟩
theorem qeS(m:aH)(x:aQ)(used:List ag)(h:qeP m x used):fy (fu used m x) (fun o=>o=true\/qcR m x used):=by
 have hp:=VB x
 have hl:=ZX used
 have hu:pm (sl cS used)=bZ (used.map cS)+1:=by simp only[pm,sl]
 unfold qeP at h
 have ga:=qco (t:=x.A) (by omega)
 have gb:=qco (t:=x.B) (by omega)
 unfold fu
 refine ax (qfm m (by unfold A6;omega)) fun _ _=>aT (fun _=>aq (.inl rfl)) fun _=>ax (qao x.A (by omega)) fun r1 h1=>aT (fun _=>aq (.inl rfl)) fun n1=>ax (qao x.B (by omega)) fun r2 h2=>aT (fun _=>aq (.inl rfl)) fun n2=>ax (qiz used (by omega)) fun _ _=>aT (fun _=>aq (.inl rfl)) fun _=>ax (qfh x ga.1 gb.1 ga.2 gb.2) fun r3 h3=>aq ?_
 have h1:=h1.resolve_left n1
 have h2:=h2.resolve_left n2
 rcases h3 with h3|h3
 ·exact .inl h3
 ·exact .inr ⟨h1.1,h2.1,h1.2,h2.2,h3.1,h3.2⟩
theorem qcR.f{m:aH}{x:aQ}{used:List ag}(h:qcR m x used)(hf:qeP m x used)(hs:pu x.A x.B=true):E7 x.A x.B used 1048576/\E7 x.B x.A used 1048576:=by
 have hp:=VB x
 have hl:=ZX used
 have hu:pm (sl cS used)=bZ (used.map cS)+1:=by simp only[pm,sl]
 unfold qeP at hf
 have n1:=Xk x.A
 have n2:=Xk x.B
 have:=h.la;have:=h.lb
 have e:=(VL _ _).1 hs
 exact⟨⟨e,h.la,h.lb,h.wa,h.wb,Jv _ _ (by omega),Jv _ _ (by omega),by omega,by omega,h.ea,h.eb⟩,⟨e.symm,h.lb,h.la,h.wb,h.wa,Jv _ _ (by omega),Jv _ _ (by omega),by omega,by omega,h.eb,h.ea⟩⟩
theorem QR{α:Type}(c:α->List PVal)(h:∀x,2<=gf (c x)):∀(l:List α),2 * l.length<=bZ (l.map c)
 |[]=>by simp
 |x::l=>by have:=QR c h l;have:=h x;simp only[vay,bZ,vaP];omega
theorem qgT{m:aH}(h:gf (aB m)<=1048576):qe2 m 524288:=by
 have hp:=QT m
 have hd:=sY cH (fun x=>by rw[Kg];omega) m.Datas
 refine⟨by omega,fun d hd'=>?_,by decide⟩
 have h1:=xQ (vaq.2 ⟨d,hd',rfl⟩:cH d∈m.Datas.map cH)
 have h2:=Kg d
 have h3:=QR bH (fun x=>by unfold bH;simp only[gf,pm];omega) d.Preds
 omega
theorem qe6{m:aH}{a b:ae}{used:List ag}{L D:Nat}(hm:qe2 m D)(tag:Int)(hl:cn a<=bq)(h:pu a b=true->E7 a b used L):nc m a b tag used=some (if pu a b=true then(N3 m tag a b used,0)else(MC,12)):=by
 unfold nc
 rw[qbF a b hl]
 simp only[vaa]
 cases hs:pu a b with
 |false=>rfl
 |true=>
  rw[vae (by simp),qdI hm tag (h hs)]
  rfl
theorem qfg{m:aH}{a b:ae}{used:List ag}{L D:Nat}(hm:qe2 m D)(tag:Int)(hl:cn a<=bq)(h:pu a b=true->E7 a b used L):N9 m a b tag used=some (if pu a b=true then(N3 m tag a b used,0)else(MC,12)):=by
 cases hs:pu a b with
 |true=>exact qdV hm tag (h hs)
 |false=>
  refine eP (F:=FO) (fun _=>0) (fun x=>x=(m,a,b,tag,used)) (fun x=>(MC,12)) (fun R x hx ih=>?_) (m,a,b,tag,used) rfl (ed (by decide))
  rw[hx]
  show wm (fun m a a2 tag used=>R (m,a,a2,tag,used)) m a b tag used=some (MC,12)
  unfold wm
  rw[TQ a b hl,hs]
  rfl
theorem AR(m:aH)(x:aQ)(used:List ag)(h:gf (aB m)+(gf (aE x)+(pm (sl cS used)+0))<=1048576):kf m x used=some true:=by
 obtain⟨o,e,ho⟩:=qeS m x used h
 have hp:=VB x
 have hm:qe2 m 524288:=qgT (by omega)
 unfold kf
 rw[e]
 simp only[vaa]
 by_cases hc:o=true
 ·rw[vad hc,PG];rfl
 ·have hL:=ho.resolve_left hc
  have hf:pu x.A x.B=true->E7 x.A x.B used 1048576:=fun hs=>(hL.f h hs).1
  have hlen:cn x.A<=bq:=by have:=hL.la;unfold bq;omega
  rw[vae hc,qe6 hm x.Tag hlen hf,qfg hm x.Tag hlen hf]
  simp only[vaa]
  have hn:nC (if pu x.A x.B=true then(N3 m x.Tag x.A x.B used,(0:Int))else(MC,12)).1<=bq:=by
   cases hs:pu x.A x.B with
   |true=>have:=(qg1 hm x.Tag (hf hs)).1;show nC (N3 m x.Tag x.A x.B used)<=bq;omega
   |false=>show nC MC<=bq;decide
  generalize (if pu x.A x.B=true then(N3 m x.Tag x.A x.B used,(0:Int))else(MC,12))=z at hn
  rw[Zi _ hn]
  simp only[vaa,if_true]
  rw[vad (by simp),PG]
  rfl
end Go.Proofs.YtbaamopmfmpfaaaGreatDoor
