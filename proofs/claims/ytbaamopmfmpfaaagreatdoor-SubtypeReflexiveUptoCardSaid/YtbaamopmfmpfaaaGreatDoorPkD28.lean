/- PROVED: parts of the proof (Bk1 Bk2 Su4 Ws1 Ws4). Conditions: none. -/
import Derived.Test.YtbaamopmfmpfaaaGreatDoorPkD27
import Derived.Test.YtbaamopmfmpfaaaGreatDoorPkD25
import Derived.Test.YtbaamopmfmpfaaaGreatDoorPkD26
noncomputable section
namespace Go.Proofs.YtbaamopmfmpfaaaGreatDoor
open Go
set_option linter.unusedVariables false
set_option linter.unusedSimpArgs false
def Fj(m:aR)(tag:Int):Nat->Rc
 |0=>fun _ _ _=>Y3
 |k+1=>fun a b used=>if a.Op=6 then(if a.Args.length=0 then F5 []else uq (Fj m tag k) a b used (a.Args.length - 1) (a.Args.length - 1))else if Ej a=true then Ek m tag a b used else F5 []
structure ZN(m:aR)(D:Nat):Prop where
 ds:m.Datas.length<=1048576
 dp:∀d∈m.Datas,d.Preds.length<=D
 D:D<=1048576
theorem Fr.nB{a b:ae}{used:List ag}{L:Nat}(h:Fr a b used L){D:Nat}(hD:D<=1048576):nB (2 * D+20) a b<=bk:=by
 have c1:=h.la;have c2:=h.lb;have c3:=h.wa;have c4:=h.wb
 have:(2 * D+20) * (cq a+cq b)<=(2 * 1048576+20) * 320:=vca (by omega) (by omega)
 show(2 * D+20) * (cq a+cq b)+4 * (wT a+wT b)<=bk
 unfold bk;omega
theorem wY{m:aR}{D:Nat}(hm:ZN m D)(tag:Int):∀(k:Nat) (a b:ae) (used:List ag) (L:Nat),Fr a b used L->nT a<=k->Ii (2 * D+20) (Fj m tag k) a b used
 |0,a,b,used,L,h,hk=>by have:1<=nT a:=mP _;omega
 | k + 1,a,b,used,L,h,hk => by
  have e:2 * (2 * D+20)<=(2 * D+20) * (cq a+cq b):=by
   rw[vcq];exact vbJ _ (by have:=mP a;have:=mP b;omega)
  have w1:=uo a
  have w2:=uo b
  have z:nC (F5 [])=2:=by simp[nC,rE,nP,nL,ic]
  unfold Ii
  show nC (if a.Op=6 then _ else _)+8+nP a.Pred+nP b.Pred<=(2 * D+20) * (cq a+cq b)+4 * (wT a+wT b)
  by_cases h6:a.Op=6
  ·rw[vaj h6]
   by_cases h0:a.Args.length=0
   ·rw[vaj h0,z];omega
   ·rw[van h0]
    have h2:=VO (K:=2 * D+20) (rec:=Fj m tag k) h (a.Args.length - 1) (by omega) (fun i hi=>by
     have hc:=h.child i hi
     exact⟨wY hm tag k _ _ _ _ hc.2.1 (by omega),wY hm tag k _ _ _ _ hc.1 (by omega)⟩) (a.Args.length - 1) (vah _)
    rw[vbB]at h2
    have h3:=MD (2 * D+20) a b (by omega)
    have h4:nB (2 * D+20) a b=(2 * D+20) * (cq a+cq b)+4 * (wT a+wT b):=rfl
    omega
  ·rw[van h6]
   by_cases hb:Ej a=true
   ·rw[vaj hb]
    have h2:=Xw m tag a b used D (JR m a.Name D hm.dp)
    omega
   ·rw[van hb,z];omega
theorem MG{rec rec':Rc}{a b:ae}{used:List ag}(n:Nat)(h:∀i,i<=n->rec (rA a b used i) (lA a b used i) (gD a b used i).2.2=rec' (rA a b used i) (lA a b used i) (gD a b used i).2.2/\rec (lA a b used i) (rA a b used i) (gD a b used i).2.2=rec' (lA a b used i) (rA a b used i) (gD a b used i).2.2):∀k,k<=n->uq rec a b used n k=uq rec' a b used n k
 |0,_=>(h n (vah _)).2
 |k+1,hk=>by
  rw[uq,uq,MG n h k (by omega),(h (n - (k+1)) (by omega)).1]
theorem BV{m:aR}(tag:Int):∀(k k':Nat) (a b:ae) (used:List ag) (L:Nat),Fr a b used L->nT a<=k->nT a<=k'->Fj m tag k a b used=Fj m tag k' a b used
 |0,k',a,b,used,L,h,hk,_=>by have:1<=nT a:=mP _;omega
 |k+1,0,a,b,used,L,h,_,hk=>by have:1<=nT a:=mP _;omega
 | k + 1,k' + 1,a,b,used,L,h,hk,hk' => by
  show(if a.Op=6 then _ else _)=(if a.Op=6 then _ else _)
  by_cases h6:a.Op=6
  ·rw[vaj h6,vaj h6]
   by_cases h0:a.Args.length=0
   ·rw[vaj h0,vaj h0]
   ·rw[van h0,van h0]
    refine MG _ (fun i hi=>?_) _ (vah _)
    have hc:=h.child i (by omega)
    exact⟨BV tag k k' _ _ _ _ hc.2.1 (by omega) (by omega),BV tag k k' _ _ _ _ hc.1 (by omega) (by omega)⟩
  ·rw[van h6,van h6]
def DP(m:aR)(tag:Int)(a b:ae)(used:List ag):ak:=Fj m tag (nT a) a b used
theorem Fr.b{m:aR}{D:Nat}(hm:ZN m D){a b:ae}{used:List ag}{L:Nat}(h:Fr a b used L):qdk m a b used where
 u:=by have:=h.u;omega
 la:=by have:=h.la;omega
 lb:=by have:=h.lb;omega
 wa:=by have:=h.wa;omega
 wb:=by have:=h.wb;omega
 ds:=by have:=hm.ds;omega
 dp:=fun d hd=>by have:=hm.dp d hd;have:=hm.D;omega
theorem WM{m:aR}{D:Nat}(hm:ZN m D)(tag:Int){a b:ae}{used:List ag}{L:Nat}(h:Fr a b used L):nI ⟨m,tag⟩ a b used=some (DP m tag a b used):=by
 refine jl (F:=lm) (fun x=>nT x.2.1) (fun x=>x.1=⟨m,tag⟩/\∃L,Fr x.2.1 x.2.2.1 x.2.2.2 L) (fun x=>DP m tag x.2.1 x.2.2.1 x.2.2.2) (fun R x hx ih=>?_) (⟨m,tag⟩,a,b,used) ⟨rfl,L,h⟩ (fq (by have:=Wi a;have:=h.la;show nT a<=bk;unfold bk;omega))
 obtain⟨w,a,b,used⟩:=x
 obtain⟨hw,L,h⟩:=hx
 have hw:w=⟨m,tag⟩:=hw
 subst hw
 have h:Fr a b used L:=h
 show ib (fun w a a2 used=>R (w,a,a2,used)) ⟨m,tag⟩ a b used=some (Fj m tag (nT a) a b used)
 obtain⟨k,hk⟩:∃k,nT a=k+1:=⟨nT a - 1,by have:1<=nT a:=mP _;omega⟩
 have hs:Fj m tag (nT a) a b used=if a.Op=6 then(if a.Args.length=0 then F5 []else uq (Fj m tag k) a b used (a.Args.length - 1) (a.Args.length - 1))else if Ej a=true then Ek m tag a b used else F5 []:=by rw[hk];rfl
 rw[hs]
 unfold ib
 by_cases h6:a.Op=6
 ·rw[vaj (by simpa using h6),vaj h6]
  by_cases h0:a.Args.length=0
  ·rw[vaj (by simp[h0]),vaj h0];rfl
  ·rw[van (by simpa using h0),van h0]
   have hc:∀i,i<a.Args.length->Fj m tag (nT (rA a b used i)) (rA a b used i) (lA a b used i) (gD a b used i).2.2=Fj m tag k (rA a b used i) (lA a b used i) (gD a b used i).2.2/\Fj m tag (nT (lA a b used i)) (lA a b used i) (rA a b used i) (gD a b used i).2.2=Fj m tag k (lA a b used i) (rA a b used i) (gD a b used i).2.2:=fun i hi=>by
    have hc:=h.child i hi
    exact⟨BV tag _ _ _ _ _ _ hc.2.1 (vah _) (by omega),BV tag _ _ _ _ _ _ hc.1 (vah _) (by omega)⟩
   rw[OR (fun w a a2 used=>R (w,a,a2,used)) m tag (K:=2 * D+20) (rec:=Fj m tag k) h (a.Args.length - 1) (by omega) (fun i hi=>by
    have hc:=h.child i hi
    exact⟨wY hm tag k _ _ _ _ hc.2.1 (by omega),wY hm tag k _ _ _ _ hc.1 (by omega)⟩) (by omega) (h.nB hm.D) (fun i hi=>by
    have hch:=h.child i hi
    have:=hc i hi
    exact⟨(ih (⟨m,tag⟩,rA a b used i,lA a b used i,(gD a b used i).2.2) (by show nT (rA a b used i)<nT a;omega) ⟨rfl,_,hch.2.1⟩).trans (vbp some this.1),(ih (⟨m,tag⟩,lA a b used i,rA a b used i,(gD a b used i).2.2) (by show nT (lA a b used i)<nT a;omega) ⟨rfl,_,hch.1⟩).trans (vbp some this.2)⟩)]
   rfl
 ·rw[van (by simpa using h6),van h6,Qh]
  simp only[vaa]
  cases hb:Ej a with
  |false=>rfl
  |true=>
   rw[van (by simp),vaj rfl,Ux m tag a b used (h.b hm)]
   rfl
theorem ZY{m:aR}{D:Nat}(hm:ZN m D)(tag:Int){a b:ae}{used:List ag}{L:Nat}(h:Fr a b used L):2 * nC (DP m tag a b used)<=2 * bk/\nC (DP m tag a b used)<=(2 * D+20) * (cq a+cq b)+4 * (wT a+wT b):=by
 have h1:=wY hm tag (nT a) a b used L h (vah _)
 have h2:=h.nB hm.D
 unfold Ii at h1
 unfold DP
 have h4:nB (2 * D+20) a b=(2 * D+20) * (cq a+cq b)+4 * (wT a+wT b):=rfl
 omega
theorem kL{α:Type}{l:List α}{i:Nat}{n most:Int}(h:i<l.length)(hm:n<=most):(if(decide ((i:Int)<(l.length:Int)))=true then some (decide (n<=most))else some false)=some true:=by
 rw[vaj (by simp;omega),vbr hm]
theorem gY{α:Type}{l:List α}{i:Nat}{n most:Int}(h:i=l.length\/¬n<=most):(if(decide ((i:Int)<(l.length:Int)))=true then some (decide (n<=most))else some false)=some false:=by
 by_cases hi:i<l.length
 ·rw[vaj (by simp;omega)]
  rcases h with h|h
  ·omega
  ·rw[decide_eq_false h]
 ·rw[van (by simp;omega)]
theorem O2{α:Type}(l:List α)(hl:l.length<9223372036854775808){body:Int×Int->Option ((Int×Int)⊕Int)}(most:Int)(I:Nat->Int->Prop)
  (hin:∀(i:Nat) (h:i<l.length) n,I i n->n<=most->eK (body (n,(i:Int))) (fun r=>∃n',r=.inl (n',aO ((i:Int)+1))/\I (i+1) n'))
  (hout:∀(i:Nat) n,i<=l.length->(i=l.length\/¬n<=most)->body (n,(i:Int))=some (.inr n)) (n:Int) (h0:I 0 n):eK (loop body (n,0)) (fun r=>∃i,i<=l.length/\I i r/\(i=l.length\/¬r<=most)):=by
 have key:∀k i n,k+i=l.length->I i n->eK (loop body (n,(i:Int))) (fun r=>∃i,i<=l.length/\I i r/\(i=l.length\/¬r<=most)):=by
  intro k
  induction k with
  |zero=>
   intro i n hi hI
   rw[oS,hout i n (by omega) (.inl (by omega))]
   exact aj ⟨i,by omega,hI,.inl (by omega)⟩
  | succ k ih =>
   intro i n hi hI
   by_cases hm:n<=most
   ·obtain⟨r,e,n',rfl,hI'⟩:=hin i (by omega) n hI hm
    rw[oS,e]
    simp only
    rw[dA (by omega) (by omega),show((i:Int)+1)=((i+1:Nat):Int) by omega]
    exact ih (i+1) n' (by omega) hI'
   ·rw[oS,hout i n (by omega) (.inr hm)]
    exact aj ⟨i,by omega,hI,.inr hm⟩
 exact key l.length 0 n (by omega) h0
theorem WQ(a b:Nat)(hb:0<b)(ha:a<9223372036854775808):qu .i64 (a:Int) (b:Int)=some ((a / b:Nat):Int):=by
 unfold qu
 rw[van (by omega)]
 have h:((a:Int).tdiv (b:Int))=((a / b:Nat):Int):=by
  rw[vb5 (by omega)];rfl
 rw[h]
 have h2:=vcx a b
 generalize a / b=q at *
 congr 1
 exact dA (by omega) (by omega)
theorem AV(p:aa):fU (ac p)=1+(p.Name.length+1+(1+(bK (p.Kids.map ac)+1+0))):=by
 rw[aE];simp only[fU,pm,sl]
theorem MX{α:Type}(c:α->List PVal)(l:List α)(i:Nat)(h:i<l.length):bK ((l.take (i+1)).map c)=bK ((l.take i).map c)+fU (c l[i]):=by
 rw[vaM h,vbG]
 have:∀(a b:List (List PVal)),bK (a++b)=bK a+bK b:=by
  intro a
  induction a with
  |nil=>intro b;simp[bK]
  |cons x a ih=>intro b;rw[vaG,bK,ih,bK];omega
 rw[this]
 simp[bK]
theorem sN{α:Type}(c:α->List PVal)(l:List α)(i:Nat):bK ((l.take i).map c)<=bK (l.map c):=by
 have:∀(l:List α) (i:Nat),bK ((l.take i).map c)<=bK (l.map c):=by
  intro l
  induction l with
  |nil=>intro i;simp
  |cons x l ih=>
   intro i
   cases i with
   |zero=>simp[bK]
   |succ i=>have:=ih i;simp only[List.take_succ_cons,vax,bK];omega
 exact this l i
theorem pV{α:Type}(c:α->List PVal)(h:∀x,1<=fU (c x)):∀(l:List α),l.length<=bK (l.map c)
 |[]=>by simp
 |x::l=>by have:=pV c h l;have:=h x;simp only[vax,bK,vaO];omega
theorem Qq(p:aa):1<=fU (ac p):=by rw[AV];omega
theorem Qb(l:List aa):nL (l.take l.length)=nL l:=by rw[vbn]
abbrev xg:Nat:=4000000
structure qa1(l:List aa)(most r:Int):Prop where
 lo:0<=r
 hi:r<=(bK (l.map ac):Int)
 sm:r<=most->(nL l:Int)<=r
theorem X3(l:List aa)(most:Int)(hl:bK (l.map ac)<=xg)(h1: -8000000<=most)(h2:most<=1000000000):eK (FF l most) (qa1 l most):=by
 refine lq (F:=zU) (fun x=>bK (x.1.map ac)) (fun x=>bK (x.1.map ac)<=xg/\-8000000<=x.2/\x.2<=1000000000) (fun x r=>qa1 x.1 x.2 r) (fun R x hx ih=>?_) (l,most) ⟨hl,h1,h2⟩ (fq (vaH hl (by decide)))
 obtain⟨l,most⟩:=x
 obtain⟨hl,h1,h2⟩:=hx
 have hl:bK (l.map ac)<=xg:=hl
 have h1: -8000000<=most:=h1
 have h2:most<=1000000000:=h2
 have hlen:=pV ac Qq l
 show eK (uL (fun a most=>R (a,most)) l most) _
 unfold uL xw
 unfold xg at hl
 refine au (O2 l (by omega) most (fun i n=>0<=n/\n<=(bK ((l.take i).map ac):Int)/\(n<=most->(nL (l.take i):Int)<=n)) (fun i hi n hI hm=>?_) (fun i n _ h=>?_) 0 ⟨by omega,by omega,fun _=>by simp[nL]⟩) (fun r hr=>aj ?_)
 ·obtain⟨g1,g2,g3⟩:=hI
  have e:=MX ac l i hi
  have e2:=sN ac l (i+1)
  have ep:=AV l[i]
  have en:=EO l i hi
  have enp:=Ku l[i]
  show eK (iG (fun a most=>R (a,most)) l most n i) _
  unfold iG sj
  rw[kL hi hm,bj l i hi]
  simp only[vaa,if_true]
  have hq:=vcx l[i].Name.length 50
  rw[show(50:Int)=((50:Nat):Int)from rfl,WQ _ 50 (by omega) (by omega)]
  simp only[vaa]
  rw[dA (n:=n+1) (by omega) (by omega),dA (n:=n+1+_) (by omega) (by omega),dA (n:=most - _) (by omega) (by omega)]
  refine au (ih (l[i].Kids,most - (n+1+((l[i].Name.length / 50:Nat):Int))) (by show _<bK (l.map ac);show bK (l[i].Kids.map ac)<_;omega) ⟨by show bK (l[i].Kids.map ac)<=xg;unfold xg;omega,by show -8000000<=most - _;omega,by show most - _<=1000000000;omega⟩) (fun r hr=>?_)
  have q1:=hr.lo
  have q2:r<=(bK (l[i].Kids.map ac):Int):=hr.hi
  have q3:r<=most - (n+1+((l[i].Name.length / 50:Nat):Int))->(nL l[i].Kids:Int)<=r:=hr.sm
  rw[dA (n:=n+1+_+r) (by omega) (by omega)]
  refine aj ⟨_,rfl,by omega,by omega,fun hm'=>?_⟩
  have:=q3 (by omega)
  have:=g3 hm
  omega
 ·show iG (fun a most=>R (a,most)) l most n i=_
  unfold iG sj
  rw[gY h]
  rfl
 ·obtain⟨i,hi,⟨g1,g2,g3⟩,h⟩:=hr
  have e2:=sN ac l i
  refine⟨g1,by show r<=(bK (l.map ac):Int);omega,fun hm=>?_⟩
  have hm:r<=most:=hm
  have:i=l.length:=by
   rcases h with h|h
   ·exact h
   ·exact absurd hm h
  subst this
  rw[Qb]at g3
  exact g3 hm
theorem RQ(l:List ae)(i:Nat)(h:i<l.length):cG (l.take (i+1))=cG (l.take i)+cq l[i]:=by
 have ap:∀(a b:List ae),cG (a++b)=cG a+cG b:=by
  intro a
  induction a with
  |nil=>intro b;simp[cG]
  |cons x a ih=>intro b;rw[vaG,cG,ih,cG];omega
 rw[vaM h,ap]
 simp[cG]
theorem Qu(t:ae):1<=fU (af t):=by rw[wR];omega
theorem M1(t:ae):fU (af t)=1+(t.Name.length+1)+(bK (t.Args.map af)+1)+(bK (t.Names.map cS)+1)+fU (ac t.Pred)+(bK (t.Preds.map ac)+1):=by
 rw[wR,AV];simp only[pm,sl];omega
structure qa2(l:List ae)(most r:Int):Prop where
 lo:0<=r
 hi:r<=(bK (l.map af):Int)
 sm:r<=most->(cG l:Int)<=r/\(sY l:Int)<=r
theorem Yo(l:List ae)(most:Int)(hl:bK (l.map af)<=xg)(h1: -8000000<=most)(h2:most<=1000000000):eK (Bn l most) (qa2 l most):=by
 refine lq (F:=zV) (fun x=>bK (x.1.map af)) (fun x=>bK (x.1.map af)<=xg/\-8000000<=x.2/\x.2<=1000000000) (fun x r=>qa2 x.1 x.2 r) (fun R x hx ih=>?_) (l,most) ⟨hl,h1,h2⟩ (fq (vaH hl (by decide)))
 obtain⟨l,most⟩:=x
 obtain⟨hl,h1,h2⟩:=hx
 have hl:bK (l.map af)<=xg:=hl
 have h1: -8000000<=most:=h1
 have h2:most<=1000000000:=h2
 have hlen:=pV af Qu l
 show eK (uM (fun a most=>R (a,most)) l most) _
 unfold uM xx
 unfold xg at hl
 refine au (O2 l (by omega) most (fun i n=>0<=n/\n<=(bK ((l.take i).map af):Int)/\(n<=most->(cG (l.take i):Int)<=n/\(sY (l.take i):Int)<=n)) (fun i hi n hI hm=>?_) (fun i n _ h=>?_) 0 ⟨by omega,by omega,fun _=>by simp[cG,sY]⟩) (fun r hr=>aj ?_)
 ·obtain⟨g1,g2,g3⟩:=hI
  have e:=MX af l i hi
  have e2:=sN af l (i+1)
  have ep:=M1 l[i]
  have epp:=AV l[i].Pred
  have en:=RQ l i hi
  have en2:=K2 l i hi
  have enp:=qw l[i]
  have enp2:=uo l[i]
  have hns:=V4 l[i].Names
  have hps:=YT l[i].Preds
  have hpl:=pQ l[i].Preds
  show eK (iH (fun a most=>R (a,most)) l most n i) _
  unfold iH sk
  rw[kL hi hm,bj l i hi]
  simp only[vaa,if_true]
  have hq:=vcx l[i].Name.length 50
  rw[show(50:Int)=((50:Nat):Int)from rfl,WQ _ 50 (by omega) (by omega)]
  simp only[vaa]
  rw[dG (by simp;omega)]
  simp only[vaa]
  refine au (X3 ([l[i].Pred]++l[i].Preds) most (by unfold xg;simp only[List.singleton_append,vax,bK];omega) h1 h2) (fun rp hp=>?_)
  have p1:=hp.lo
  have p2:rp<=((fU (ac l[i].Pred)+bK (l[i].Preds.map ac):Nat):Int):=by
   have:=hp.hi
   simp only[List.singleton_append,vax,bK]at this
   exact this
  have p3:rp<=most->((nP l[i].Pred+nL l[i].Preds:Nat):Int)<=rp:=by
   have:=hp.sm
   simp only[List.singleton_append,nL]at this
   exact this
  rw[dA (n:=n+1) (by omega) (by omega),dA (n:=n+1+_) (by omega) (by omega),dA (n:=n+1+_+_) (by omega) (by omega),dA (n:=n+1+_+_+_) (by omega) (by omega),dA (n:=most - _) (by omega) (by omega)]
  refine au (ih (l[i].Args,most - (n+1+((l[i].Name.length / 50:Nat):Int)+(l[i].Names.length:Int)+rp)) (by show _<bK (l.map af);show bK (l[i].Args.map af)<_;omega) ⟨by show bK (l[i].Args.map af)<=xg;unfold xg;omega,by show -8000000<=most - _;omega,by show most - _<=1000000000;omega⟩) (fun r hr=>?_)
  have q1:=hr.lo
  have q2:r<=(bK (l[i].Args.map af):Int):=hr.hi
  have q3:r<=most - (n+1+((l[i].Name.length / 50:Nat):Int)+(l[i].Names.length:Int)+rp)->(cG l[i].Args:Int)<=r/\(sY l[i].Args:Int)<=r:=hr.sm
  rw[dA (n:=_+r) (by omega) (by omega)]
  refine aj ⟨_,rfl,by omega,by omega,fun hm'=>?_⟩
  have:=q3 (by omega)
  have:=p3 (by omega)
  have:=g3 hm
  have:=OJ l[i].Pred
  omega
 ·show iH (fun a most=>R (a,most)) l most n i=_
  unfold iH sk
  rw[gY h]
  rfl
 ·obtain⟨i,hi,⟨g1,g2,g3⟩,h⟩:=hr
  have e2:=sN af l i
  refine⟨g1,by show r<=(bK (l.map af):Int);omega,fun hm=>?_⟩
  have hm:r<=most:=hm
  have:i=l.length:=by
   rcases h with h|h
   ·exact h
   ·exact absurd hm h
  subst this
  rw[vbn]at g3
  exact g3 hm
theorem Zz(l:List ae)(most:Int)(hl:bK (l.map af)<=xg)(h1:0<=most)(h2:most<=1000000000):eK (D3 ⟨0,[],0,[],[],[],l⟩ most) (fun r=>0<=r/\(r<=most->(cG l:Int)<=r/\(sY l:Int)<=r)):=by
 unfold D3
 refine lq (F:=C1) (fun _=>0) (fun x=>x=(⟨0,[],0,[],[],[],l⟩,most)) (fun _ r=>0<=r/\(r<=most->(cG l:Int)<=r/\(sY l:Int)<=r)) (fun R x hx ih=>?_) _ rfl (fq (by decide))
 rw[hx]
 show eK (xv (fun a most=>R (a,most)) ⟨0,[],0,[],[],[],l⟩ most) _
 unfold xv
 refine cp (a:=0) (show qu .i64 0 50=some 0 by decide) ?_
 refine au (Yo l most hl (by omega) h2) (fun r hr=>?_)
 have q1:=hr.lo
 have q2:=hr.hi
 have q3:=hr.sm
 unfold xg at hl
 rw[dA (n:=1+0) (by omega) (by omega),dA (n:=1+0+r) (by omega) (by omega)]
 refine cp (a:=1+0+r) ?_ (cp (a:=1+0+r) ?_ (cp (a:=1+0+r) ?_ (aj ⟨by omega,fun h=>⟨by have:=(q3 (by omega)).1;omega,by have:=(q3 (by omega)).2;omega⟩⟩)))
 ·exact j5 rfl
 ·exact j5 rfl
 ·exact j5 rfl
theorem gB{α:Type}(l:List α)(hl:l.length<9223372036854775808){body:Int×Int->Option ((Int×Int)⊕Int)}(most:Int)
  (hin:∀(i:Nat) (h:i<l.length) n,n<=most->eK (body (n,(i:Int))) (fun r=>∃n',r=.inl (n',aO ((i:Int)+1))))
  (hout:∀(i:Nat) n,i<=l.length->(i=l.length\/¬n<=most)->body (n,(i:Int))=some (.inr n)) (n:Int):eK (loop body (n,0)) (fun _=>True):=
 (O2 l hl most (fun _ _=>True) (fun i h n _ hm=>(hin i h n hm).mono fun r ⟨n',e⟩=>⟨n',e,trivial⟩) hout n trivial).mono fun _ _=>trivial
theorem GG(k:IntKind)(a b:Int)(hb:b≠0):eK (qu k a b) (fun _=>True):=by
 unfold qu;rw[van hb];exact aj trivial
theorem yn(l:List aa)(most:Int)(hl:bK (l.map ac)<=xg):eK (ed l most) (fun _=>True):=by
 refine lq (F:=pH) (fun x=>bK (x.1.map ac)) (fun x=>bK (x.1.map ac)<=xg) (fun _ _=>True) (fun R x hx ih=>?_) (l,most) hl (fq (vaH hl (by decide)))
 obtain⟨l,most⟩:=x
 have hl:bK (l.map ac)<=xg:=hx
 have hlen:=pV ac Qq l
 show eK (ly (fun a most=>R (a,most)) l most) _
 unfold ly oz
 unfold xg at hl
 refine au (gB l (by omega) most (fun i hi n hm=>?_) (fun i n _ h=>?_) 0) (fun r _=>aj trivial)
 ·have e:=ua (vap.2 ⟨_,vat hi,rfl⟩:ac l[i]∈l.map ac)
  have ep:=AV l[i]
  show eK (eE (fun a most=>R (a,most)) l most n i) _
  unfold eE kc
  rw[kL hi hm,bj l i hi]
  simp only[vaa,if_true]
  exact au (GG _ _ _ (by decide)) fun q _=>au (ih (l[i].Kids,_) (by show bK (l[i].Kids.map ac)<bK (l.map ac);omega) (by show bK (l[i].Kids.map ac)<=xg;unfold xg;omega)) fun r _=>aj ⟨_,rfl⟩
 ·show eE (fun a most=>R (a,most)) l most n i=_
  unfold eE kc
  rw[gY h]
  rfl
theorem OT(p:aa):bK ([p].map ac)=fU (ac p):=by simp[bK]
theorem BW(l:List ae)(most:Int)(hl:bK (l.map af)<=xg):eK (fh l most) (fun _=>True):=by
 refine lq (F:=pI) (fun x=>bK (x.1.map af)) (fun x=>bK (x.1.map af)<=xg) (fun _ _=>True) (fun R x hx ih=>?_) (l,most) hl (fq (vaH hl (by decide)))
 obtain⟨l,most⟩:=x
 have hl:bK (l.map af)<=xg:=hx
 have hlen:=pV af Qu l
 show eK (lz (fun a most=>R (a,most)) l most) _
 unfold lz oA
 unfold xg at hl
 refine au (gB l (by omega) most (fun i hi n hm=>?_) (fun i n _ h=>?_) 0) (fun r _=>aj trivial)
 ·have e:=ua (vap.2 ⟨_,vat hi,rfl⟩:af l[i]∈l.map af)
  have ep:=M1 l[i]
  show eK (eG (fun a most=>R (a,most)) l most n i) _
  unfold eG ke
  rw[kL hi hm,bj l i hi]
  simp only[vaa,if_true]
  exact au (GG _ _ _ (by decide)) fun q _=>au (yn _ _ (by unfold xg;omega)) fun _ _=>au (yn _ _ (by rw[OT];unfold xg;omega)) fun _ _=>au (ih (l[i].Args,_) (by show bK (l[i].Args.map af)<bK (l.map af);omega) (by show bK (l[i].Args.map af)<=xg;unfold xg;omega)) fun r _=>aj ⟨_,rfl⟩
 ·show eG (fun a most=>R (a,most)) l most n i=_
  unfold eG ke
  rw[gY h]
  rfl
theorem EV(t:ae):bK ([t].map af)=fU (af t):=by simp[bK]
theorem Qs(e:bH):fU (aN e)=1+(e.Name.length+1)+1+(bK (e.Kids.map aN)+1)+(bK (e.Params.map dv)+1)+(bK (e.Alts.map eL)+1)+(bK (e.Types.map af)+1):=by
 rw[dE];simp only[fU,pm,sl];omega
theorem Tc(a:rj):fU (eL a)=(a.Con.length+1)+(bK (a.Names.map cS)+1)+fU (aN a.Body):=by
 rw[qt,dE];simp only[fU,pm,sl];omega
theorem M0(a:nJ):fU (dv a)=(a.Name.length+1)+fU (af a.Type_):=by
 unfold dv;rw[eu];simp only[fU,pm]
theorem Gl(α:Type){c:α->List PVal}(h:∀x,1<=fU (c x)){l:List α}(hl:bK (l.map c)<=xg):l.length<9223372036854775808:=by
 have:=pV c h l
 unfold xg at hl;omega
theorem Gn{α:Type}{c:α->List PVal}{l:List α}{i:Nat}(h:i<l.length):fU (c l[i])<=bK (l.map c):=ua (vap.2 ⟨_,vat h,rfl⟩)
theorem XX(e:bH)(most:Int)(he:fU (aN e)<=xg):eK (FJ e most) (fun _=>True):=by
 refine lq (F:=zW) (fun x=>fU (aN x.1)) (fun x=>fU (aN x.1)<=xg) (fun _ _=>True) (fun R x hx ih=>?_) (e,most) he (fq (vaH he (by decide)))
 obtain⟨e,most⟩:=x
 have he:fU (aN e)<=xg:=hx
 have hp:=Qs e
 show eK (uN (fun a most=>R (a,most)) e most) _
 unfold uN xy xz xA
 refine au (GG _ _ _ (by decide)) fun q _=>au (BW _ _ (by omega)) fun _ _=>au (gB e.Params (Gl _ (fun x=>by rw[M0];omega) (c:=dv) (by omega)) most (fun i hi n hm=>?_) (fun i n _ h=>?_) _) fun _ _=>au (gB e.Kids (Gl _ (fun x=>by rw[Qs];omega) (c:=aN) (by omega)) most (fun i hi n hm=>?_) (fun i n _ h=>?_) _) fun _ _=>au (gB e.Alts (Gl _ (fun x=>by rw[Tc];omega) (c:=eL) (by omega)) most (fun i hi n hm=>?_) (fun i n _ h=>?_) _) fun _ _=>aj trivial
 ·have:=Gn (c:=dv) hi
  have:=M0 e.Params[i]
  show eK (iI most e n i) _
  unfold iI sn
  rw[kL hi hm,bj _ i hi]
  simp only[vaa,if_true]
  exact au (GG _ _ _ (by decide)) fun q _=>au (BW _ _ (by rw[EV];omega)) fun r _=>aj ⟨_,rfl⟩
 ·show iI most e n i=_
  unfold iI sn
  rw[gY h]
  rfl
 ·have:=Gn (c:=aN) hi
  show eK (iJ (fun a most=>R (a,most)) most e n i) _
  unfold iJ sq
  rw[kL hi hm,bj _ i hi]
  simp only[vaa,if_true]
  exact au (ih (e.Kids[i],_) (by show fU (aN e.Kids[i])<fU (aN e);omega) (by show fU (aN e.Kids[i])<=xg;omega)) fun r _=>aj ⟨_,rfl⟩
 ·show iJ (fun a most=>R (a,most)) most e n i=_
  unfold iJ sq
  rw[gY h]
  rfl
 ·have:=Gn (c:=eL) hi
  have:=Tc e.Alts[i]
  show eK (iK (fun a most=>R (a,most)) most e n i) _
  unfold iK su
  rw[kL hi hm,bj _ i hi]
  simp only[vaa,if_true]
  exact au (ih (e.Alts[i].Body,_) (by show fU (aN e.Alts[i].Body)<fU (aN e);omega) (by show fU (aN e.Alts[i].Body)<=xg;omega)) fun r _=>aj ⟨_,rfl⟩
 ·show iK (fun a most=>R (a,most)) most e n i=_
  unfold iK su
  rw[gY h]
  rfl
theorem MY(b:lp):fU (cy b)=(b.Name.length+1)+(bK (b.Vars.map bA)+1)+fU (ac b.Hyp)+fU (ac b.Goal):=by
 unfold cy;simp only[eu,fU,pm,sl];omega
theorem X2(b:US):(bK (b.Bounds.map cy)+1)+fU (af b.Type_)+(bK (b.Metric.map ac)+1)<=fU (xU b):=by
 unfold xU;simp only[eu,fU,pm,sl];omega
theorem Te(b:pu):(b.Name.length+1)+fU (aN b.Body)+fU (xU b.Sig)<=fU (cP b):=by
 unfold cP;simp only[eu,fU,pm,sl];omega
theorem VG(l:List pu)(most:Int)(hl:bK (l.map cP)<=xg):eK (mF l most) (fun _=>True):=by
 unfold mF pF
 refine au (gB l (Gl _ (fun x=>by have:=Te x;omega) hl) most (fun i hi n hm=>?_) (fun i n _ h=>?_) _) fun _ _=>aj trivial
 ·have h1:=Gn (c:=cP) hi
  have h2:=Te l[i]
  have h3:=X2 l[i].Sig
  show eK (eW l most n i) _
  unfold eW lw pG
  rw[kL hi hm,bj _ i hi]
  simp only[vaa,if_true]
  refine au (GG _ _ _ (by decide)) fun q _=>au (BW _ _ (by rw[EV];omega)) fun r _=>au (yn _ _ (by omega)) fun _ _=>au (gB l[i].Sig.Bounds (Gl _ (fun x=>by rw[MY];omega) (c:=cy) (by omega)) most (fun k hk n hm=>?_) (fun k n _ h=>?_) _) fun _ _=>au (XX _ _ (by omega)) fun _ _=>aj ⟨_,rfl⟩
  ·have h4:=Gn (c:=cy) hk
   have h5:=MY l[i].Sig.Bounds[k]
   show eK (eX most l[i].Sig.Bounds n k) _
   unfold eX lx
   rw[kL hk hm,bj _ k hk]
   simp only[vaa,if_true]
   exact au (yn _ _ (by simp only[vax,vbU,bK];omega)) fun _ _=>aj ⟨_,rfl⟩
  ·show eX most l[i].Sig.Bounds n k=_
   unfold eX lx
   rw[gY h]
   rfl
 ·show eW l most n i=_
  unfold eW lw
  rw[gY h]
  rfl
theorem KH(m:aR):fU (aC m)=(bK (m.Datas.map cj)+1)+(bK (m.Classes.map eS)+1)+(bK (m.Instances.map bL)+1)+(bK (m.Measures.map cC)+1)+(bK (m.Quals.map eQ)+1)+(bK (m.Defs.map cP)+1):=by
 unfold aC;simp only[fU,pm,sl];omega
theorem EW(b:eV):fU (cj b)=(b.Name.length+1)+(bK (b.Vars.map cS)+1)+(bK (b.Preds.map bA)+1)+(bK (b.Cons.map eg)+1):=by
 unfold cj;simp only[eu,fU,pm,sl];omega
theorem Td(b:iv):fU (eg b)=(b.Name.length+1)+(bK (b.Names.map cS)+1)+(bK (b.Fields.map af)+1):=by
 unfold eg;simp only[eu,fU,pm,sl];omega
theorem MZ(b:po):fU (eS b)=(b.Name.length+1)+(b.Var.length+1)+(bK (b.Methods.map dI)+1):=by
 unfold eS;simp only[eu,fU,pm,sl];omega
theorem KG(b:qD):fU (dI b)=(b.Name.length+1)+fU (af b.Type_):=by
 unfold dI;simp only[eu,fU,pm,sl]
theorem EY(b:dM):1+fU (af b.Type_)+(bK (b.Defs.map cP)+1)<=fU (bL b):=by
 unfold bL;simp only[eu,fU,pm,sl];omega
theorem Hh(b:f0):1+(bK (b.Cases.map fb)+1)+fU (ac b.Inv)<=fU (cC b):=by
 unfold cC;simp only[eu,fU,pm,sl];omega
theorem Qr(b:yQ):1+fU (ac b.Body)<=fU (fb b):=by
 unfold fb;simp only[eu,fU,pm,sl];omega
theorem Qt(b:sa):1+fU (ac b.Body)<=fU (eQ b):=by
 unfold eQ;simp only[eu,fU,pm,sl];omega
theorem Yi(m:aR)(hm:fU (aC m)<=xg):eK (Bo m) (fun _=>True):=by
 have hp:=KH m
 unfold Bo
 refine au (R:=fun _=>True) ?_ fun o _=>aG (fun _=>aj trivial) fun _=>?_
 ·unfold xB
  exact aG (fun _=>aj trivial) fun _=>aG (fun _=>aj trivial) fun _=>aG (fun _=>aj trivial) fun _=>aG (fun _=>aj trivial) fun _=>aG (fun _=>aj trivial) fun _=>aj trivial
 unfold xC xE vU vV vX
 refine au (VG _ _ (by omega)) fun _ _=>au (gB m.Datas (Gl _ (fun x=>by rw[EW];omega) (c:=cj) (by omega)) 4000 (fun i hi n hn=>?_) (fun i n hi h=>?_) _) fun _ _=>au (gB m.Classes (Gl _ (fun x=>by rw[MZ];omega) (c:=eS) (by omega)) 4000 (fun i hi n hn=>?_) (fun i n hi h=>?_) _) fun _ _=>au (gB m.Instances (Gl _ (fun x=>by have:=EY x;omega) (c:=bL) (by omega)) 4000 (fun i hi n hn=>?_) (fun i n hi h=>?_) _) fun _ _=>au (gB m.Measures (Gl _ (fun x=>by have:=Hh x;omega) (c:=cC) (by omega)) 4000 (fun i hi n hn=>?_) (fun i n hi h=>?_) _) fun _ _=>au (gB m.Quals (Gl _ (fun x=>by have:=Qt x;omega) (c:=eQ) (by omega)) 4000 (fun i hi n hn=>?_) (fun i n hi h=>?_) _) fun _ _=>aj trivial
 ·have h1:=Gn (c:=cj) hi
  have h2:=EW m.Datas[i]
  show eK (iL m n i) _
  unfold iL sw xD
  rw[kL hi hn,bj _ i hi]
  simp only[vaa,if_true]
  refine au (GG _ _ _ (by decide)) fun q _=>au (gB m.Datas[i].Cons (Gl _ (fun x=>by rw[Td];omega) (c:=eg) (by omega)) 4000 (fun k hk n hn=>?_) (fun k n _ h=>?_) _) fun _ _=>aj ⟨_,rfl⟩
  ·have h3:=Gn (c:=eg) hk
   have h4:=Td m.Datas[i].Cons[k]
   show eK (iM m i n k) _
   unfold iM sA
   rw[bj _ i hi]
   simp only[vaa]
   rw[kL hk hn,bj _ k hk]
   simp only[vaa,if_true]
   exact au (BW _ _ (by omega)) fun _ _=>aj ⟨_,rfl⟩
  ·show iM m i n k=_
   unfold iM sA
   rw[bj _ i hi]
   simp only[vaa]
   rw[gY h]
   rfl
 ·show iL m n i=_
  unfold iL sw
  rw[gY h]
  rfl
 ·have h1:=Gn (c:=eS) hi
  have h2:=MZ m.Classes[i]
  show eK (iN m n i) _
  unfold iN sB xF
  rw[kL hi hn]
  simp only[vaa,if_true]
  refine au (gB m.Classes[i].Methods (Gl _ (fun x=>by rw[KG];omega) (c:=dI) (by omega)) 4000 (fun k hk n hn=>?_) (fun k n _ h=>?_) _) fun _ _=>aj ⟨_,rfl⟩
  ·have h3:=Gn (c:=dI) hk
   have h4:=KG m.Classes[i].Methods[k]
   show eK (iO m i n k) _
   unfold iO sC
   rw[bj _ i hi]
   simp only[vaa]
   rw[kL hk hn,bj _ k hk]
   simp only[vaa,if_true]
   exact au (BW _ _ (by rw[EV];omega)) fun _ _=>aj ⟨_,rfl⟩
  ·show iO m i n k=_
   unfold iO sC
   rw[bj _ i hi]
   simp only[vaa]
   rw[gY h]
   rfl
 ·show iN m n i=_
  unfold iN sB
  rw[gY h]
  rfl
 ·have h1:=Gn (c:=bL) hi
  have h2:=EY m.Instances[i]
  show eK (gK m n i) _
  unfold gK ql
  rw[kL hi hn,bj _ i hi]
  simp only[vaa,if_true]
  exact au (BW _ _ (by rw[EV];omega)) fun _ _=>au (VG _ _ (by omega)) fun _ _=>aj ⟨_,rfl⟩
 ·show gK m n i=_
  unfold gK ql
  rw[gY h]
  rfl
 ·have h1:=Gn (c:=cC) hi
  have h2:=Hh m.Measures[i]
  show eK (gL m n i) _
  unfold gL qm vW
  rw[kL hi hn,bj _ i hi]
  simp only[vaa,if_true]
  refine au (yn _ _ (by rw[OT];omega)) fun _ _=>au (gB m.Measures[i].Cases (Gl _ (fun x=>by have:=Qr x;omega) (c:=fb) (by omega)) 4000 (fun k hk n hn=>?_) (fun k n _ h=>?_) _) fun _ _=>aj ⟨_,rfl⟩
  ·have h3:=Gn (c:=fb) hk
   have h4:=Qr m.Measures[i].Cases[k]
   show eK (gM m i n k) _
   unfold gM qn
   rw[bj _ i hi]
   simp only[vaa]
   rw[kL hk hn,bj _ k hk]
   simp only[vaa,if_true]
   exact au (yn _ _ (by rw[OT];omega)) fun _ _=>aj ⟨_,rfl⟩
  ·show gM m i n k=_
   unfold gM qn
   rw[bj _ i hi]
   simp only[vaa]
   rw[gY h]
   rfl
 ·show gL m n i=_
  unfold gL qm
  rw[gY h]
  rfl
 ·have h1:=Gn (c:=eQ) hi
  have h2:=Qt m.Quals[i]
  show eK (gN m n i) _
  unfold gN qo
  rw[kL hi hn,bj _ i hi]
  simp only[vaa,if_true]
  exact au (yn _ _ (by rw[OT];omega)) fun _ _=>aj ⟨_,rfl⟩
 ·show gN m n i=_
  unfold gN qo
  rw[gY h]
  rfl
theorem JD:Bq=some true:=by kernel_rfl
theorem Yj(t:ae)(h:fU (af t)<=1048576):eK (Br t) (fun r=>(!r)=true\/(cq t<=160/\wT t<=160)):=by
 unfold Br
 refine au (Zz [t] 150 (by rw[EV];unfold xg;omega) (by omega) (by omega)) fun r hr=>aj ?_
 by_cases hc:r<=150
 ·have h1:=hr.2 hc
  simp only[cG,sY]at h1
  exact .inr ⟨by omega,by omega⟩
 ·exact .inl (by simp;omega)
theorem qbg(l:List ag)(h:l.length<9223372036854775808):eK (IA l) (fun _=>True):=by
 unfold IA C8
 refine au (xa l h (fun i (_:Unit)=>i) (fun _ _=>True) (Q:=fun _=>True) (fun i hi s _=>?_) (fun s _=>?_) () trivial) fun o _=>by cases o<;>exact aj trivial
 ·show eK (lE l (i:Int)) _
  unfold lE C7
  rw[vaj (by simp;omega)]
  refine au (R:=fun _=>True) (aG (fun _=>aj trivial) fun _=>cp (bj l i hi) (aj trivial)) fun o _=>aG (fun _=>aj trivial) fun _=>aj ⟨(),rfl,trivial⟩
 ·show eK (lE l (l.length:Int)) _
  unfold lE
  rw[van (by simp)]
  exact aj trivial
theorem Zx{t:ae}(h:fU (af t)<=1048576):cq t<=bk/\F6 (fun p=>nP p<=bk) t:=⟨by have:=SY t;unfold bk;omega,Mp (fun p hp=>vaH hp (by decide)) t (Sw 1048576 t h)⟩
theorem KF{α:Type}(c:α->List PVal)(h:∀x,2<=fU (c x)):∀(l:List α),2 * l.length<=bK (l.map c)
 |[]=>by simp
 |x::l=>by have:=KF c h l;have:=h x;simp only[vax,bK,vaO];omega
theorem ZO{m:aR}(h:fU (aC m)<=1048576):ZN m 524288:=by
 have hp:=KH m
 have hd:=pV cj (fun x=>by rw[EW];omega) m.Datas
 refine⟨by omega,fun d hd'=>?_,by decide⟩
 have h1:=ua (vap.2 ⟨d,hd',rfl⟩:cj d∈m.Datas.map cj)
 have h2:=EW d
 have h3:=KF bA (fun x=>by unfold bA;simp only[fU,pm];omega) d.Preds
 omega
theorem XW{m:aR}{a b:ae}{used:List ag}{L D:Nat}(hm:ZN m D)(tag:Int)(hl:cq a<=bk)(h:zc a b=true->Fr a b used L):ll m a b tag used=some (if zc a b=true then(DP m tag a b used,0)else(Y3,12)):=by
 unfold ll
 rw[UJ a b hl]
 simp only[vaa]
 cases hs:zc a b with
 |false=>rfl
 |true=>
  rw[van (by simp),WM hm tag (h hs)]
  rfl
abbrev Ab:Type:=List dc×List aa
def Fo(n s:ag)(p:aa)(v:Ab):Ab:=(if n≠[]then v.1++[⟨n,s⟩]else v.1,v.2++pk p)
mutual
def wc:ak->Ab->List ay
 |⟨o,n,s,p,t,ks⟩,v=>if o=3 then(pk p).map (fun q=>⟨v.1,v.2,q,t⟩)else if o=2 then lP ks (Fo n s p v)else lP ks v
def lP:List ak->Ab->List ay
 |[],_=>[]
 |c::cs,v=>wc c v++lP cs v
end
theorem XG(c:ak)(v:Ab):wc c v=if c.Op=3 then(pk c.Pred).map (fun q=>⟨v.1,v.2,q,c.Tag⟩)else if c.Op=2 then lP c.Kids (Fo c.Name c.Sort_ c.Pred v)else lP c.Kids v:=by
 obtain⟨o,n,s,p,t,ks⟩:=c;rw[wc];rfl
theorem KZ(p:aa):(pk p).length<=nP p:=vaH (pQ _) (wX p)
mutual
theorem J1:∀(c:ak) (v:Ab),(wc c v).length<=nC c
 | ⟨o,n,s,p,t,ks⟩,v => by
  have h1:=KZ p
  rw[wc,nC]
  split
  ·rw[vaL];omega
  ·split
   ·have:=Ge ks (Fo n s p v);omega
   ·have:=Ge ks v;omega
theorem Ge:∀(l:List ak) (v:Ab),(lP l v).length<=rE l
 |[],v=>by rw[lP,rE];exact vah _
 |c::l,v=>by
  have:=J1 c v
  have:=Ge l v
  rw[lP,rE,vae];omega
end
theorem SO(v:Ab):∀(l:List ak) (s:List ay),l.foldl (fun s x=>s++wc x v) s=s++lP l v
 |[],s=>by rw[lP];simp
 |c::l,s=>by rw[List.foldl_cons,SO v l,lP,va8]
theorem To(n s:ag)(p:aa)(v:Ab):(Fo n s p v).1.length<=v.1.length+1/\nL (Fo n s p v).2<=nL v.2+nP p:=by
 unfold Fo
 constructor
 ·simp only
  split
  ·simp
  ·omega
 ·simp only
  rw[pP]
  have:=wX p
  omega
theorem WC(hy:List aa)(h:nL hy<=bk):gq hy (hy.length:Int) 0 []=some hy:=by
 have hl:=pQ hy
 unfold bk at h
 unfold gq
 rw[sW hy (by omega) (fun i s=>(i,s)) _ (fun x=>io x [] []) id id (fun i s=>rfl) (fun x hx=>by
  have:=AL hx
  rw[IK x [] [] (by unfold bk;omega) (by simp) (by simp),OZ];rfl),List.map_id]
 rfl
theorem WD(c:ak)(ab:ay)(l:List ay)(h1:nC c+nL ab.Hyps<=bk)(h2:nC c+ab.Vars.length<=bk)(h3:nC c+l.length<=bk):rD c ab l=some (l++wc c (ab.Vars,ab.Hyps)):=by
 refine jl (F:=oM) (fun x=>nC x.1) (fun x=>nC x.1+nL x.2.1.Hyps<=bk/\nC x.1+x.2.1.Vars.length<=bk/\nC x.1+x.2.2.length<=bk) (fun x=>x.2.2++wc x.1 (x.2.1.Vars,x.2.1.Hyps)) (fun R x hx ih=>?_) (c,ab,l) ⟨h1,h2,h3⟩ (fq (by show nC c<=bk;omega))
 obtain⟨c,ab,l⟩:=x
 obtain⟨h1,h2,h3⟩:=hx
 have h1:nC c+nL ab.Hyps<=bk:=h1
 have h2:nC c+ab.Vars.length<=bk:=h2
 have h3:nC c+l.length<=bk:=h3
 have hb:bk=1073741824:=rfl
 have hc:=MS c
 have hk:=EN c.Kids
 have hy:=pQ ab.Hyps
 have hs:=KZ c.Pred
 have hs2:=wX c.Pred
 show ki (fun c above a=>R (c,above,a)) c ab l=some (l++wc c (ab.Vars,ab.Hyps))
 unfold ki ny
 rw[XG]
 by_cases o3:c.Op=3
 ·rw[vaj (by simpa using o3),vaj o3,QR _ (by omega)]
  simp only[vaa]
  unfold nz
  rw[kX (pk c.Pred) (by omega) (fun i s=>(s,i)) _ (fun i s x=>(kK ab.Vars).bind fun r6=>(gq ab.Hyps (ab.Hyps.length:Int) 0 ([]:List aa)).bind fun o11=>(app s ([(⟨r6,o11,x,c.Tag⟩:ay)]:List ay)).bind fun l12=>some (.inl (l12,aO (i+1)))) (fun i s=>s.length=l.length+i) (fun x s=>s++[⟨ab.Vars,ab.Hyps,x,c.Tag⟩]) id l rfl (fun i s=>rfl) (fun i hi s hs'=>?_)]
  ·simp only[vaa,id]
   have key:∀(r:List aa) (s:List ay),r.foldl (fun s x=>s++[(⟨ab.Vars,ab.Hyps,x,c.Tag⟩:ay)]) s=s++r.map (fun q=>⟨ab.Vars,ab.Hyps,q,c.Tag⟩):=by
    intro r
    induction r with
    |nil=>intro s;simp
    |cons x r ih=>intro s;rw[List.foldl_cons,ih];simp
   rw[key]
  ·refine⟨?_,by simp[hs'];omega⟩
   rw[nQ _ (by omega),WC _ (by omega)]
   simp only[vaa]
   rw[dG (by simp;omega)]
   rfl
 rw[van (by simpa using o3),van o3]
 have fin:∀v:Ab,nL v.2<=nL ab.Hyps+nP c.Pred->v.1.length<=ab.Vars.length+1->((jk (fun c above a=>R (c,above,a)) c.Kids (c.Kids.length:Int) v.1 v.2 ab.Head.Op ab.Head.Name ab.Head.N ab.Head.Kids ab.Tag l 0).bind fun o28=>some o28)=some (l++lP c.Kids v):=fun v v1 v2=>by
  unfold jk
  rw[kX c.Kids (by omega) (fun i s=>(s,i)) _ (fun i s x=>(R (x,(⟨v.1,v.2,⟨ab.Head.Op,ab.Head.Name,ab.Head.N,ab.Head.Kids⟩,ab.Tag⟩:ay),s)).bind fun r27=>some (.inl (r27,aO (i+1)))) (fun i s=>s.length<=l.length+rE (c.Kids.take i)) (fun x s=>s++wc x v) id l (by simp) (fun i s=>rfl) (fun i hi s hs'=>?_),SO]
  ·rfl
  ·have hm:=II (vat hi)
   have ht:rE (c.Kids.take (i+1))=rE (c.Kids.take i)+nC c.Kids[i]:=by rw[vaM hi,Dw];simp[rE]
   have ht2:=AK c.Kids (i+1)
   have hf:=J1 c.Kids[i] v
   refine⟨?_,by rw[vae];omega⟩
   rw[show R (c.Kids[i],(⟨v.1,v.2,⟨ab.Head.Op,ab.Head.Name,ab.Head.N,ab.Head.Kids⟩,ab.Tag⟩:ay),s)=some (s++wc c.Kids[i] v)from ih (c.Kids[i],⟨v.1,v.2,⟨ab.Head.Op,ab.Head.Name,ab.Head.N,ab.Head.Kids⟩,ab.Tag⟩,s) (by show nC c.Kids[i]<nC c;omega) ⟨by show nC c.Kids[i]+nL v.2<=bk;omega,by show nC c.Kids[i]+v.1.length<=bk;omega,by show nC c.Kids[i]+s.length<=bk;omega⟩]
   rfl
 by_cases o2:c.Op=2
 ·rw[vaj (by simpa using o2),vaj o2]
  have hu:=To c.Name c.Sort_ c.Pred (ab.Vars,ab.Hyps)
  have hj:jj c ab.Vars=some (Fo c.Name c.Sort_ c.Pred (ab.Vars,ab.Hyps)).1:=by
   unfold jj Fo
   by_cases hn:c.Name=[]
   ·rw[van (by simp[hn])];simp[hn]
   ·rw[vaj (by simpa using hn),nQ _ (by omega)]
    simp only[vaa]
    rw[dG (by simp;omega)]
    simp[hn]
  rw[hj]
  simp only[vaa]
  rw[nQ _ (by omega),QR _ (by omega)]
  simp only[vaa]
  rw[dG (by omega)]
  simp only[vaa]
  exact fin (Fo c.Name c.Sort_ c.Pred (ab.Vars,ab.Hyps)) hu.2 hu.1
 ·rw[van (by simpa using o2),van o2]
  simp only[vaa]
  exact fin (ab.Vars,ab.Hyps) (by simp) (by simp)
def refl(l:List ay):Prop:=∀c∈l,c.Head∈c.Hyps
theorem KO(x s:ag)(p:aa)(tag:Int)(v:Ab):refl (wc (LV x s p (EC p tag)) v):=by
 intro c hc
 rw[wc,van (by decide),vaj rfl,lP,lP,wc,vaj rfl,va4]at hc
 obtain⟨q,hq,rfl⟩:=vap.1 hc
 exact vba _ hq
theorem Th(tag:Int)(t:ae)(x:ag)(v:Ab):∀(l:List dc) (i:Nat),fS (RN tag t t x l i)=RN tag t t x l i/\refl (lP (RN tag t t x l i) v)
 |[],i=>by rw[RN,fS,lP];exact⟨rfl,fun c hc=>by cases hc⟩
 | d :: l,i => by
  obtain⟨h1,h2⟩:=Th tag t x v l (i+1)
  rw[RN]
  constructor
  ·rw[fS,h1,Cu,vaj (.inl rfl)];rfl
  ·rw[lP]
   intro c hc
   rcases vaD.1 hc with hc|hc
   ·exact KO _ _ _ _ _ c hc
   ·exact h2 c hc
theorem UL(m:aR)(tag:Int)(t:ae)(used:List ag)(v:Ab):refl (wc (Ek m tag t t used) v):=by
 unfold Ek
 simp only
 split
 ·obtain⟨h1,h2⟩:=Th tag t (fp used [118,49]) v (kS m t.Name).1.Preds 0
  rw[wc,van (by decide),van (by decide),fS,h1,Cu,vaj (.inl rfl),List.singleton_append,lP]
  intro c hc
  rcases vaD.1 hc with hc|hc
  ·exact KO _ _ _ _ _ c hc
  ·exact h2 c hc
 ·exact KO _ _ _ _ _
theorem X0(t:ae)(h:cq t<=bk):eK (F3 t) (fun r=>r=true->t.Op≠6):=by
 refine lq (F:=Ak) cq (fun t=>cq t<=bk) (fun t r=>r=true->t.Op≠6) (fun R t ht ih=>?_) t h (fq h)
 show eK (uU (fun t=>R t) t) _
 have h1:=gX t
 have hb:bk=1073741824:=rfl
 unfold uU xN
 refine aG (fun _=>aj (fun h=>by cases h)) fun h6=>au (nZ t.Args (by omega) _ (fun _=>True) (fun _=>True) (fun i=>rfl) (fun x hx i=>au (ih x (ig hx) (by have:=ig hx;omega)) fun _ _=>aG (fun _=>aj trivial) fun _=>aj ⟨rfl,trivial⟩)) fun o _=>?_
 have h6:t.Op≠6:=by simpa using h6
 cases o with
 |inl _=>exact aj (fun h=>by cases h)
 |inr _=>exact aj (fun _=>h6)
theorem UY(p:aa):eK (Bt p) (fun _=>True):=by
 unfold Bt
 exact aG (fun _=>aj trivial) fun _=>aG (fun _=>aj trivial) fun _=>aj trivial
theorem Ya(v:List ay)(i:Nat)(hi:i<v.length)(f:Bool)(hl:v[i].Hyps.length<9223372036854775808)(hn:nP v[i].Head<=bk):fC v (i:Int) f 0=some (f||decide (v[i].Head∈v[i].Hyps)):=by
 unfold fC
 rw[Ks v[i].Hyps hl (fun k s=>(s,k)) _ (fun _ _=>True) (fun _ h s=>s||decide (h=v[i].Head)) id f trivial (fun k hk s _=>⟨?_,trivial⟩) (fun s _=>?_)]
 ·have key:∀(r:List aa) (k:Nat) (s:Bool),px (fun _ h s=>s||decide (h=v[i].Head)) r k s=(s||decide (v[i].Head∈r)):=by
   intro r
   induction r with
   |nil=>intro k s;rw[px];simp
   | cons x r ih =>
    intro k s
    rw[px,ih]
    by_cases hx:x=v[i].Head
    ·simp[hx]
    ·have:¬v[i].Head=x:=fun h=>hx h.symm
     simp[hx,this]
  rw[key]
  rfl
 ·show cV v (i:Int) s (k:Int)=_
  unfold cV iP
  rw[bj v i hi]
  simp only[vaa]
  rw[vaj (by simp;omega),bj _ k hk]
  cases s with
  |true=>rfl
  |false=>
   simp only[va3,if_false,vaa]
   rw[QF _ _ hn]
   rfl
 ·show cV v (i:Int) s (v[i].Hyps.length:Int)=_
  unfold cV
  rw[bj v i hi]
  simp only[vaa]
  rw[van (by simp)]
  rfl
theorem X9(v:List ay)(hv:v.length<9223372036854775808)(h:refl v)(hs:∀c∈v,nL c.Hyps<=bk):fA v 0=some (Sum.inr ()):=by
 unfold fA
 refine Wd v hv _ (Sum.inr ():Unit⊕Unit) (fun i hi=>?_) ?_
 ·unfold eP
  have hm:=vat hi
  have h1:=h _ hm
  have h2:=hs _ hm
  have h3:=AL h1
  have h4:=pQ v[i].Hyps
  obtain⟨f,hf,_⟩:=UY v[i].Head
  rw[vaj (by simp;omega),bj v i hi]
  simp only[vaa]
  rw[hf]
  simp only[vaa]
  rw[Ya v i hi f (by unfold bk at h2;omega) (by omega),vbr h1,Bool.or_true]
  rfl
 ·unfold eP
  rw[van (by simp)]
mutual
theorem MF(B:Nat):∀(c:ak) (v:Ab),nC c+nL v.2<=B->∀cl∈wc c v,nL cl.Hyps<=B
 | ⟨o,n,s,p,t,ks⟩,v,h,cl,hcl => by
  rw[nC]at h
  rw[wc]at hcl
  split at hcl
  ·obtain⟨q,hq,rfl⟩:=vap.1 hcl
   show nL v.2<=B
   omega
  ·split at hcl
   ·have:=(To n s p v).2
    exact Dn B ks _ (by omega) cl hcl
   ·exact Dn B ks v (by omega) cl hcl
theorem Dn(B:Nat):∀(l:List ak) (v:Ab),rE l+nL v.2<=B->∀cl∈lP l v,nL cl.Hyps<=B
 |[],v,h,cl,hcl=>by rw[lP]at hcl;cases hcl
 | c :: l,v,h,cl,hcl => by
  rw[rE]at h
  rw[lP]at hcl
  rcases vaD.1 hcl with hcl|hcl
  ·exact MF B c v (by omega) cl hcl
  ·exact Dn B l v (by omega) cl hcl
end
theorem y7(m:aR)(t:ae)(used:List ag)(h:fU (aC m)+(fU (af t)+(pm (sl cS used)+0))<=1048576):kG m t used=some true:=by
 have hl:=V4 used
 have hu:pm (sl cS used)=bK (used.map cS)+1:=by simp only[pm,sl]
 have hm:ZN m 524288:=ZO (by omega)
 have g:=Zx (t:=t) (by omega)
 have hg:eK (fy used m t) (fun o=>o=true\/(cq t<=160/\wT t<=160/\t.Op≠6/\C9 t)):=by
  unfold fy
  refine au (Yi m (by unfold xg;omega)) fun _ _=>aG (fun _=>aj (.inl rfl)) fun _=>au (Yj t (by omega)) fun r1 h1=>aG (fun _=>aj (.inl rfl)) fun n1=>au (qbg used (by omega)) fun _ _=>aG (fun _=>aj (.inl rfl)) fun _=>au (X0 t g.1) fun r2 h2=>aG (fun _=>aj (.inl rfl)) fun n2=>au (Q2 t g.1 g.2) fun r3 h3=>aj ?_
  have h1:=h1.resolve_left n1
  by_cases hr:(r3 !=0)=true
  ·exact .inl hr
  ·exact .inr ⟨h1.1,h1.2,h2 (by simpa using n2),h3 (by simpa using hr)⟩
 obtain⟨o,e,ho⟩:=hg
 unfold kG
 rw[e]
 simp only[vaa]
 by_cases hc:o=true
 ·rw[vaj hc,JD];rfl
 ·obtain⟨q1,q2,q3,q4⟩:=ho.resolve_left hc
  have n1:=Wi t
  have hf:Fr t t used 1048576:=⟨rfl,q1,q1,q2,q2,NR _ _ (by omega),NR _ _ (by omega),by omega,by omega,q4,q4⟩
  have hs:zc t t=true:=(Tk t t).2 rfl
  rw[van hc,XW hm 0 g.1 (fun _=>hf),hs]
  simp only[vaa,if_true]
  have hn:=(ZY hm 0 hf).2
  have hB:nC (DP m 0 t t used)<=1073741824:=by omega
  rw[van (by simp)]
  unfold jx
  rw[WD _ _ _ (by show nC (DP m 0 t t used)+nL []<=1073741824;simp only[nL];omega) (by show nC (DP m 0 t t used)+0<=1073741824;omega) (by show nC (DP m 0 t t used)+0<=1073741824;omega)]
  simp only[vaa,vaE]
  have hv:refl (wc (DP m 0 t t used) ([],[])):=by
   obtain⟨k,hk⟩:∃k,nT t=k+1:=⟨nT t - 1,by have:1<=nT t:=mP _;omega⟩
   unfold DP
   rw[hk]
   show refl (wc (if t.Op=6 then _ else if Ej t=true then Ek m 0 t t used else F5 []) ([],[]))
   rw[van q3]
   split
   ·exact UL m 0 t used _
   ·intro c hc
    rw[wc,van (by decide),van (by decide),lP]at hc
    cases hc
  have hlen:=J1 (DP m 0 t t used) ([],[])
  have hh:=MF 1073741824 (DP m 0 t t used) ([],[]) (by show nC (DP m 0 t t used)+nL []<=1073741824;simp only[nL];omega)
  rw[X9 _ (by omega) hv hh]
  simp only[vaa]
  rw[JD]
  rfl
end Go.Proofs.YtbaamopmfmpfaaaGreatDoor
