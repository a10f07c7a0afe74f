/- PROVED: parts of the proof (Bk1 Bk2 Su4 Ws1 Ws3). Conditions: none. -/
import Derived.Test.YtbaamopmfmpfaaaGreatDoorPkC27
import Derived.Test.YtbaamopmfmpfaaaGreatDoorPkC25
import Derived.Test.YtbaamopmfmpfaaaGreatDoorPkC26
noncomputable section
namespace Go.Proofs.YtbaamopmfmpfaaaGreatDoor
open Go
set_option linter.unusedVariables false
set_option linter.unusedSimpArgs false
def DX(m:aQ)(tag:Int):Nat->Rc
 |0=>fun _ _ _=>Zf
 |k+1=>fun a b used=>if a.Op=6 then(if a.Args.length=0 then En []else sQ (DX m tag k) a b used (a.Args.length - 1) (a.Args.length - 1))else if Ev a=true then G8 m tag a b used else En []
structure ZY(m:aQ)(D:Nat):Prop where
 ds:m.Datas.length<=1048576
 dp:∀d∈m.Datas,d.Preds.length<=D
 D:D<=1048576
theorem Ch.nB{a b:ae}{used:List ag}{L:Nat}(h:Ch a b used L){D:Nat}(hD:D<=1048576):nB (2 * D+20) a b<=bz:=by
 have c1:=h.la;have c2:=h.lb;have c3:=h.wa;have c4:=h.wb
 have:(2 * D+20) * (cu a+cu b)<=(2 * 1048576+20) * 320:=vca (by omega) (by omega)
 show(2 * D+20) * (cu a+cu b)+4 * (wT a+wT b)<=bz
 unfold bz;omega
theorem xn{m:aQ}{D:Nat}(hm:ZY m D)(tag:Int):∀(k:Nat) (a b:ae) (used:List ag) (L:Nat),Ch a b used L->nT a<=k->Iv (2 * D+20) (DX m tag k) a b used
 |0,a,b,used,L,h,hk=>by have:1<=nT a:=mL _;omega
 | k + 1,a,b,used,L,h,hk => by
  have e:2 * (2 * D+20)<=(2 * D+20) * (cu a+cu b):=by
   rw[vcq];exact vbJ _ (by have:=mL a;have:=mL b;omega)
  have w1:=uo a
  have w2:=uo b
  have z:nC (En [])=2:=by simp[nC,wz,nP,nL,ie]
  unfold Iv
  show nC (if a.Op=6 then _ else _)+8+nP a.Pred+nP b.Pred<=(2 * D+20) * (cu a+cu b)+4 * (wT a+wT b)
  by_cases h6:a.Op=6
  ·rw[vak h6]
   by_cases h0:a.Args.length=0
   ·rw[vak h0,z];omega
   ·rw[van h0]
    have h2:=V1 (K:=2 * D+20) (rec:=DX m tag k) h (a.Args.length - 1) (by omega) (fun i hi=>by
     have hc:=h.child i hi
     exact⟨xn hm tag k _ _ _ _ hc.2.1 (by omega),xn hm tag k _ _ _ _ hc.1 (by omega)⟩) (a.Args.length - 1) (vah _)
    rw[vby]at h2
    have h3:=MN (2 * D+20) a b (by omega)
    have h4:nB (2 * D+20) a b=(2 * D+20) * (cu a+cu b)+4 * (wT a+wT b):=rfl
    omega
  ·rw[van h6]
   by_cases hb:Ev a=true
   ·rw[vak hb]
    have h2:=XH m tag a b used D (J4 m a.Name D hm.dp)
    omega
   ·rw[van hb,z];omega
theorem MP{rec rec':Rc}{a b:ae}{used:List ag}(n:Nat)(h:∀i,i<=n->rec (rA a b used i) (lA a b used i) (fJ a b used i).2.2=rec' (rA a b used i) (lA a b used i) (fJ a b used i).2.2/\rec (lA a b used i) (rA a b used i) (fJ a b used i).2.2=rec' (lA a b used i) (rA a b used i) (fJ a b used i).2.2):∀k,k<=n->sQ rec a b used n k=sQ rec' a b used n k
 |0,_=>(h n (vah _)).2
 |k+1,hk=>by
  rw[sQ,sQ,MP n h k (by omega),(h (n - (k+1)) (by omega)).1]
theorem B4{m:aQ}(tag:Int):∀(k k':Nat) (a b:ae) (used:List ag) (L:Nat),Ch a b used L->nT a<=k->nT a<=k'->DX m tag k a b used=DX m tag k' a b used
 |0,k',a,b,used,L,h,hk,_=>by have:1<=nT a:=mL _;omega
 |k+1,0,a,b,used,L,h,_,hk=>by have:1<=nT a:=mL _;omega
 | k + 1,k' + 1,a,b,used,L,h,hk,hk' => by
  show(if a.Op=6 then _ else _)=(if a.Op=6 then _ else _)
  by_cases h6:a.Op=6
  ·rw[vak h6,vak h6]
   by_cases h0:a.Args.length=0
   ·rw[vak h0,vak h0]
   ·rw[van h0,van h0]
    refine MP _ (fun i hi=>?_) _ (vah _)
    have hc:=h.child i (by omega)
    exact⟨B4 tag k k' _ _ _ _ hc.2.1 (by omega) (by omega),B4 tag k k' _ _ _ _ hc.1 (by omega) (by omega)⟩
  ·rw[van h6,van h6]
def Q2(m:aQ)(tag:Int)(a b:ae)(used:List ag):ak:=DX m tag (nT a) a b used
theorem Ch.b{m:aQ}{D:Nat}(hm:ZY m D){a b:ae}{used:List ag}{L:Nat}(h:Ch a b used L):qdu m a b used where
 u:=by have:=h.u;omega
 la:=by have:=h.la;omega
 lb:=by have:=h.lb;omega
 wa:=by have:=h.wa;omega
 wb:=by have:=h.wb;omega
 ds:=by have:=hm.ds;omega
 dp:=fun d hd=>by have:=hm.dp d hd;have:=hm.D;omega
theorem WT{m:aQ}{D:Nat}(hm:ZY m D)(tag:Int){a b:ae}{used:List ag}{L:Nat}(h:Ch a b used L):nE ⟨m,tag⟩ a b used=some (Q2 m tag a b used):=by
 refine kf (F:=kX) (fun x=>nT x.2.1) (fun x=>x.1=⟨m,tag⟩/\∃L,Ch x.2.1 x.2.2.1 x.2.2.2 L) (fun x=>Q2 m tag x.2.1 x.2.2.1 x.2.2.2) (fun R x hx ih=>?_) (⟨m,tag⟩,a,b,used) ⟨rfl,L,h⟩ (f6 (by have:=Tf a;have:=h.la;show nT a<=bz;unfold bz;omega))
 obtain⟨w,a,b,used⟩:=x
 obtain⟨hw,L,h⟩:=hx
 have hw:w=⟨m,tag⟩:=hw
 subst hw
 have h:Ch a b used L:=h
 show ib (fun w a a2 used=>R (w,a,a2,used)) ⟨m,tag⟩ a b used=some (DX m tag (nT a) a b used)
 obtain⟨k,hk⟩:∃k,nT a=k+1:=⟨nT a - 1,by have:1<=nT a:=mL _;omega⟩
 have hs:DX m tag (nT a) a b used=if a.Op=6 then(if a.Args.length=0 then En []else sQ (DX m tag k) a b used (a.Args.length - 1) (a.Args.length - 1))else if Ev a=true then G8 m tag a b used else En []:=by rw[hk];rfl
 rw[hs]
 unfold ib
 by_cases h6:a.Op=6
 ·rw[vak (by simpa using h6),vak h6]
  by_cases h0:a.Args.length=0
  ·rw[vak (by simp[h0]),vak h0];rfl
  ·rw[van (by simpa using h0),van h0]
   have hc:∀i,i<a.Args.length->DX m tag (nT (rA a b used i)) (rA a b used i) (lA a b used i) (fJ a b used i).2.2=DX m tag k (rA a b used i) (lA a b used i) (fJ a b used i).2.2/\DX m tag (nT (lA a b used i)) (lA a b used i) (rA a b used i) (fJ a b used i).2.2=DX m tag k (lA a b used i) (rA a b used i) (fJ a b used i).2.2:=fun i hi=>by
    have hc:=h.child i hi
    exact⟨B4 tag _ _ _ _ _ _ hc.2.1 (vah _) (by omega),B4 tag _ _ _ _ _ _ hc.1 (vah _) (by omega)⟩
   rw[O0 (fun w a a2 used=>R (w,a,a2,used)) m tag (K:=2 * D+20) (rec:=DX m tag k) h (a.Args.length - 1) (by omega) (fun i hi=>by
    have hc:=h.child i hi
    exact⟨xn hm tag k _ _ _ _ hc.2.1 (by omega),xn hm tag k _ _ _ _ hc.1 (by omega)⟩) (by omega) (h.nB hm.D) (fun i hi=>by
    have hch:=h.child i hi
    have:=hc i hi
    exact⟨(ih (⟨m,tag⟩,rA a b used i,lA a b used i,(fJ a b used i).2.2) (by show nT (rA a b used i)<nT a;omega) ⟨rfl,_,hch.2.1⟩).trans (vbr some this.1),(ih (⟨m,tag⟩,lA a b used i,rA a b used i,(fJ a b used i).2.2) (by show nT (lA a b used i)<nT a;omega) ⟨rfl,_,hch.1⟩).trans (vbr some this.2)⟩)]
   rfl
 ·rw[van (by simpa using h6),van h6,Qt]
  simp only[vaa]
  cases hb:Ev a with
  |false=>rfl
  |true=>
   rw[van (by simp),vak rfl,UL m tag a b used (h.b hm)]
   rfl
theorem Z9{m:aQ}{D:Nat}(hm:ZY m D)(tag:Int){a b:ae}{used:List ag}{L:Nat}(h:Ch a b used L):2 * nC (Q2 m tag a b used)<=2 * bz/\nC (Q2 m tag a b used)<=(2 * D+20) * (cu a+cu b)+4 * (wT a+wT b):=by
 have h1:=xn hm tag (nT a) a b used L h (vah _)
 have h2:=h.nB hm.D
 unfold Iv at h1
 unfold Q2
 have h4:nB (2 * D+20) a b=(2 * D+20) * (cu a+cu b)+4 * (wT a+wT b):=rfl
 omega
theorem kD{α:Type}{l:List α}{i:Nat}{n most:Int}(h:i<l.length)(hm:n<=most):(if(decide ((i:Int)<(l.length:Int)))=true then some (decide (n<=most))else some false)=some true:=by
 rw[vak (by simp;omega),vbp hm]
theorem gX{α:Type}{l:List α}{i:Nat}{n most:Int}(h:i=l.length\/¬n<=most):(if(decide ((i:Int)<(l.length:Int)))=true then some (decide (n<=most))else some false)=some false:=by
 by_cases hi:i<l.length
 ·rw[vak (by simp;omega)]
  rcases h with h|h
  ·omega
  ·rw[decide_eq_false h]
 ·rw[van (by simp;omega)]
theorem Pc{α:Type}(l:List α)(hl:l.length<9223372036854775808){body:Int×Int->Option ((Int×Int)⊕Int)}(most:Int)(I:Nat->Int->Prop)
  (hin:∀(i:Nat) (h:i<l.length) n,I i n->n<=most->eO (body (n,(i:Int))) (fun r=>∃n',r=.inl (n',aR ((i:Int)+1))/\I (i+1) n'))
  (hout:∀(i:Nat) n,i<=l.length->(i=l.length\/¬n<=most)->body (n,(i:Int))=some (.inr n)) (n:Int) (h0:I 0 n):eO (loop body (n,0)) (fun r=>∃i,i<=l.length/\I i r/\(i=l.length\/¬r<=most)):=by
 have key:∀k i n,k+i=l.length->I i n->eO (loop body (n,(i:Int))) (fun r=>∃i,i<=l.length/\I i r/\(i=l.length\/¬r<=most)):=by
  intro k
  induction k with
  |zero=>
   intro i n hi hI
   rw[oK,hout i n (by omega) (.inl (by omega))]
   exact aj ⟨i,by omega,hI,.inl (by omega)⟩
  | succ k ih =>
   intro i n hi hI
   by_cases hm:n<=most
   ·obtain⟨r,e,n',rfl,hI'⟩:=hin i (by omega) n hI hm
    rw[oK,e]
    simp only
    rw[dB (by omega) (by omega),show((i:Int)+1)=((i+1:Nat):Int) by omega]
    exact ih (i+1) n' (by omega) hI'
   ·rw[oK,hout i n (by omega) (.inr hm)]
    exact aj ⟨i,by omega,hI,.inr hm⟩
 exact key l.length 0 n (by omega) h0
theorem WX(a b:Nat)(hb:0<b)(ha:a<9223372036854775808):qu .i64 (a:Int) (b:Int)=some ((a / b:Nat):Int):=by
 unfold qu
 rw[van (by omega)]
 have h:((a:Int).tdiv (b:Int))=((a / b:Nat):Int):=by
  rw[vb5 (by omega)];rfl
 rw[h]
 have h2:=vcx a b
 generalize a / b=q at *
 congr 1
 exact dB (by omega) (by omega)
theorem Bd(p:aa):fx (ac p)=1+(p.Name.length+1+(1+(bM (p.Kids.map ac)+1+0))):=by
 rw[aF];simp only[fx,pm,sl]
theorem M8{α:Type}(c:α->List PVal)(l:List α)(i:Nat)(h:i<l.length):bM ((l.take (i+1)).map c)=bM ((l.take i).map c)+fx (c l[i]):=by
 rw[vaS h,vbG]
 have:∀(a b:List (List PVal)),bM (a++b)=bM a+bM b:=by
  intro a
  induction a with
  |nil=>intro b;simp[bM]
  |cons x a ih=>intro b;rw[vaF,bM,ih,bM];omega
 rw[this]
 simp[bM]
theorem sJ{α:Type}(c:α->List PVal)(l:List α)(i:Nat):bM ((l.take i).map c)<=bM (l.map c):=by
 have:∀(l:List α) (i:Nat),bM ((l.take i).map c)<=bM (l.map c):=by
  intro l
  induction l with
  |nil=>intro i;simp
  |cons x l ih=>
   intro i
   cases i with
   |zero=>simp[bM]
   |succ i=>have:=ih i;simp only[List.take_succ_cons,vax,bM];omega
 exact this l i
theorem pN{α:Type}(c:α->List PVal)(h:∀x,1<=fx (c x)):∀(l:List α),l.length<=bM (l.map c)
 |[]=>by simp
 |x::l=>by have:=pN c h l;have:=h x;simp only[vax,bM,vaN];omega
theorem QC(p:aa):1<=fx (ac p):=by rw[Bd];omega
theorem Qn(l:List aa):nL (l.take l.length)=nL l:=by rw[vbn]
abbrev xy:Nat:=4000000
structure qba(l:List aa)(most r:Int):Prop where
 lo:0<=r
 hi:r<=(bM (l.map ac):Int)
 sm:r<=most->(nL l:Int)<=r
theorem Yg(l:List aa)(most:Int)(hl:bM (l.map ac)<=xy)(h1: -8000000<=most)(h2:most<=1000000000):eO (FQ l most) (qba l most):=by
 refine mU (F:=Ag) (fun x=>bM (x.1.map ac)) (fun x=>bM (x.1.map ac)<=xy/\-8000000<=x.2/\x.2<=1000000000) (fun x r=>qba x.1 x.2 r) (fun R x hx ih=>?_) (l,most) ⟨hl,h1,h2⟩ (f6 (vaI hl (by decide)))
 obtain⟨l,most⟩:=x
 obtain⟨hl,h1,h2⟩:=hx
 have hl:bM (l.map ac)<=xy:=hl
 have h1: -8000000<=most:=h1
 have h2:most<=1000000000:=h2
 have hlen:=pN ac QC l
 show eO (uH (fun a most=>R (a,most)) l most) _
 unfold uH xN
 unfold xy at hl
 refine au (Pc l (by omega) most (fun i n=>0<=n/\n<=(bM ((l.take i).map ac):Int)/\(n<=most->(nL (l.take i):Int)<=n)) (fun i hi n hI hm=>?_) (fun i n _ h=>?_) 0 ⟨by omega,by omega,fun _=>by simp[nL]⟩) (fun r hr=>aj ?_)
 ·obtain⟨g1,g2,g3⟩:=hI
  have e:=M8 ac l i hi
  have e2:=sJ ac l (i+1)
  have ep:=Bd l[i]
  have en:=EZ l i hi
  have enp:=M3 l[i]
  show eO (iF (fun a most=>R (a,most)) l most n i) _
  unfold iF sd
  rw[kD hi hm,bv l i hi]
  simp only[vaa,if_true]
  have hq:=vcx l[i].Name.length 50
  rw[show(50:Int)=((50:Nat):Int)from rfl,WX _ 50 (by omega) (by omega)]
  simp only[vaa]
  rw[dB (n:=n+1) (by omega) (by omega),dB (n:=n+1+_) (by omega) (by omega),dB (n:=most - _) (by omega) (by omega)]
  refine au (ih (l[i].Kids,most - (n+1+((l[i].Name.length / 50:Nat):Int))) (by show _<bM (l.map ac);show bM (l[i].Kids.map ac)<_;omega) ⟨by show bM (l[i].Kids.map ac)<=xy;unfold xy;omega,by show -8000000<=most - _;omega,by show most - _<=1000000000;omega⟩) (fun r hr=>?_)
  have q1:=hr.lo
  have q2:r<=(bM (l[i].Kids.map ac):Int):=hr.hi
  have q3:r<=most - (n+1+((l[i].Name.length / 50:Nat):Int))->(nL l[i].Kids:Int)<=r:=hr.sm
  rw[dB (n:=n+1+_+r) (by omega) (by omega)]
  refine aj ⟨_,rfl,by omega,by omega,fun hm'=>?_⟩
  have:=q3 (by omega)
  have:=g3 hm
  omega
 ·show iF (fun a most=>R (a,most)) l most n i=_
  unfold iF sd
  rw[gX h]
  rfl
 ·obtain⟨i,hi,⟨g1,g2,g3⟩,h⟩:=hr
  have e2:=sJ ac l i
  refine⟨g1,by show r<=(bM (l.map ac):Int);omega,fun hm=>?_⟩
  have hm:r<=most:=hm
  have:i=l.length:=by
   rcases h with h|h
   ·exact h
   ·exact absurd hm h
  subst this
  rw[Qn]at g3
  exact g3 hm
theorem R1(l:List ae)(i:Nat)(h:i<l.length):cM (l.take (i+1))=cM (l.take i)+cu l[i]:=by
 have ap:∀(a b:List ae),cM (a++b)=cM a+cM b:=by
  intro a
  induction a with
  |nil=>intro b;simp[cM]
  |cons x a ih=>intro b;rw[vaF,cM,ih,cM];omega
 rw[vaS h,ap]
 simp[cM]
theorem QG(t:ae):1<=fx (af t):=by rw[xh];omega
theorem Nc(t:ae):fx (af t)=1+(t.Name.length+1)+(bM (t.Args.map af)+1)+(bM (t.Names.map cS)+1)+fx (ac t.Pred)+(bM (t.Preds.map ac)+1):=by
 rw[xh,Bd];simp only[pm,sl];omega
structure qbb(l:List ae)(most r:Int):Prop where
 lo:0<=r
 hi:r<=(bM (l.map af):Int)
 sm:r<=most->(cM l:Int)<=r/\(sU l:Int)<=r
theorem Yz(l:List ae)(most:Int)(hl:bM (l.map af)<=xy)(h1: -8000000<=most)(h2:most<=1000000000):eO (BB l most) (qbb l most):=by
 refine mU (F:=Ah) (fun x=>bM (x.1.map af)) (fun x=>bM (x.1.map af)<=xy/\-8000000<=x.2/\x.2<=1000000000) (fun x r=>qbb x.1 x.2 r) (fun R x hx ih=>?_) (l,most) ⟨hl,h1,h2⟩ (f6 (vaI hl (by decide)))
 obtain⟨l,most⟩:=x
 obtain⟨hl,h1,h2⟩:=hx
 have hl:bM (l.map af)<=xy:=hl
 have h1: -8000000<=most:=h1
 have h2:most<=1000000000:=h2
 have hlen:=pN af QG l
 show eO (uI (fun a most=>R (a,most)) l most) _
 unfold uI xO
 unfold xy at hl
 refine au (Pc l (by omega) most (fun i n=>0<=n/\n<=(bM ((l.take i).map af):Int)/\(n<=most->(cM (l.take i):Int)<=n/\(sU (l.take i):Int)<=n)) (fun i hi n hI hm=>?_) (fun i n _ h=>?_) 0 ⟨by omega,by omega,fun _=>by simp[cM,sU]⟩) (fun r hr=>aj ?_)
 ·obtain⟨g1,g2,g3⟩:=hI
  have e:=M8 af l i hi
  have e2:=sJ af l (i+1)
  have ep:=Nc l[i]
  have epp:=Bd l[i].Pred
  have en:=R1 l i hi
  have en2:=Lc l i hi
  have enp:=qp l[i]
  have enp2:=uo l[i]
  have hns:=Qb l[i].Names
  have hps:=Y5 l[i].Preds
  have hpl:=DE l[i].Preds
  show eO (iG (fun a most=>R (a,most)) l most n i) _
  unfold iG sh
  rw[kD hi hm,bv l i hi]
  simp only[vaa,if_true]
  have hq:=vcx l[i].Name.length 50
  rw[show(50:Int)=((50:Nat):Int)from rfl,WX _ 50 (by omega) (by omega)]
  simp only[vaa]
  rw[dR (by simp;omega)]
  simp only[vaa]
  refine au (Yg ([l[i].Pred]++l[i].Preds) most (by unfold xy;simp only[List.singleton_append,vax,bM];omega) h1 h2) (fun rp hp=>?_)
  have p1:=hp.lo
  have p2:rp<=((fx (ac l[i].Pred)+bM (l[i].Preds.map ac):Nat):Int):=by
   have:=hp.hi
   simp only[List.singleton_append,vax,bM]at this
   exact this
  have p3:rp<=most->((nP l[i].Pred+nL l[i].Preds:Nat):Int)<=rp:=by
   have:=hp.sm
   simp only[List.singleton_append,nL]at this
   exact this
  rw[dB (n:=n+1) (by omega) (by omega),dB (n:=n+1+_) (by omega) (by omega),dB (n:=n+1+_+_) (by omega) (by omega),dB (n:=n+1+_+_+_) (by omega) (by omega),dB (n:=most - _) (by omega) (by omega)]
  refine au (ih (l[i].Args,most - (n+1+((l[i].Name.length / 50:Nat):Int)+(l[i].Names.length:Int)+rp)) (by show _<bM (l.map af);show bM (l[i].Args.map af)<_;omega) ⟨by show bM (l[i].Args.map af)<=xy;unfold xy;omega,by show -8000000<=most - _;omega,by show most - _<=1000000000;omega⟩) (fun r hr=>?_)
  have q1:=hr.lo
  have q2:r<=(bM (l[i].Args.map af):Int):=hr.hi
  have q3:r<=most - (n+1+((l[i].Name.length / 50:Nat):Int)+(l[i].Names.length:Int)+rp)->(cM l[i].Args:Int)<=r/\(sU l[i].Args:Int)<=r:=hr.sm
  rw[dB (n:=_+r) (by omega) (by omega)]
  refine aj ⟨_,rfl,by omega,by omega,fun hm'=>?_⟩
  have:=q3 (by omega)
  have:=p3 (by omega)
  have:=g3 hm
  have:=OS l[i].Pred
  omega
 ·show iG (fun a most=>R (a,most)) l most n i=_
  unfold iG sh
  rw[gX h]
  rfl
 ·obtain⟨i,hi,⟨g1,g2,g3⟩,h⟩:=hr
  have e2:=sJ af l i
  refine⟨g1,by show r<=(bM (l.map af):Int);omega,fun hm=>?_⟩
  have hm:r<=most:=hm
  have:i=l.length:=by
   rcases h with h|h
   ·exact h
   ·exact absurd hm h
  subst this
  rw[vbn]at g3
  exact g3 hm
theorem ZK(l:List ae)(most:Int)(hl:bM (l.map af)<=xy)(h1:0<=most)(h2:most<=1000000000):eO (Ea ⟨0,[],0,[],[],[],l⟩ most) (fun r=>0<=r/\(r<=most->(cM l:Int)<=r/\(sU l:Int)<=r)):=by
 unfold Ea
 refine mU (F:=C7) (fun _=>0) (fun x=>x=(⟨0,[],0,[],[],[],l⟩,most)) (fun _ r=>0<=r/\(r<=most->(cM l:Int)<=r/\(sU l:Int)<=r)) (fun R x hx ih=>?_) _ rfl (f6 (by decide))
 rw[hx]
 show eO (xM (fun a most=>R (a,most)) ⟨0,[],0,[],[],[],l⟩ most) _
 unfold xM
 refine ct (a:=0) (show qu .i64 0 50=some 0 by decide) ?_
 refine au (Yz l most hl (by omega) h2) (fun r hr=>?_)
 have q1:=hr.lo
 have q2:=hr.hi
 have q3:=hr.sm
 unfold xy at hl
 rw[dB (n:=1+0) (by omega) (by omega),dB (n:=1+0+r) (by omega) (by omega)]
 refine ct (a:=1+0+r) ?_ (ct (a:=1+0+r) ?_ (ct (a:=1+0+r) ?_ (aj ⟨by omega,fun h=>⟨by have:=(q3 (by omega)).1;omega,by have:=(q3 (by omega)).2;omega⟩⟩)))
 ·exact j2 rfl
 ·exact j2 rfl
 ·exact j2 rfl
theorem gD{α:Type}(l:List α)(hl:l.length<9223372036854775808){body:Int×Int->Option ((Int×Int)⊕Int)}(most:Int)
  (hin:∀(i:Nat) (h:i<l.length) n,n<=most->eO (body (n,(i:Int))) (fun r=>∃n',r=.inl (n',aR ((i:Int)+1))))
  (hout:∀(i:Nat) n,i<=l.length->(i=l.length\/¬n<=most)->body (n,(i:Int))=some (.inr n)) (n:Int):eO (loop body (n,0)) (fun _=>True):=
 (Pc l hl most (fun _ _=>True) (fun i h n _ hm=>(hin i h n hm).mono fun r ⟨n',e⟩=>⟨n',e,trivial⟩) hout n trivial).mono fun _ _=>trivial
theorem GM(k:IntKind)(a b:Int)(hb:b≠0):eO (qu k a b) (fun _=>True):=by
 unfold qu;rw[van hb];exact aj trivial
theorem yG(l:List aa)(most:Int)(hl:bM (l.map ac)<=xy):eO (ec l most) (fun _=>True):=by
 refine mU (F:=pz) (fun x=>bM (x.1.map ac)) (fun x=>bM (x.1.map ac)<=xy) (fun _ _=>True) (fun R x hx ih=>?_) (l,most) hl (f6 (vaI hl (by decide)))
 obtain⟨l,most⟩:=x
 have hl:bM (l.map ac)<=xy:=hx
 have hlen:=pN ac QC l
 show eO (lk (fun a most=>R (a,most)) l most) _
 unfold lk oe
 unfold xy at hl
 refine au (gD l (by omega) most (fun i hi n hm=>?_) (fun i n _ h=>?_) 0) (fun r _=>aj trivial)
 ·have e:=ua (vap.2 ⟨_,vat hi,rfl⟩:ac l[i]∈l.map ac)
  have ep:=Bd l[i]
  show eO (eC (fun a most=>R (a,most)) l most n i) _
  unfold eC j9
  rw[kD hi hm,bv l i hi]
  simp only[vaa,if_true]
  exact au (GM _ _ _ (by decide)) fun q _=>au (ih (l[i].Kids,_) (by show bM (l[i].Kids.map ac)<bM (l.map ac);omega) (by show bM (l[i].Kids.map ac)<=xy;unfold xy;omega)) fun r _=>aj ⟨_,rfl⟩
 ·show eC (fun a most=>R (a,most)) l most n i=_
  unfold eC j9
  rw[gX h]
  rfl
theorem O3(p:aa):bM ([p].map ac)=fx (ac p):=by simp[bM]
theorem B5(l:List ae)(most:Int)(hl:bM (l.map af)<=xy):eO (fg l most) (fun _=>True):=by
 refine mU (F:=pA) (fun x=>bM (x.1.map af)) (fun x=>bM (x.1.map af)<=xy) (fun _ _=>True) (fun R x hx ih=>?_) (l,most) hl (f6 (vaI hl (by decide)))
 obtain⟨l,most⟩:=x
 have hl:bM (l.map af)<=xy:=hx
 have hlen:=pN af QG l
 show eO (ll (fun a most=>R (a,most)) l most) _
 unfold ll og
 unfold xy at hl
 refine au (gD l (by omega) most (fun i hi n hm=>?_) (fun i n _ h=>?_) 0) (fun r _=>aj trivial)
 ·have e:=ua (vap.2 ⟨_,vat hi,rfl⟩:af l[i]∈l.map af)
  have ep:=Nc l[i]
  show eO (eD (fun a most=>R (a,most)) l most n i) _
  unfold eD ka
  rw[kD hi hm,bv l i hi]
  simp only[vaa,if_true]
  exact au (GM _ _ _ (by decide)) fun q _=>au (yG _ _ (by unfold xy;omega)) fun _ _=>au (yG _ _ (by rw[O3];unfold xy;omega)) fun _ _=>au (ih (l[i].Args,_) (by show bM (l[i].Args.map af)<bM (l.map af);omega) (by show bM (l[i].Args.map af)<=xy;unfold xy;omega)) fun r _=>aj ⟨_,rfl⟩
 ·show eD (fun a most=>R (a,most)) l most n i=_
  unfold eD ka
  rw[gX h]
  rfl
theorem E6(t:ae):bM ([t].map af)=fx (af t):=by simp[bM]
theorem QE(e:bL):fx (aP e)=1+(e.Name.length+1)+1+(bM (e.Kids.map aP)+1)+(bM (e.Params.map dv)+1)+(bM (e.Alts.map eI)+1)+(bM (e.Types.map af)+1):=by
 rw[dC];simp only[fx,pm,sl];omega
theorem Tp(a:rf):fx (eI a)=(a.Con.length+1)+(bM (a.Names.map cS)+1)+fx (aP a.Body):=by
 rw[qm,dC];simp only[fx,pm,sl];omega
theorem Nb(a:nF):fx (dv a)=(a.Name.length+1)+fx (af a.Type_):=by
 unfold dv;rw[dT];simp only[fx,pm]
theorem Gq(α:Type){c:α->List PVal}(h:∀x,1<=fx (c x)){l:List α}(hl:bM (l.map c)<=xy):l.length<9223372036854775808:=by
 have:=pN c h l
 unfold xy at hl;omega
theorem Gs{α:Type}{c:α->List PVal}{l:List α}{i:Nat}(h:i<l.length):fx (c l[i])<=bM (l.map c):=ua (vap.2 ⟨_,vat h,rfl⟩)
theorem Ya(e:bL)(most:Int)(he:fx (aP e)<=xy):eO (FV e most) (fun _=>True):=by
 refine mU (F:=Ai) (fun x=>fx (aP x.1)) (fun x=>fx (aP x.1)<=xy) (fun _ _=>True) (fun R x hx ih=>?_) (e,most) he (f6 (vaI he (by decide)))
 obtain⟨e,most⟩:=x
 have he:fx (aP e)<=xy:=hx
 have hp:=QE e
 show eO (uJ (fun a most=>R (a,most)) e most) _
 unfold uJ xP xQ xS
 refine au (GM _ _ _ (by decide)) fun q _=>au (B5 _ _ (by omega)) fun _ _=>au (gD e.Params (Gq _ (fun x=>by rw[Nb];omega) (c:=dv) (by omega)) most (fun i hi n hm=>?_) (fun i n _ h=>?_) _) fun _ _=>au (gD e.Kids (Gq _ (fun x=>by rw[QE];omega) (c:=aP) (by omega)) most (fun i hi n hm=>?_) (fun i n _ h=>?_) _) fun _ _=>au (gD e.Alts (Gq _ (fun x=>by rw[Tp];omega) (c:=eI) (by omega)) most (fun i hi n hm=>?_) (fun i n _ h=>?_) _) fun _ _=>aj trivial
 ·have:=Gs (c:=dv) hi
  have:=Nb e.Params[i]
  show eO (iH most e n i) _
  unfold iH sj
  rw[kD hi hm,bv _ i hi]
  simp only[vaa,if_true]
  exact au (GM _ _ _ (by decide)) fun q _=>au (B5 _ _ (by rw[E6];omega)) fun r _=>aj ⟨_,rfl⟩
 ·show iH most e n i=_
  unfold iH sj
  rw[gX h]
  rfl
 ·have:=Gs (c:=aP) hi
  show eO (iI (fun a most=>R (a,most)) most e n i) _
  unfold iI sk
  rw[kD hi hm,bv _ i hi]
  simp only[vaa,if_true]
  exact au (ih (e.Kids[i],_) (by show fx (aP e.Kids[i])<fx (aP e);omega) (by show fx (aP e.Kids[i])<=xy;omega)) fun r _=>aj ⟨_,rfl⟩
 ·show iI (fun a most=>R (a,most)) most e n i=_
  unfold iI sk
  rw[gX h]
  rfl
 ·have:=Gs (c:=eI) hi
  have:=Tp e.Alts[i]
  show eO (iJ (fun a most=>R (a,most)) most e n i) _
  unfold iJ sn
  rw[kD hi hm,bv _ i hi]
  simp only[vaa,if_true]
  exact au (ih (e.Alts[i].Body,_) (by show fx (aP e.Alts[i].Body)<fx (aP e);omega) (by show fx (aP e.Alts[i].Body)<=xy;omega)) fun r _=>aj ⟨_,rfl⟩
 ·show iJ (fun a most=>R (a,most)) most e n i=_
  unfold iJ sn
  rw[gX h]
  rfl
theorem M9(b:kY):fx (cD b)=(b.Name.length+1)+(bM (b.Vars.map bE)+1)+fx (ac b.Hyp)+fx (ac b.Goal):=by
 unfold cD;simp only[dT,fx,pm,sl];omega
theorem Yf(b:U4):(bM (b.Bounds.map cD)+1)+fx (af b.Type_)+(bM (b.Metric.map ac)+1)<=fx (yn b):=by
 unfold yn;simp only[dT,fx,pm,sl];omega
theorem Tr(b:pj):(b.Name.length+1)+fx (aP b.Body)+fx (yn b.Sig)<=fx (cT b):=by
 unfold cT;simp only[dT,fx,pm,sl];omega
theorem VT(l:List pj)(most:Int)(hl:bM (l.map cT)<=xy):eO (mt l most) (fun _=>True):=by
 unfold mt px
 refine au (gD l (Gq _ (fun x=>by have:=Tr x;omega) hl) most (fun i hi n hm=>?_) (fun i n _ h=>?_) _) fun _ _=>aj trivial
 ·have h1:=Gs (c:=cT) hi
  have h2:=Tr l[i]
  have h3:=Yf l[i].Sig
  show eO (eT l most n i) _
  unfold eT li py
  rw[kD hi hm,bv _ i hi]
  simp only[vaa,if_true]
  refine au (GM _ _ _ (by decide)) fun q _=>au (B5 _ _ (by rw[E6];omega)) fun r _=>au (yG _ _ (by omega)) fun _ _=>au (gD l[i].Sig.Bounds (Gq _ (fun x=>by rw[M9];omega) (c:=cD) (by omega)) most (fun k hk n hm=>?_) (fun k n _ h=>?_) _) fun _ _=>au (Ya _ _ (by omega)) fun _ _=>aj ⟨_,rfl⟩
  ·have h4:=Gs (c:=cD) hk
   have h5:=M9 l[i].Sig.Bounds[k]
   show eO (eU most l[i].Sig.Bounds n k) _
   unfold eU lj
   rw[kD hk hm,bv _ k hk]
   simp only[vaa,if_true]
   exact au (yG _ _ (by simp only[vax,vbU,bM];omega)) fun _ _=>aj ⟨_,rfl⟩
  ·show eU most l[i].Sig.Bounds n k=_
   unfold eU lj
   rw[gX h]
   rfl
 ·show eT l most n i=_
  unfold eT li
  rw[gX h]
  rfl
theorem KS(m:aQ):fx (aC m)=(bM (m.Datas.map co)+1)+(bM (m.Classes.map eP)+1)+(bM (m.Instances.map bP)+1)+(bM (m.Measures.map cG)+1)+(bM (m.Quals.map eM)+1)+(bM (m.Defs.map cT)+1):=by
 unfold aC;simp only[fx,pm,sl];omega
theorem E7(b:eS):fx (co b)=(b.Name.length+1)+(bM (b.Vars.map cS)+1)+(bM (b.Preds.map bE)+1)+(bM (b.Cons.map ef)+1):=by
 unfold co;simp only[dT,fx,pm,sl];omega
theorem Tq(b:iu):fx (ef b)=(b.Name.length+1)+(bM (b.Names.map cS)+1)+(bM (b.Fields.map af)+1):=by
 unfold ef;simp only[dT,fx,pm,sl];omega
theorem Na(b:pd):fx (eP b)=(b.Name.length+1)+(b.Var.length+1)+(bM (b.Methods.map dF)+1):=by
 unfold eP;simp only[dT,fx,pm,sl];omega
theorem KR(b:qz):fx (dF b)=(b.Name.length+1)+fx (af b.Type_):=by
 unfold dF;simp only[dT,fx,pm,sl]
theorem E8(b:dI):1+fx (af b.Type_)+(bM (b.Defs.map cT)+1)<=fx (bP b):=by
 unfold bP;simp only[dT,fx,pm,sl];omega
theorem Hq(b:f0):1+(bM (b.Cases.map fa)+1)+fx (ac b.Inv)<=fx (cG b):=by
 unfold cG;simp only[dT,fx,pm,sl];omega
theorem QD(b:y9):1+fx (ac b.Body)<=fx (fa b):=by
 unfold fa;simp only[dT,fx,pm,sl];omega
theorem QF(b:rY):1+fx (ac b.Body)<=fx (eM b):=by
 unfold eM;simp only[dT,fx,pm,sl];omega
theorem Yt(m:aQ)(hm:fx (aC m)<=xy):eO (wF m) (fun _=>True):=by
 have hp:=KS m
 unfold wF
 refine au (R:=fun _=>True) ?_ fun o _=>aJ (fun _=>aj trivial) fun _=>?_
 ·unfold xT
  exact aJ (fun _=>aj trivial) fun _=>aJ (fun _=>aj trivial) fun _=>aJ (fun _=>aj trivial) fun _=>aJ (fun _=>aj trivial) fun _=>aJ (fun _=>aj trivial) fun _=>aj trivial
 unfold xU xW vQ vR vU
 refine au (VT _ _ (by omega)) fun _ _=>au (gD m.Datas (Gq _ (fun x=>by rw[E7];omega) (c:=co) (by omega)) 4000 (fun i hi n hn=>?_) (fun i n hi h=>?_) _) fun _ _=>au (gD m.Classes (Gq _ (fun x=>by rw[Na];omega) (c:=eP) (by omega)) 4000 (fun i hi n hn=>?_) (fun i n hi h=>?_) _) fun _ _=>au (gD m.Instances (Gq _ (fun x=>by have:=E8 x;omega) (c:=bP) (by omega)) 4000 (fun i hi n hn=>?_) (fun i n hi h=>?_) _) fun _ _=>au (gD m.Measures (Gq _ (fun x=>by have:=Hq x;omega) (c:=cG) (by omega)) 4000 (fun i hi n hn=>?_) (fun i n hi h=>?_) _) fun _ _=>au (gD m.Quals (Gq _ (fun x=>by have:=QF x;omega) (c:=eM) (by omega)) 4000 (fun i hi n hn=>?_) (fun i n hi h=>?_) _) fun _ _=>aj trivial
 ·have h1:=Gs (c:=co) hi
  have h2:=E7 m.Datas[i]
  show eO (iK m n i) _
  unfold iK sq xV
  rw[kD hi hn,bv _ i hi]
  simp only[vaa,if_true]
  refine au (GM _ _ _ (by decide)) fun q _=>au (gD m.Datas[i].Cons (Gq _ (fun x=>by rw[Tq];omega) (c:=ef) (by omega)) 4000 (fun k hk n hn=>?_) (fun k n _ h=>?_) _) fun _ _=>aj ⟨_,rfl⟩
  ·have h3:=Gs (c:=ef) hk
   have h4:=Tq m.Datas[i].Cons[k]
   show eO (iL m i n k) _
   unfold iL su
   rw[bv _ i hi]
   simp only[vaa]
   rw[kD hk hn,bv _ k hk]
   simp only[vaa,if_true]
   exact au (B5 _ _ (by omega)) fun _ _=>aj ⟨_,rfl⟩
  ·show iL m i n k=_
   unfold iL su
   rw[bv _ i hi]
   simp only[vaa]
   rw[gX h]
   rfl
 ·show iK m n i=_
  unfold iK sq
  rw[gX h]
  rfl
 ·have h1:=Gs (c:=eP) hi
  have h2:=Na m.Classes[i]
  show eO (iM m n i) _
  unfold iM sw xX
  rw[kD hi hn]
  simp only[vaa,if_true]
  refine au (gD m.Classes[i].Methods (Gq _ (fun x=>by rw[KR];omega) (c:=dF) (by omega)) 4000 (fun k hk n hn=>?_) (fun k n _ h=>?_) _) fun _ _=>aj ⟨_,rfl⟩
  ·have h3:=Gs (c:=dF) hk
   have h4:=KR m.Classes[i].Methods[k]
   show eO (iN m i n k) _
   unfold iN sA
   rw[bv _ i hi]
   simp only[vaa]
   rw[kD hk hn,bv _ k hk]
   simp only[vaa,if_true]
   exact au (B5 _ _ (by rw[E6];omega)) fun _ _=>aj ⟨_,rfl⟩
  ·show iN m i n k=_
   unfold iN sA
   rw[bv _ i hi]
   simp only[vaa]
   rw[gX h]
   rfl
 ·show iM m n i=_
  unfold iM sw
  rw[gX h]
  rfl
 ·have h1:=Gs (c:=bP) hi
  have h2:=E8 m.Instances[i]
  show eO (gK m n i) _
  unfold gK qe
  rw[kD hi hn,bv _ i hi]
  simp only[vaa,if_true]
  exact au (B5 _ _ (by rw[E6];omega)) fun _ _=>au (VT _ _ (by omega)) fun _ _=>aj ⟨_,rfl⟩
 ·show gK m n i=_
  unfold gK qe
  rw[gX h]
  rfl
 ·have h1:=Gs (c:=cG) hi
  have h2:=Hq m.Measures[i]
  show eO (gL m n i) _
  unfold gL qf vS
  rw[kD hi hn,bv _ i hi]
  simp only[vaa,if_true]
  refine au (yG _ _ (by rw[O3];omega)) fun _ _=>au (gD m.Measures[i].Cases (Gq _ (fun x=>by have:=QD x;omega) (c:=fa) (by omega)) 4000 (fun k hk n hn=>?_) (fun k n _ h=>?_) _) fun _ _=>aj ⟨_,rfl⟩
  ·have h3:=Gs (c:=fa) hk
   have h4:=QD m.Measures[i].Cases[k]
   show eO (gM m i n k) _
   unfold gM qg
   rw[bv _ i hi]
   simp only[vaa]
   rw[kD hk hn,bv _ k hk]
   simp only[vaa,if_true]
   exact au (yG _ _ (by rw[O3];omega)) fun _ _=>aj ⟨_,rfl⟩
  ·show gM m i n k=_
   unfold gM qg
   rw[bv _ i hi]
   simp only[vaa]
   rw[gX h]
   rfl
 ·show gL m n i=_
  unfold gL qf
  rw[gX h]
  rfl
 ·have h1:=Gs (c:=eM) hi
  have h2:=QF m.Quals[i]
  show eO (gN m n i) _
  unfold gN qh
  rw[kD hi hn,bv _ i hi]
  simp only[vaa,if_true]
  exact au (yG _ _ (by rw[O3];omega)) fun _ _=>aj ⟨_,rfl⟩
 ·show gN m n i=_
  unfold gN qh
  rw[gX h]
  rfl
theorem Dj:wI=some true:=by kernel_rfl
theorem TA(t:ae)(h:fx (af t)<=1048576):eO (pB t) (fun r=>(!r)=true\/(cu t<=160/\wT t<=160)):=by
 unfold pB
 refine au (ZK [t] 150 (by rw[E6];unfold xy;omega) (by omega) (by omega)) fun r hr=>aj ?_
 by_cases hc:r<=150
 ·have h1:=hr.2 hc
  simp only[cM,sU]at h1
  exact .inr ⟨by omega,by omega⟩
 ·exact .inl (by simp;omega)
theorem qbp(l:List ag)(h:l.length<9223372036854775808):eO (El l) (fun _=>True):=by
 unfold El Dg
 refine au (xt l h (fun i (_:Unit)=>i) (fun _ _=>True) (Q:=fun _=>True) (fun i hi s _=>?_) (fun s _=>?_) () trivial) fun o _=>by cases o<;>exact aj trivial
 ·show eO (lr l (i:Int)) _
  unfold lr Df
  rw[vak (by simp;omega)]
  refine au (R:=fun _=>True) (aJ (fun _=>aj trivial) fun _=>ct (bv l i hi) (aj trivial)) fun o _=>aJ (fun _=>aj trivial) fun _=>aj ⟨(),rfl,trivial⟩
 ·show eO (lr l (l.length:Int)) _
  unfold lr
  rw[van (by simp)]
  exact aj trivial
theorem Ym(x:aD)(ha:cu x.A<=bz)(hb:cu x.B<=bz)(pa:Di (fun p=>nP p<=bz) x.A)(pb:Di (fun p=>nP p<=bz) x.B):eO (wJ x) (fun r=>(!r)=true\/(zd x.A/\zd x.B)):=by
 unfold wJ
 refine au (I1 x.A ha pa) fun r hr=>aJ (fun h=>?_) (fun _=>aj (.inl rfl))
 refine au (I1 x.B hb pb) fun r' hr'=>aj ?_
 by_cases h':r'=0
 ·exact .inr ⟨hr (by simpa using h),hr' (by simpa using h')⟩
 ·exact .inl (by simpa using h')
structure V6(m:aQ)(x:aD)(used:List ag):Prop where
 la:cu x.A<=160
 lb:cu x.B<=160
 wa:wT x.A<=160
 wb:wT x.B<=160
 ea:zd x.A
 eb:zd x.B
theorem O2(x:aD):fx (ay x)=fx (af x.A)+fx (af x.B)+1:=by
 unfold ay;simp only[dT,fx,pm];omega
abbrev XR(m:aQ)(x:aD)(used:List ag):Prop:=fx (aC m)+(fx (ay x)+(pm (sl cS used)+0))<=1048576
theorem Vy{t:ae}(h:fx (af t)<=1048576):cu t<=bz/\Di (fun p=>nP p<=bz) t:=⟨by have:=Ta t;unfold bz;omega,Mx (fun p hp=>vaI hp (by decide)) t (SI 1048576 t h)⟩
theorem XV(m:aQ)(x:aD)(used:List ag)(h:XR m x used):eO (lF used m x) (fun o=>o=true\/V6 m x used):=by
 have hp:=O2 x
 have hl:=Qb used
 have hu:pm (sl cS used)=bM (used.map cS)+1:=by simp only[pm,sl]
 unfold XR at h
 have ga:=Vy (t:=x.A) (by omega)
 have gb:=Vy (t:=x.B) (by omega)
 unfold lF
 refine au (Yt m (by unfold xy;omega)) fun _ _=>aJ (fun _=>aj (.inl rfl)) fun _=>au (TA x.A (by omega)) fun r1 h1=>aJ (fun _=>aj (.inl rfl)) fun n1=>au (TA x.B (by omega)) fun r2 h2=>aJ (fun _=>aj (.inl rfl)) fun n2=>au (qbp used (by omega)) fun _ _=>aJ (fun _=>aj (.inl rfl)) fun _=>au (Ym x ga.1 gb.1 ga.2 gb.2) fun r3 h3=>aj ?_
 have h1:=h1.resolve_left n1
 have h2:=h2.resolve_left n2
 rcases h3 with h3|h3
 ·exact .inl h3
 ·exact .inr ⟨h1.1,h2.1,h1.2,h2.2,h3.1,h3.2⟩
theorem V6.f{m:aQ}{x:aD}{used:List ag}(h:V6 m x used)(hf:XR m x used)(hs:xl x.A x.B=true):Ch x.A x.B used 1048576/\Ch x.B x.A used 1048576:=by
 have hp:=O2 x
 have hl:=Qb used
 have hu:pm (sl cS used)=bM (used.map cS)+1:=by simp only[pm,sl]
 unfold XR at hf
 have n1:=Tf x.A
 have n2:=Tf x.B
 have:=h.la;have:=h.lb
 have e:=(Tw _ _).1 hs
 exact⟨⟨e,h.la,h.lb,h.wa,h.wb,Eo _ _ (by omega),Eo _ _ (by omega),by omega,by omega,h.ea,h.eb⟩,⟨e.symm,h.lb,h.la,h.wb,h.wa,Eo _ _ (by omega),Eo _ _ (by omega),by omega,by omega,h.eb,h.ea⟩⟩
theorem KQ{α:Type}(c:α->List PVal)(h:∀x,2<=fx (c x)):∀(l:List α),2 * l.length<=bM (l.map c)
 |[]=>by simp
 |x::l=>by have:=KQ c h l;have:=h x;simp only[vax,bM,vaN];omega
theorem ZZ{m:aQ}(h:fx (aC m)<=1048576):ZY m 524288:=by
 have hp:=KS m
 have hd:=pN co (fun x=>by rw[E7];omega) m.Datas
 refine⟨by omega,fun d hd'=>?_,by decide⟩
 have h1:=ua (vap.2 ⟨d,hd',rfl⟩:co d∈m.Datas.map co)
 have h2:=E7 d
 have h3:=KQ bE (fun x=>by unfold bE;simp only[fx,pm];omega) d.Preds
 omega
theorem X9{m:aQ}{a b:ae}{used:List ag}{L D:Nat}(hm:ZY m D)(tag:Int)(hl:cu a<=bz)(h:xl a b=true->Ch a b used L):kW m a b tag used=some (if xl a b=true then(Q2 m tag a b used,0)else(Zf,12)):=by
 unfold kW
 rw[UX a b hl]
 simp only[vaa]
 cases hs:xl a b with
 |false=>rfl
 |true=>
  rw[van (by simp),WT hm tag (h hs)]
  rfl
mutual
def pe(tag:Int):ak->List ag->Bool
 |⟨o,n,_,_,t,ks⟩,U=>if o=3 then decide (t=tag)else if o=2/\n≠[]then decide (n∉U)&&ic tag ks (U++[n])else ic tag ks U
def ic(tag:Int):List ak->List ag->Bool
 |[],_=>true
 |c::cs,U=>pe tag c U&&ic tag cs U
end
theorem Yx(tag:Int)(c:ak)(U:List ag):pe tag c U=if c.Op=3 then decide (c.Tag=tag)else if c.Op=2/\c.Name≠[]then decide (c.Name∉U)&&ic tag c.Kids (U++[c.Name])else ic tag c.Kids U:=by
 obtain⟨o,n,s,p,t,ks⟩:=c;rw[pe];rfl
theorem xq(tag:Int)(U:List ag):∀(l:List ak),ic tag l U=l.all (fun c=>pe tag c U)
 |[]=>by rw[ic];rfl
 |c::l=>by rw[ic,xq tag U l];rfl
theorem SJ{α:Type}(p:α->Bool):∀(l:List α),(l.any fun x=>!p x)= !l.all p
 |[]=>rfl
 |x::l=>by rw[List.any_cons,List.all_cons,SJ p l];cases p x<;>rfl
theorem Xg(c:ak)(tag:Int)(U:List ag)(h:nC c+U.length<=bz):JN c tag U=some (pe tag c U):=by
 refine kf (F:=Dh) (fun x=>nC x.1) (fun x=>nC x.1+x.2.2.length<=bz/\x.2.1=tag) (fun x=>pe tag x.1 x.2.2) (fun R x hx ih=>?_) (c,tag,U) ⟨h,rfl⟩ (f6 (by show nC c<=bz;omega))
 obtain⟨c,tg,U⟩:=x
 obtain⟨hx,ht⟩:=hx
 have ht:tg=tag:=ht
 subst ht
 have hx:nC c+U.length<=bz:=hx
 have hb:bz=1073741824:=rfl
 have hk:=MC c
 have hpos:=M2 c
 show yh (fun c t u=>R (c,t,u)) c tg U=some (pe tg c U)
 unfold yh
 rw[Yx]
 by_cases h3:c.Op=3
 ·rw[vak (by simpa using h3),vak h3]
  rfl
 rw[van (by simpa using h3),van h3]
 have loopK:∀V:List ag,V.length<=U.length+1->qI (fun c t u=>R (c,t,u)) tg V c 0=some (if ic tg c.Kids V=true then Sum.inr ()else Sum.inl ()):=fun V hV=>by
  unfold qI
  have:=MZ c.Kids (by omega) (fun zz=>vY (fun c t u=>R (c,t,u)) tg V c zz) (fun i x=>(R (x,tg,V)).bind fun r19=>if(!r19)=true then some (.inr (.inl ()))else some (.inl (aR (i+1)))) (fun x=>!pe tg x V) (Sum.inl ():Unit⊕Unit) (Sum.inr ()) (fun i=>rfl) (fun x hx i=>by
   have hlt:=Oa hx
   rw[show R (x,tg,V)=some (pe tg x V)from ih (x,tg,V) hlt ⟨by show nC x+V.length<=bz;omega,rfl⟩]
   simp only[vaa]
   cases pe tg x V<;>rfl)
  rw[this,SJ,<-xq]
  cases ic tg c.Kids V<;>rfl
 have fin:∀V:List ag,V.length<=U.length+1->((qI (fun c t u=>R (c,t,u)) tg V c 0).bind fun o22=>match o22 with|(.inl o22)=>some false|(.inr o22)=>some true)=some (ic tg c.Kids V):=fun V hV=>by
  rw[loopK V hV]
  cases ic tg c.Kids V<;>rfl
 unfold Az AA
 by_cases h2:c.Op=2
 ·rw [vak (by simpa using h2)]
  simp only[vaa]
  by_cases hn:c.Name=[]
  ·rw[van (by simp[hn]),van (by simp[hn])]
   simp only[vaa]
   exact fin U (by omega)
  ·rw[vak (by simpa using hn),vak ⟨h2,hn⟩]
   have hl:uP U c 0=some (if U.any (fun x=>x==c.Name)=true then Sum.inl ()else Sum.inr ()):=by
    unfold uP
    exact MZ U (by omega) (fun zz=>vX U c zz) (fun i x=>if(x==c.Name)=true then some (.inr (.inl ()))else some (.inl (aR (i+1)))) (fun x=>x==c.Name) (Sum.inl ():Unit⊕Unit) (Sum.inr ()) (fun i=>rfl) (fun x hx i=>by
     by_cases h:(x==c.Name)=true<;>simp[h])
   rw[hl]
   simp only[vaa]
   by_cases hm:c.Name∈U
   ·rw[vak (vbo.2 ⟨_,hm,by simp⟩),decide_eq_false (by simpa using hm)]
    rfl
   ·rw[van (fun h=>by obtain⟨y,hy,he⟩:=vbo.1 h;exact hm (by rw[<-eq_of_beq he];exact hy)),vbp hm]
    simp only
    rw[dR (by simp;omega),vaD]
    simp only[vaa]
    rw[dR (by simp;omega)]
    simp only[vaa,Bool.true_and]
    exact fin _ (by simp)
 ·rw[van (by simpa using h2),van (by simp[h2])]
  simp only[vaa,va5,if_false]
  exact fin U (by omega)
mutual
theorem W7(tag:Int)(U:List ag):∀(c:ak),ic tag (CB c) U=pe tag c U
 | ⟨o,n,s,p,t,ks⟩ => by
  rw[CB]
  split
  ·rw[ic,ic,Bool.and_true]
  ·rename_i h
   rw[La tag U ks,pe,van (by omega),van (by omega)]
theorem La(tag:Int)(U:List ag):∀(l:List ak),ic tag (fT l) U=ic tag l U
 |[]=>by rw[fT]
 |c::l=>by
  have h1:=W7 tag U c
  have h2:=La tag U l
  rw[fT,ic,<-h1,<-h2]
  rw[xq,xq,xq,List.all_append]
end
theorem TC(tag:Int)(U:List ag)(l:List ak):pe tag (En (fT l)) U=ic tag l U:=by
 rw[pe,van (by decide),van (by simp),La]
theorem IW(tag:Int)(U:List ag)(x s:ag)(p:aa)(c:ak)(hx:x∉U)(h1:pe tag c (U++[x])=true)(h2:pe tag c U=true):pe tag (L4 x s p c) U=true:=by
 rw[pe,van (by decide)]
 split
 ·rw[ic,h1,vbp hx];rfl
 ·rw[ic,h2];rfl
theorem xr(tag:Int)(U:List ag)(p:aa):pe tag (EN p tag) U=true:=by
 rw[pe,vak rfl];simp
theorem S5(tag:Int)(a b:ae)(x:ag)(U:List ag)(hx:x∉U):∀(l:List dh) (i:Nat),ic tag (Um tag a b x l i) U=true
 |[],i=>by rw[Um,ic]
 |d::l,i=>by
  rw[Um,ic,S5 tag a b x U hx l (i+1),IW tag U x _ _ _ hx (xr _ _ _) (xr _ _ _)];rfl
theorem TT(m:aQ)(tag:Int)(a b:ae)(used U:List ag)(hu:used.length<=100000000)(h:∀x∈U,x∈used):pe tag (G8 m tag a b used) U=true:=by
 have hx:fq used [118,49]∉U:=fun hm=>(wB used [118,49] hu (by simp)).2.2 (h _ hm)
 unfold G8
 simp only
 split
 ·rw[TC,ic,S5 tag a b _ U hx,IW tag U _ _ _ _ hx (xr _ _ _) (xr _ _ _)];rfl
 ·exact IW tag U _ _ _ _ hx (xr _ _ _) (xr _ _ _)
theorem XT{a b:ae}{used:List ag}{L:Nat}(h:Ch a b used L)(i:Nat)(hi:i<a.Args.length):Q9 a b (fJ a b used i).2.2 i∉(fJ a b used i).2.2:=by
 have h1:=Hg a b used i
 have h2:=j3 a
 have h3:=j3 b
 have h4:=h.u
 have h5:=Te a
 have h7:=h.la;have h8:=h.lb;have h9:=h.nl
 have hu:used.length+i<=10000000:=by
  have:a.Args.length<=cM (a.Args.map sS):=by have:=wY (a.Args.map sS);rwa[vaL]at this
  omega
 have hbase:(b.Names.getD i [120]).length<=4000000000000000000:=by
  by_cases hb:i<b.Names.length
  ·rw[vac,vab hb,Option.getD_some]
   have:=((wK _ _).1 h.nb).1 _ (vat hb)
   omega
  ·rw[vac,vau (by omega)]
   simp
 have:=(wB (((fJ a b used i).2.2++a.Names.drop (i+1))++b.Names.drop (i+1)) (b.Names.getD i [120]) (by rw[vae,vae,vaV,vaV];omega) hbase).2.2
 intro hm
 exact this (vaR _ (vaR _ hm))
theorem PX{rec:Rc}{a b:ae}{used:List ag}{L:Nat}(tag:Int)(h:Ch a b used L)(n:Nat)(hn:n+1=a.Args.length)
  (hr:∀i,i<a.Args.length->∀U:List ag,(∀x∈U,x∈(fJ a b used i).2.2)->pe tag (rec (rA a b used i) (lA a b used i) (fJ a b used i).2.2) U=true/\pe tag (rec (lA a b used i) (rA a b used i) (fJ a b used i).2.2) U=true):
  ∀k,k<=n->∀U:List ag,(∀x∈U,x∈(fJ a b used (n - k)).2.2)->pe tag (sQ rec a b used n k) U=true
 |0,_,U,hU=>(hr n (by omega) U hU).2
 | k + 1,hk,U,hU => by
  have ih:=PX tag h n hn hr k (by omega)
  have h1:=(hr (n - (k+1)) (by omega) U hU).1
  have e:(fJ a b used (n - k)).2.2=(fJ a b used (n - (k+1))).2.2++[Q9 a b (fJ a b used (n - (k+1))).2.2 (n - (k+1))]:=by
   rw[show n - k=n - (k+1)+1 by omega];rfl
  have hy:=XT h (n - (k+1)) (by omega)
  rw[sQ,TC,ic,ic,ic,h1]
  rw[e]at ih
  unfold Ew
  split
  ·rw[IW tag U _ _ _ _ (fun hm=>hy (hU _ hm)) (ih _ fun x hx=>?_) (ih _ fun x hx=>vaR _ (hU x hx))]
   ·rfl
   ·rcases vaE.1 hx with hx|hx
    ·exact vaR _ (hU x hx)
    ·exact vba _ hx
  ·rw[ih _ fun x hx=>vaR _ (hU x hx)];rfl
theorem GV(m:aQ)(tag:Int):∀(k:Nat) (a b:ae) (used:List ag) (L:Nat),Ch a b used L->nT a<=k->∀U:List ag,(∀x∈U,x∈used)->pe tag (DX m tag k a b used) U=true
 |0,a,b,used,L,h,hk,_,_=>by have:1<=nT a:=mL _;omega
 | k + 1,a,b,used,L,h,hk,U,hU => by
  have z:pe tag (En []) U=true:=by rw[pe,van (by decide),van (by simp),ic]
  show pe tag (if a.Op=6 then _ else _) U=true
  by_cases h6:a.Op=6
  ·rw[vak h6]
   by_cases h0:a.Args.length=0
   ·rw[vak h0];exact z
   ·rw[van h0]
    refine PX tag h (a.Args.length - 1) (by omega) (fun i hi V hV=>?_) (a.Args.length - 1) (vah _) U (by rw[vby];exact hU)
    have hc:=h.child i hi
    exact⟨GV m tag k _ _ _ _ hc.2.1 (by omega) V hV,GV m tag k _ _ _ _ hc.1 (by omega) V hV⟩
  ·rw[van h6]
   by_cases hb:Ev a=true
   ·rw[vak hb]
    exact TT m tag a b used U (by have:=h.u;omega) hU
   ·rw[van hb];exact z
theorem GG(m:aQ)(x:aD)(used:List ag)(h:fx (aC m)+(fx (ay x)+(pm (sl cS used)+0))<=1048576):ry m x used=some true:=by
 obtain⟨o,e,ho⟩:=XV m x used h
 have e:nq used m x=some o:=e
 have hp:=O2 x
 have hl:=Qb used
 have hu:pm (sl cS used)=bM (used.map cS)+1:=by simp only[pm,sl]
 have hm:ZY m 524288:=ZZ (by omega)
 unfold ry
 rw[e]
 simp only[vaa]
 by_cases hc:o=true
 ·rw[vak hc,Dj];rfl
 ·have hL:=ho.resolve_left hc
  have hf:xl x.A x.B=true->Ch x.A x.B used 1048576:=fun hs=>(hL.f h hs).1
  have hlen:cu x.A<=bz:=by have:=hL.la;unfold bz;omega
  rw[van hc,X9 hm x.Tag hlen hf]
  simp only[vaa]
  cases hs:xl x.A x.B with
  |false=>
   simp only[va5,if_false]
   rw[Dj]
   rfl
  |true=>
   have h1:=(Z9 hm x.Tag (hf hs)).2
   have:=hL.la;have:=hL.lb;have:=hL.wa;have:=hL.wb
   simp only[if_true]
   rw[van (by simp),Xg _ _ _ (by show nC (Q2 m x.Tag x.A x.B used)+used.length<=1073741824;omega)]
   simp only[vaa]
   rw[show pe x.Tag (Q2 m x.Tag x.A x.B used) used=true from GV m x.Tag _ _ _ _ _ (hf hs) (vah _) used (fun _ hx=>hx),vak rfl,Dj]
   rfl
end Go.Proofs.YtbaamopmfmpfaaaGreatDoor
