/- PROVED: a part of the proof. Conditions: none. -/
import Derived.Test.YtibglelmlnfojaaGreatDoorPkM22
set_option linter.unusedSimpArgs false set_option linter.defProp false
set_option linter.unusedVariables false
noncomputable section
namespace Go.Proofs.YtibglelmlnfojaaGreatDoor
open Go
open Option renaming some→O,none→N
open Go renaming TypeId→G,Value→D,Program→I,Oper→M,World→J,Code→W
open Bool renaming true→T,false→Z
open Decidable renaming decide→Y
open Go.Proofs.YtibglelmlnfojaaGreatDoor renaming PVal→U
set_option linter.unusedVariables false
set_option linter.unusedSimpArgs false
def nT(t:am):Nat:=64 * dc (al t) - 100
def Qi(t:am):nT t+100=64 * dc (al t):=by have:=Yq t;have:=jA t.Pred;unfold nT;omega
def XC{β γ:Type}{mk:List Int->K->β}{mk':ae->K->γ}{k:List Int}{s:ae}{b:K}{n:Nat}{o:Q β}{r:Q γ}(h:R2 mk mk' k s T n o r):R2 mk mk' k s b n o (O (mk' s T)):=λm p _=>by
 let⟨q,x,c,d,t,e,w,i⟩:=h m p (λa=>by cases a);have a:c=true:=by cases c with|true=>rfl|false=>have:=(i rfl).1;cases this
 subst a;exact⟨q,s,T,d,rfl,e,by omega,λa=>by cases a⟩
def gZ(x:ae×am):Nat:=48+(x.1.length+nT x.2)
def qcl:∀a b:List (List U),bC (a++b)=bC a+bC b
 |[],b=>by simp[bC]
 |x::a,b=>by rw[vaN,bC,bC,qcl a b];omega
def qiY:∀(a:List ae)(l:List am),((a.zip l).map gZ).sum<=(a.map List.length).sum+64 * bC (l.map al)
 |[],_=>by simp
 |_::_,[]=>by simp
 |x::a,t::l=>by have:=qiY a l;have:=Qi t;simp only[List.zip_cons_cons,ox,List.sum_cons,bC,gZ]at *;omega
section
variable{R:am->V Int->K->Q (K×V Int)}{R':am->ae->K->Q (K×ae)}
def qpp(a:am)(e:KD a){n:Nat}(c:∀k s b,R2 tI tI k s b n (R a k b) (R' a s b))(k:V Int)(s:ae)(b:K):R2 Prod.mk Prod.mk k s b (n+32) (kg R a k b) (ig R' a s b):=by unfold kg ig;exact fK (qmQ a (Gh e)) (qeT a) (uK Iff.rfl (λ_=>bT (cZ λh m=>aL (c h m b) λi o d=>cZ λp q=>bI (n:=0) (mk:=Prod.mk) (mk':=Prod.mk)) (by omega)) λ_=>bT (aL (n2:=0) (c k s b) λi o d=>bI (mk:=Prod.mk) (mk':=Prod.mk)) (by omega))
def qt2(t:am)(c:t.Preds.length<9223372036854775808)(d:∀p∈t.Preds,dc (ag p)<=16777216)(k:V Int)(s:ae)(b:K):R2 Prod.mk Prod.mk k s b (64 * bC (t.Preds.map ag)) (hZ (t.Preds.length:Int) t k b) (vg t.Preds (t.Preds.length:Int) 0 s b):=by unfold hZ uz vg;rw[show ∀o:Q (V Int×K),(o.bind λx=>O (x.1,x.2))=o from λo=>by cases o<;>rfl];refine bT (jo t.Preds c (λp=>16+(16+(40 * dc (ag p)+0))) (λ_ _ _=>rfl) (λ_ _ _=>rfl) λi a k s b=>lT (aC _ _ a) (R0 λn r=>?_)) (lX ag _ _ λp _=>by have:=jA p;omega);unfold vH;simp only[or,hN];exact cZ λe h=>rC (aC _ _ a) (aL (qgO _ (d _ (m4 a)) e h b) λq w m=>bI)
def qtZ(t:am)(m:KD t)(z:∀a∈t.Args,∀k s b,R2 tI tI k s b (nT a) (R a k b) (R' a s b))(k:V Int)(s:ae)(b:K):R2 Prod.mk Prod.mk k s b (t.Name.length+(64 * bC (t.Args.map al)+(64 * bC (t.Preds.map ag)+32)))
  ((bw t.Name k b).bind λe=>(tz R t.Args (t.Args.length:Int) 0 e.2 e.1).bind λc=>if Y ((t.Preds.length:Int)>0)then(aa ([yr]:V ae) c.1 c.2).bind λo=>(hZ (t.Preds.length:Int) t o c.2).bind λd=>(aa ([Wj]:V ae) d.1 d.2).bind λq=>O (q,d.2)else O (c.1,c.2)) (oA R' t s b):=by
 have w:=Yq t
 have A:=qF t
 have B:=Rm t
 have X:jm t<=1073741824:=xY m
 unfold oA
 refine aL (Jk _ k s b) λx y P=>aL (mk:=Prod.mk) (mk':=Prod.mk) (n1:=64 * bC (t.Args.map al)) ?_ λE H r=>?_
 .unfold tz E8
  refine bT (jo t.Args (by omega) (λa=>16+(nT a+32+0)) (λ_ _ _=>rfl) (λ_ _ _=>rfl) λi h k s b=>fK (aC _ _ h) (aC _ _ h) (cZ λx y=>aL (qpp _ (qac m (m4 h)) (λk s b=>z _ (m4 h) k s b) x y b) λE H r=>bI)) (lX al _ _ λa _=>by have:=Qi a;omega)
 .by_cases S:t.Preds.length=0
  .rw[hG (by simp only[gt_iff_lt,nm];omega),hU (by simp only[o5];omega)]
   exact bI (mk:=Prod.mk) (mk':=Prod.mk)
  .rw[hU (by simp only[gt_iff_lt,nm];omega),hG (by simp only[o5];omega)]
   exact bT (cZ λF L=>aL (qt2 t (by omega) (λp w=>qeZ m w) F L r) λk4 s4 b4=>cZ λk5 s5=>bI (n:=0) (mk:=Prod.mk) (mk':=Prod.mk)) (by omega)
def qwC(t:am)(ht:KD t)(h6:2<=t.Args.length/\(t.Names=[]\/t.Names.length=t.Args.length - 1))(P:∀a∈t.Args,∀k s b,R2 tI tI k s b (nT a) (R a k b) (R' a s b))(k:V Int)(s:ae)(b:K):R2 Prod.mk tI k s b (64 * bC (t.Args.map al)+64 * bC (t.Names.map cS)+32) (kF R t k b) ((qt R' t s b).bind λq=>O (q.2,q.1)):=by
 have hp:=Yq t;have a0:=qF t;have hB:jm t<=1073741824:=xY ht;have hw:cz ((t.Args.length:Int) - 1)=((t.Args.length - 1:Nat):Int):=by rw[dj (by omega) (by omega)];omega
 have c:t.Args.length - 1<t.Args.length:=by omega
 have A:(t.Args.take (t.Args.length - 1)).length=t.Args.length - 1:=by rw[vbg];omega
 unfold kF qt;rw[hw,qj6 _ _ (by omega)];simp only[or,hN];obtain⟨ns,d⟩:∃ns:V ae,(if t.Names=[]then List.replicate (t.Args.length - 1) ([]:ae)else t.Names)=ns:=⟨_,rfl⟩
 have a1:ns.length=t.Args.length - 1:=by
  rw[<-d];split;.rw[vcR]
  .rename_i h;exact h6.2.resolve_left h
 have hz:(ns.zip (t.Args.take (t.Args.length - 1))).length=t.Args.length - 1:=by rw[List.length_zip];omega
 have X:((ns.zip (t.Args.take (t.Args.length - 1))).map gZ).sum+nT t.Args[t.Args.length - 1]<=64 * bC (t.Args.map al)+64 * bC (t.Names.map cS):=by
  have e1:=qiY ns (t.Args.take (t.Args.length - 1));have e2:(ns.map List.length).sum<=64 * bC (t.Names.map cS):=by
   rw[<-d];split
   .have:∀n:Nat,((List.replicate n ([]:ae)).map List.length).sum=0:=λn=>by induction n<;>simp_all[List.replicate_succ]
    rw[this];omega
   .exact lX cS List.length t.Names λx _=>by simp only[cS,dc,pm];omega
  have e3:t.Args=t.Args.take (t.Args.length - 1)++[t.Args[t.Args.length - 1]]:=by have:=vbd (t.Args.length - 1) t.Args;rw[vaD c,vb7 (by omega)]at this;exact this.symm
  have e4:bC (t.Args.map al)=bC ((t.Args.take (t.Args.length - 1)).map al)+dc (al t.Args[t.Args.length - 1]):=by
   conv=>lhs;rw[e3]
   rw[va1,qcl];simp[bC]
  have:=Qi t.Args[t.Args.length - 1];omega
 refine bT (cZ λk1 s1=>aL (mk:=Prod.mk) (mk':=Prod.mk) (n1:=((ns.zip (t.Args.take (t.Args.length - 1))).map gZ).sum) ?_ λB F r=>cZ λE H=>fK (aC _ _ c) (aC _ _ c) (aL (n2:=0) (P _ (m4 c) E H r) λk4 s4 b4=>bI (mk:=Prod.mk) (mk':=tI))) (by omega);unfold pw uB Hu;rw[show ∀o:Q (V Int×K),(o.bind λx=>O (x.1,x.2))=o from λo=>by cases o<;>rfl,A];refine jo (ns.zip (t.Args.take (t.Args.length - 1))) (by omega) gZ (λ_ _ _=>by rw[hz];rfl) (λ_ _ _=>by rw[hz];rfl) λi hi k s b=>?_;have w:i<(t.Args.take (t.Args.length - 1)).length:=by omega
 have m:i<t.Args.length:=by omega
 have p:i<ns.length:=by omega
 rw[vda];have L:(t.Args.take (t.Args.length - 1))[i]=t.Args[i]:=vc5;have hg:gZ (ns[i],t.Args[i])=48+(ns[i].length+nT t.Args[i]):=rfl;refine lT (aC _ _ w) (bT (R0 (n:=32+(ns[i].length+nT t.Args[i])) λk1 s1=>?_) (by rw[L,hg];omega));unfold mZ;simp only[or,hN];rw[L];refine bT (aL (mk:=Prod.mk) (mk':=Prod.mk) (n1:=16+ns[i].length) (n2:=nT t.Args[i]) ?_ λB F r=>rC (aC _ _ m) (bT (aL (n2:=0) (P _ (m4 m) B F r) λE H b3=>bI) (by omega))) (by omega);unfold kc wV;refine uK Iff.rfl (λS=>?_) λ_=>bI (mk:=Prod.mk) (mk':=Prod.mk);have y:t.Names≠[]:=λe=>by rw[e]at S;simp at S
 have z:ns=t.Names:=by rw[<-d,hG y]
 subst z;exact bT (fK (aC _ _ p) (aC _ _ p) (aL (sD _ k1 s1 b) λB F r=>cZ λE H=>bI (n:=0) (mk:=Prod.mk) (mk':=Prod.mk))) (by omega)
end
def MD{β a γ:Type}{mk:V Int->K->β}{mk':ae->K->γ}{m2:V Int->K->a}{k:V Int}{s:ae}{b:K}{n:Nat}{o:Q β}{o':Q γ}{f:β->Q a}(h:R2 mk mk' k s b n o o')(e:∀k b,f (mk k b)=O (m2 k b)):R2 m2 mk' k s b n (o.bind f) o':=λm p q=>by obtain⟨r,t,i,rfl,c,d⟩:=h m p q;exact⟨r,t,i,e _ _,c,d⟩
section
variable{R:am->V Int->K->Q (K×V Int)}{R':am->ae->K->Q (K×ae)}
def qnR(R':am->ae->K->Q (K×ae))(t:am)(s:ae)(b:K):Q (K×ae):=if(t.Op==1)then(ac ([Yw]:V ae) s b).bind λd=>O (b,d) else if(t.Op==2)then(ac ([QL]:V ae) s b).bind λe=>O (b,e) else if(t.Op==3)then(ac ([QM]:V ae) s b).bind λh=>O (b,h) else if(t.Op==5)then(aH t.Name Z s b).bind λa=>O (a.2,a.1) else if(t.Op==4)then(oA R' t s b).bind λc=>O (c.2,c.1) else O (b,s)
abbrev nC(t:am):Nat:=t.Name.length+(64 * bC (t.Args.map al)+(64 * bC (t.Preds.map ag)+32))+16
def qgN(t:am)(q:KD t)(m:t.Op≠6)(p:∀a∈t.Args,∀k s b,R2 tI tI k s b (nT a) (R a k b) (R' a s b))(k:V Int)(s:ae)(b:K):R2 Prod.mk tI k s b (nC t) (eS R t k b) (qnR R' t s b):=by
 have w:nC t=t.Name.length+(64 * bC (t.Args.map al)+(64 * bC (t.Preds.map ag)+32))+16:=rfl;unfold eS qnR;refine uK Iff.rfl (λ_=>bT (cZ (n:=0) λe h=>bI (mk:=Prod.mk) (mk':=tI)) (by omega)) λ_=>uK Iff.rfl (λ_=>bT (cZ (n:=0) λe h=>bI (mk:=Prod.mk) (mk':=tI)) (by omega)) λ_=>uK Iff.rfl (λ_=>bT (cZ (n:=0) λe h=>bI (mk:=Prod.mk) (mk':=tI)) (by omega)) λ_=>uK Iff.rfl (λ_=>bT (aL (n2:=0) (sD _ k s b) λe h i=>bI (mk:=Prod.mk) (mk':=tI)) (by omega)) λ_=>?_;by_cases d:(t.Op==4)=T;.rw[hU d,hU d];have:=aL (n2:=0) (f:=λr=>O (r.1,r.2)) (f':=λc=>O (c.2,c.1)) (qtZ t q p k s b) λe h i=>bI (mk:=Prod.mk) (mk':=tI);rw[show ∀o:Q (V Int×K),(o.bind λx=>O (x.1,x.2))=o from λo=>by cases o<;>rfl]at this;exact bT this (by omega)
 .rw[hG d,hG d,hG (by simpa using m)];exact bI (mk:=Prod.mk) (mk':=tI)
abbrev qqf(R:am->V Int->K->Q (K×V Int))(t:am)(k:V Int)(b:K):Q (V Int×K):=if RP t then O (k,T)else eS R t k b
def qo6(t:am)(h:KD t)(c:t.Op≠6)(d:∀a∈t.Args,∀k s b,R2 tI tI k s b (nT a) (R a k b) (R' a s b))(k:List Int)(s:ae)(b:K):R2 Prod.mk tI k s b (nC t) (qqf R t k b) (qnR R' t s (b||RP t)):=by cases e:RP t with|true=>rw[qqf,e,hU rfl,vbs];exact AC (qgN t h c d k s T)|false=>rw[qqf,e,hG (by decide),vbp];exact qgN t h c d k s b
def qwz(t:am)(i:KD t)(o:qoH t)(d:t.Op≠6)(n:∀a∈t.Args,∀k s b,R2 tI tI k s b (nT a) (R a k b) (R' a s b))(k:List Int)(s:ae)(b:K):R2 Prod.mk tI k s b (nC t) (qqf R t k b) (fZ R' (P2 t) s b):=by
 have h:(t.Op==6)=false:=by simpa using d
 have p:RP (P2 t)=RP t:=by
  unfold RP;show((t.Op==6)&&_||_)=((t.Op==6)&&_||_)
  rw[h,vcb,vcb];rfl
 unfold fZ;refine lT (qoI (xY i) o) (lT (mc _ s b) ?_);have m:(b||!((0:Int)==0))=b:=by simp
 rw[m];have c:∀b,R2 Prod.mk tI k s b (nC t) (qqf R t k b) ((iV (P2 t) s b).bind λe=>qnR R' t s e):=λb=>by rw[qlm (P2 t) d,p];exact qo6 t i d n k s b
 cases b with|true=>rw[hU rfl];exact XC (c T)|false=>rw[hG (by decide),hG (by show ¬(t.Op==6)=T;rw[h];decide),zN,hN,hG (by show ¬(!Y ((P2 t).Pred=mg))=T;rw[show(P2 t).Pred=mg from rfl];simp)];exact c Z
def qt3(t:am)(F:KD t)(hc:qoH t)(hs:qz7 t)(hR:∀a∈t.Args,∀k s b,R2 tI tI k s b (nT a) (R a k b) (R' a s b))(w:t.Op≠6->t.Pred≠mg->∀k s b,R2 Prod.mk tI k s b (nC t) (qqf R t k b) (R' (P2 t) s b))(k:List Int)(s:ae)(b:K):R2 tI tI k s b (nT t) (oh R t k b) (fZ R' t s b):=by
 have hp:=Yq t;have hq:=jA t.Pred;have hn:=Qi t;have hC:nC t=t.Name.length+(64 * bC (t.Args.map al)+(64 * bC (t.Preds.map ag)+32))+16:=rfl;unfold oh fZ;refine fK (qzX t F) hc (lT (mc _ s b) ?_);have eb:(b||!((0:Int)==0))=b:=by simp
 rw[eb]
 have a6:∀b,R2 tI tI k s b (nT t) (if RP t then O (T,k)else(kk t.Pred).bind λq=>(gQ (!q) k b).bind λP=>(eS R t P b).bind λi=>if(!q)then(aa ([gX]:List ae) i.1 i.2).bind λA=>(cy t.Pred A i.2).bind λe=>(aa ([Iu]:List ae) e.1 e.2).bind λB=>O (e.2,B)else O (i.2,i.1))
   (if(t.Op==6)then(li t s b).bind λa8=>(qt R' t s a8).bind λa7=>O (a7.2,a7.1)else(ue t.Pred).bind λab=>if(!ab)then(ac ([ez]:List ae) s b).bind λq=>(R' (P2 t) q b).bind λp=>(ac ([gX]:List ae) p.2 p.1).bind λy=>(cj t.Pred y p.1).bind λd=>(ac ([Iu]:List ae) d.1 d.2).bind λz=>O (d.2,z)else(iV t s b).bind λa9=>qnR R' t s a9):=λb=>by
  rw[zM _ (Gh F),zN,hN,hN]
  by_cases m:t.Op=6
  .rw[hU (c:=(t.Op==6)=T) (by simpa using m),qrP,hN]
   have E:RP t=(!Y (t.Pred=mg)||decide ((t.Preds.length:Int)>0)):=by unfold RP;simp[m]
   rw[<-E]
   have hf:=λb=>qwC t F (hs.2 m) hR k s b
   cases H:RP t with
   |true=>
    rw[hU rfl,vbs]
    exact AC (mk:=tI) (MD (f:=λr=>O (r.2,r.1)) (bT (hf T) (by omega)) λ_ _=>rfl)
   |false=>
    have X:t.Pred=mg:=by rw[E]at H;simp at H;exact H.1
    have e1:(t.Op==1)=false:=by simp[m]
    have e2:(t.Op==2)=false:=by simp[m]
    have e3:(t.Op==3)=false:=by simp[m]
    have e5:(t.Op==5)=false:=by simp[m]
    have e4:(t.Op==4)=false:=by simp[m]
    have e6:(t.Op==6)=true:=by simp[m]
    unfold gQ eS
    simp only[m5,if_false,vbp,X,decide_true,vbf,hN,e1,e2,e3,e4,e5,e6,if_true]
    rw[show ∀o:Q (List Int×K),(o.bind λx=>O (x.1,x.2))=o from λo=>by cases o<;>rfl]
    exact MD (bT (hf b) (by omega)) λ_ _=>rfl
  .rw [hG (c:=(t.Op == 6) = T) (by simpa using m)]
   by_cases X:t.Pred=mg
   .simp only[X,decide_true,vbf,m5,if_false]
    rw[qlm t m,hN]
    have h:=qo6 t F m hR k s b
    unfold gQ
    simp only[m5,if_false,hN]
    refine bT (n:=nC t) ?_ (by omega)
    cases H:RP t with
    |true=>
     rw[hU rfl,vbs]
     exact AC (mk:=tI) (MD (f:=λr=>O (r.2,r.1)) (qgN t F m hR k s T) λ_ _=>rfl)
    |false=>
     rw[hG (by decide),vbp]
     exact MD (qgN t F m hR k s b) λ_ _=>rfl
   .simp only[X,decide_false,vbt,if_true]
    have hX:∀b,R2 tI tI k s b (nT t) ((aa ([ez]:List ae) k b).bind λP=>(qqf R t P b).bind λi=>(aa ([gX]:List ae) i.1 i.2).bind λA=>(cy t.Pred A i.2).bind λe=>(aa ([Iu]:List ae) e.1 e.2).bind λB=>O (e.2,B))
      ((ac ([ez]:List ae) s b).bind λq=>(R' (P2 t) q b).bind λp=>(ac ([gX]:List ae) p.2 p.1).bind λy=>(cj t.Pred y p.1).bind λd=>(ac ([Iu]:List ae) d.1 d.2).bind λz=>O (d.2,z)):=λb=>
     bT (cZ λk1 s1=>aL (w m X k1 s1 b) λk2 s2 b2=>cZ λk3 s3=>aL (qcy t.Pred (Gh F) k3 s3 b2) λk4 s4 b4=>cZ λk5 s5=>bI (n:=0) (mk:=tI) (mk':=tI)) (by omega)
    cases H:RP t with
    | true =>
     rw[hU rfl]
     have L:∀k s b,R2 tI tI k s b (16+(40 * dc (ag t.Pred)+(16+0))) ((aa ([gX]:List ae) k b).bind λA=>(cy t.Pred A b).bind λe=>(aa ([Iu]:List ae) e.1 e.2).bind λB=>O (e.2,B)) ((ac ([gX]:List ae) s b).bind λy=>(cj t.Pred y b).bind λd=>(ac ([Iu]:List ae) d.1 d.2).bind λz=>O (d.2,z)):=λk s b=>
      cZ λk3 s3=>aL (qcy t.Pred (Gh F) k3 s3 b) λk4 s4 b4=>cZ λk5 s5=>bI (mk:=tI) (mk':=tI)
     intro h1 h2 h3
     have z1:ez.length=5:=rfl
     have ep:ac ([ez]:List ae) s b=O (s++ez):=R5 _ s b (by omega)
     rw[ep,hN]
     let⟨k',s',b',S,a2,a3,a4,a5⟩:=w m X (k++qG ez) (s++ez) b (by rw[m3,ir.len];omega) (by rw[m3];omega) (λhb=>by rw[h3 hb,ir.app])
     rw[qqf,H,hU rfl]at S
     injection S with S
     injection S with a0 S
     subst S
     rw[a2,hN]
     rw[m3]at a4
     let⟨k5,s5,b5,c1,c2,c3,c4,c5⟩:=AC (mk:=tI) (b:=T) (L k s' T) (by omega) (by omega) (λh=>by cases h)
     exact⟨k5,s5,b5,c1,c2,by omega,by omega,λhb=>by have:=(c5 hb).1;cases this⟩
    |false=>
     rw[hG (by decide)]
     have:=hX b
     rw[show qqf R t=eS R t from by funext k b;rw[qqf,H,hG (by decide)]]at this
     unfold gQ
     simp only[if_true,or,hN]
     exact this
 cases b with|true=>rw[hU (c:=(T:K)=T) rfl];exact XC (a6 T)|false=>rw[hG (c:=(Z:K)=T) (by decide)];exact a6 Z
end
def qwG(t:am)(d:KD t)(n:qoH t)(k:List Int)(s:ae)(b:K):R2 tI tI k s b (nT t) (na t k b) (dH t s b):=by
 have p:∀m c e t k s b,c<=m->2 * jm t+(if t.Pred=mg then 0 else 1)<c->jm t<e->KD t->qoH t->R2 tI tI k s b (nT t) (qc0 ki e (t,k,b)) (qc0 ii c (t,s,b)):=by
  intro m;induction m with
  |zero=>intro c e t k s b w h;omega
  |succ m ih=>
   intro c e t k s b w q y d n;have A:=qib t;obtain⟨c,rfl⟩:∃o,c=o+1:=⟨c - 1,by omega⟩
   obtain⟨e,rfl⟩:∃o,e=o+1:=⟨e - 1,by omega⟩
   refine qt3 (R:=λt k b=>qc0 ki e (t,k,b)) (R':=λt k b=>qc0 ii c (t,k,b)) t d n (qtO (xY d) n) (λa i k s b=>ih c e a k s b (by omega) (by have:=pp i;split<;>split at q<;>omega) (by have:=pp i;omega) (qac d i) (qk0 (xY d) n i)) (λx z k s b=>?_) k s b;obtain⟨r,rfl⟩:∃o,c=o+1:=⟨c - 1,by omega⟩
   exact qwz (R:=λt k b=>qc0 ki e (t,k,b)) (R':=λt k b=>qc0 ii r (t,k,b)) t d n x (λa i k s b=>ih r e a k s b (by omega) (by have:=pp i;rw[hG z]at q;split<;>omega) (by have:=pp i;omega) (qac d i) (qk0 (xY d) n i)) k s b
 exact p _ _ _ t k s b (m7 _) (by have:=xY d;unfold qjf;unfold dm at this;split<;>omega) (by have:=xY d;unfold qjf;unfold dm at this;omega) d n
def qj9{t:am}{r:Int}(a:kX t=O r)(c:r≠0)(s:ae)(b:K):dH t s b=O (T,s):=by
 have e:(r==0)=false:=by rw[beq_eq_false_iff_ne];exact c
 show qc0 ii (2 ^ 200) (t,s,b)=_;obtain⟨m,d⟩:∃m,2 ^ 200=m+1:=⟨2 ^ 200 - 1,by omega⟩
 rw[d];show fZ (λt k b=>qc0 ii m (t,k,b)) t s b=_;unfold fZ;rw[a,hN,mc,hN,e,vbt,vbs,hU rfl]
def qpq(t:am)(h:KD t)(k:V Int)(s:ae)(b:K):R2 tI tI k s b (nT t) (cV t k b) (dH t s b):=by
 let⟨r,c,d⟩:=qsb t h;have e:=Qi t;unfold cV;rw[d,hN];by_cases a:r=0;.subst a;rw[hG (by decide)];exact MD (m2:=tI) (qwG t h c k s b) λ_ _=>rfl
 .rw[hU (by rw[bne_iff_ne];exact a)];rw[qj9 c a];exact qsy (mk:=tI) (mk':=tI)
def qz2(t:am)(h:KD t)(k:V Int)(s:ae)(b:K):R2 tI tI k s b (64 * dc (al t)) (cV t k b) (dH t s b):=bT (qpq t h k s b) (by have:=Qi t;omega)
def nX(e:aj):Nat:=64 * dc (ak e) - 100
def vZ(e:aj):nX e+100=64 * dc (ak e):=by have:=qV e;unfold nX;omega
def g8{α β:Type}(o:Q (α×β)):(o.bind λx=>O (x.1,x.2))=o:=by cases o<;>rfl
def qtU{α:Type}(c:α->List U):∀{l:List α}{x:α},x∈l->dc (c x)<=bC (l.map c)
 | y :: l,x,h => by
  rw[ox,bC];rcases oL.1 h with rfl|h;.omega
  .have:=qtU c h;omega
def qCx(l:List ae):l.length<=bC (l.map cS):=by induction l with|nil=>simp|cons x l ih=>simp only[vz,ox,bC,cS,dc,pm];omega
def qrJ(l:V ae)(k:V Int)(s:ae)(b:K)(h:l.length<9223372036854775808):R2 Prod.mk Prod.mk k s b (64 * bC (l.map cS)+32) (eL l k b) (if Y ((l.length:Int)>0)then(ac ([bZ]:V ae) s b).bind λr=>(fY l r b).bind λq=>O (q.1,q.2)else O (s,b)):=by
 unfold eL;by_cases p:l.length=0;.rw[hU (by simp only[o5];omega),hG (by simp only[gt_iff_lt,nm];omega)];exact bI (mk:=Prod.mk) (mk':=Prod.mk)
 rw[hG (by simp only[o5];omega),hU (by simp only[gt_iff_lt,nm];omega)];unfold fY ms oe sO;simp only[g8,or,hN];refine bT (qlh λc d=>aL (mk:=Prod.mk) (mk':=Prod.mk) (jo l h (λx=>16+(x.length+0)) (λ_ _ _=>rfl) (λ_ _ _=>rfl) λi a k s b=>lT (aC l i a) (R0 λc d=>?_)) λm o e=>cZ λt w=>bI (n:=0) (mk:=Prod.mk) (mk':=Prod.mk)) (by have:=lX cS (λx=>16+(x.length+0)) l (λx _=>by simp only[cS,dc,pm];omega);omega);unfold lC;simp only[or,hN];exact rC (aC l i a) (aL (sD _ c d b) λm o e=>bI (n:=0))
def qlf(l:V am)(h:l.length<9223372036854775808)(m:∀t∈l,KD t)(k:V Int)(s:ae)(b:K):R2 Prod.mk Prod.mk k s b (64 * bC (l.map al)+32) (kj l k b) (rO l s b):=by unfold kj rO;refine uK Iff.rfl (λ_=>bI (mk:=Prod.mk) (mk':=Prod.mk)) λ_=>?_;unfold px uE C9;simp only[g8];refine bT (cZ λc d=>aL (mk:=Prod.mk) (mk':=Prod.mk) (jo l h (λx=>16+(nT x+0)) (λ_ _ _=>rfl) (λ_ _ _=>rfl) λi a k s b=>lT (aC l i a) (R0 λc d=>?_)) λo p e=>cZ λq r=>bI (n:=0) (mk:=Prod.mk) (mk':=Prod.mk)) (by have:=lX al (λx=>16+(nT x+0)) l (λx _=>by have:=Qi x;omega);omega);unfold rA;simp only[or,hN];exact rC (aC l i a) (aL (qpq _ (m _ (m4 a)) c d b) λo p e=>bI (n:=0))
def qrK(e:aj)(m:e.Params.length<9223372036854775808)(n:∀p∈e.Params,KD p.Type_)(k:V Int)(s:ae)(b:K):R2 Prod.mk Prod.mk k s b (64 * bC (e.Params.map bk)) (jJ (e.Params.length:Int) e k b) (wX e.Params (e.Params.length:Int) 0 s b):=by
 unfold jJ sq wX;rw[g8];refine bT (jo e.Params m (λp=>16+(p.Name.length+(16+(nT p.Type_+0)))) (λ_ _ _=>rfl) (λ_ _ _=>rfl) λi a k s b=>lT (aC _ i a) (R0 λo r=>?_)) (lX bk _ _ λp _=>by have:=Qi p.Type_;have:=Rj p;omega);have c:=n _ (m4 a);unfold qX;simp only[or,hN];refine rC (aC _ i a) (aL (sD _ o r b) λw y h=>rC (aC _ i a) (fK (qph _ c) (qfx _ (qjL (n3 c (by unfold dm;omega)))) ?_));by_cases d:e.Params[i].Type_=Wo;.simp only[d,decide_true,vbf,m5,if_false,hN];exact bI
 .simp only[d,decide_false,vbt,if_true,or,hN];exact cZ λq t=>rC (aC _ i a) (aL (qpq _ c q t h) λx z b4=>bI)
section
variable{R:aj->V Int->K->Q (V Int×K)}{R':aj->ae->K->Q (ae×K)}
def qmT(a:Int)(x:aj)(d:quc x){n:Nat}(c:∀k s b,R2 Prod.mk Prod.mk k s b n (R x k b) (R' x s b))(k:V Int)(s:ae)(b:K):R2 Prod.mk Prod.mk k s b (n+32) (il R x a k b) (j2 R' x a s b):=by unfold il j2;simp only[g8];exact fK (FM x d) (qll x d) (uK Iff.rfl (λ_=>bT (cZ λe h=>aL (c e h b) λm p i=>cZ λo q=>bI (n:=0) (mk:=Prod.mk) (mk':=Prod.mk)) (by omega)) λ_=>bT (c k s b) (by omega))
def XB(l:V aj)(m:l.length<9223372036854775808)(h:∀x∈l,∀k s b,R2 Prod.mk Prod.mk k s b (nX x) (R x k b) (R' x s b))(k:V Int)(s:ae)(b:K):R2 Prod.mk Prod.mk k s b (64 * bC (l.map ak)+32) (eW R l k b) (gS R' l s b):=by unfold eW gS py uG Ff;simp only[g8];refine bT (cZ λc d=>aL (mk:=Prod.mk) (mk':=Prod.mk) (jo l m (λx=>16+(nX x+0)) (λ_ _ _=>rfl) (λ_ _ _=>rfl) λi a k s b=>lT (aC l i a) (R0 λc d=>?_)) λo p e=>cZ λq r=>bI (n:=0) (mk:=Prod.mk) (mk':=Prod.mk)) (by have:=lX ak (λx=>16+(nX x+0)) l (λx _=>by have:=vZ x;omega);omega);unfold tj;simp only[or,hN,g8];exact rC (aC l i a) (aL (h _ (m4 a) c d b) λo p e=>bI (n:=0))
def qwy(l:V cH)(m:l.length<9223372036854775808)(n:∀a∈l,a.Names.length<9223372036854775808)(h:∀a∈l,∀k s b,R2 Prod.mk Prod.mk k s b (nX a.Body) (R a.Body k b) (R' a.Body s b))(k:V Int)(s:ae)(b:K):R2 Prod.mk Prod.mk k s b (64 * bC (l.map bL)) (pr R l (l.length:Int) 0 k b) (sM R' l (l.length:Int) 0 s b):=by unfold pr sM;exact bT (jo l m (λa=>16+(a.Con.length+((64 * bC (a.Names.map cS)+32)+(16+(nX a.Body+0))))) (λ_ _ _=>rfl) (λ_ _ _=>rfl) λi c k s b=>fK (aC _ _ c) (aC _ _ c) (R0 λo r=>aL (Jk _ o r b) λp t d=>aL (qrJ _ p t d (n _ (m4 c))) λy A e=>cZ λq w=>aL (h _ (m4 c) q w e) λz B x=>bI)) (lX bL _ _ λa _=>by have:=vZ a.Body;have:=qab a;omega)
def qtX(e:aj)(hs:ZD e)(i:quc e)(r:∀x∈e.Kids,∀k s b,R2 Prod.mk Prod.mk k s b (nX x) (R x k b) (R' x s b))(hA:∀a∈e.Alts,∀k s b,R2 Prod.mk Prod.mk k s b (nX a.Body) (R a.Body k b) (R' a.Body s b))(h:e.Op=6\/e.Op=7\/e.Op=8\/e.Op=9\/e.Op=25)(k:V Int)(s:ae)(b:K):R2 Prod.mk Prod.mk k s b (nX e) (od R e k b) (qw R' e s b):=by
 have hB:nE e<=16777216:=n3 (Yh e) hs;have a3:=zD e;have a2:=oZ e;have a0:=lu e;have hp:=qV e;have hn:=vZ e;have hT:∀t∈e.Types,KD t:=λt ht=>qcH hs ht;unfold od qw;rcases h with h|h|h|h|h
 .let⟨x,c⟩:=i.k1 (.inl h);have B:bY e.Kids 0=O x:=by rw[c];exact dI _ _
  have hk:=r x (by rw[c];simp);have L:=vZ x;have H:bC (e.Kids.map ak)=dc (ak x):=by rw[c];simp[bC]
  unfold Fd;simp only[h,Int.reduceBEq,m5,if_false,if_true,g8,B,hN];exact bT (cZ λm o=>aL (qrK e (by omega) (λp hp=>qlo hs hp) m o b) λP S q=>cZ λw A=>hk w A q) (by omega)
 .let⟨x,y,c⟩:=i.k2 (.inl h);have B:bY e.Kids 0=O x:=by rw[c];exact dI _ _
  have e1:bY e.Kids 1=O y:=by rw[c];exact Vc _ _ _
  have E:=r x (by rw[c];simp);have F:=r y (by rw[c];simp);have L:=vZ x;have a1:=vZ y;have H:bC (e.Kids.map ak)=dc (ak x)+dc (ak y):=by rw[c];simp[bC]
  have hJ:∀k s b,R2 Prod.mk Prod.mk k s b (16+64 * bC (e.Types.map al)) (kz e k b) (pN e s b):=λk s b=>by
   unfold kz pN;refine uK Iff.rfl (λhl=>?_) λ_=>bI (mk:=Prod.mk) (mk':=Prod.mk);have hl:0<e.Types.length:=by simpa using hl
   have et:bY e.Types 0=O e.Types[0]:=aC e.Types 0 hl;have a5:=qtU al (m4 hl);have a4:=Qi e.Types[0];exact bT (cZ λm o=>fK et et (aL (n2:=0) (qpq _ (hT _ (m4 hl)) m o b) λP S q=>bI (mk:=Prod.mk) (mk':=Prod.mk))) (by omega)
  unfold Fe;simp only[h,Int.reduceBEq,m5,if_false,if_true,g8,B,e1,hN];exact bT (cZ λm o=>aL (sD _ m o b) λP S q=>aL (hJ P S q) λw A b3=>cZ λk4 s4=>aL (E k4 s4 b3) λk5 s5 b5=>cZ λk6 s6=>F k6 s6 b5) (by omega)
 .let⟨x,y,z,c⟩:=i.k3 h;have B:bY e.Kids 0=O x:=by rw[c];exact dI _ _
  have e1:bY e.Kids 1=O y:=by rw[c];exact Vc _ _ _
  have e2:bY e.Kids 2=O z:=by rw[c];exact qzL _ _ _ _
  have E:=r x (by rw[c];simp);have F:=r y (by rw[c];simp);have X:=r z (by rw[c];simp);have L:=vZ x;have a1:=vZ y;have a6:=vZ z;have H:bC (e.Kids.map ak)=dc (ak x)+(dc (ak y)+dc (ak z)):=by rw[c];simp[bC]
  simp only[h,Int.reduceBEq,m5,if_false,if_true,g8,B,e1,e2,hN];exact bT (cZ λm o=>aL (E m o b) λP S q=>cZ λw A=>aL (F w A q) λk4 s4 b4=>cZ λk5 s5=>X k5 s5 b4) (by omega)
 .let⟨x,c⟩:=i.k1 (.inr (.inl h));have B:bY e.Kids 0=O x:=by rw[c];exact dI _ _
  have hk:=r x (by rw[c];simp);have L:=vZ x;have H:bC (e.Kids.map ak)=dc (ak x):=by rw[c];simp[bC]
  unfold zr;simp only[h,Int.reduceBEq,m5,if_false,if_true,g8,B,hN]
  exact bT (cZ λm o=>aL (hk m o b) λP S q=>cZ λw A=>aL (qwy e.Alts (by omega) (λa ha=>by
   have h1:=qg0 hs ha;have h2:=qCx a.Names;have h3:=qab a;have h4:=qtU bL ha;unfold ZD at hs;omega) hA w A q) λk4 s4 b4=>cZ λk5 s5=>bI (n:=0) (mk:=Prod.mk) (mk':=Prod.mk)) (by omega)
 .have X:=i.k25 h;have hw:cz ((e.Kids.length:Int) - 1)=((e.Kids.length - 1:Nat):Int):=by rw[dj (by omega) (by omega)];omega
  have d:e.Kids.length - 1<e.Kids.length:=by omega
  have a0:=vZ e.Kids[e.Kids.length - 1];have e3:e.Kids=e.Kids.take (e.Kids.length - 1)++[e.Kids[e.Kids.length - 1]]:=by have:=vbd (e.Kids.length - 1) e.Kids;rw[vaD d,vb7 (by omega)]at this;exact this.symm
  have e4:bC (e.Kids.map ak)=bC ((e.Kids.take (e.Kids.length - 1)).map ak)+dc (ak e.Kids[e.Kids.length - 1]):=by
   conv=>lhs;rw[e3]
   rw[va1,qcl];simp[bC]
  simp only[h,Int.reduceBEq,m5,if_false,if_true,g8,hw,qj6 _ _ (vbw d),aC _ _ d,hN];exact bT (cZ λm o=>aL (sD _ m o b) λP S q=>cZ λw A=>aL (XB (e.Kids.take (e.Kids.length - 1)) (by rw[vbg];omega) (λx c=>r x (vcV c)) w A q) λk4 s4 b4=>cZ λk5 s5=>r _ (m4 d) k5 s5 b4) (by omega)
def qrG(e:aj)(L:Nl e)(hs:ZD e)(hR:∀x,nE x<nE e->Nl x->ZD x->∀k s b,R2 Prod.mk Prod.mk k s b (nX x) (R x k b) (R' x s b))(k:V Int)(s:ae)(b:K):R2 Prod.mk Prod.mk k s b (nX e) (jC R e k b) ((JH e).bind λr2=>if(r2==0)then qw R' e s b else if(r2==8)then ew R' e s b else cb R' e s b):=by
 have i:=qO L;have hB:nE e<=16777216:=n3 (Yh e) hs;have E:∀x∈e.Kids,∀k s b,R2 Prod.mk Prod.mk k s b (nX x) (R x k b) (R' x s b):=λx c=>hR x (DO c) (mS L c) (V1 hs c);have hA:∀a∈e.Alts,∀k s b,R2 Prod.mk Prod.mk k s b (nX a.Body) (R a.Body k b) (R' a.Body s b):=λa ha=>hR a.Body (QU ha) (ql7 L ha) (qg0 hs ha);have ad:=zD e;have b8:=z8 e;have hp:=qV e;have H:=vZ e;have hT:∀t∈e.Types,KD t:=λt ht=>qcH hs ht;rw[qll e i,hN];unfold jC ru rv;by_cases hb:e.Op=6\/e.Op=7\/e.Op=8\/e.Op=9\/e.Op=25
 .have m:EE e=0:=by unfold EE;rw[hU (by omega)]
  have a5:=qtX e hs i E hA hb k s b;rcases hb with h|h|h|h|h<;>simp only[h,m,Int.reduceBEq,m5,if_false,if_true,g8,hN,beq_self_eq_true]<;>exact a5
 have z:∀x y,e.Kids=[x,y]->∀sg:ae,sg.length<=16->∀l r:Int,R2 Prod.mk Prod.mk k s b (nX e) (fy R x sg y l r k b) (dG R' e sg l r s b):=λx y c sg b5 l r=>by
  have o:bY e.Kids 0=O x:=by rw[c];exact dI _ _
  have w:bY e.Kids 1=O y:=by rw[c];exact Vc _ _ _
  have a3:=vZ x;have b3:=vZ y;have a2:bC (e.Kids.map ak)=dc (ak x)+dc (ak y):=by rw[c];simp[bC]
  have a6:x∈e.Kids:=by rw[c];simp
  have a7:y∈e.Kids:=by rw[c];simp
  have z1:bZ.length=1:=rfl;unfold fy dG;simp only[o,w,hN,g8];exact bT (aL (qmT l x (qO (mS L a6)) (E x a6) k s b) λp q B=>QF (qpe _ _ _ p B) (qpG _ _ _ q B) λk2 s2=>qmT r y (qO (mS L a7)) (E y a7) k2 s2 B) (by simp only[m3];omega)
 have ab:=i.rng;have:e.Op=20\/e.Op=19\/e.Op=16\/e.Op=17\/e.Op=18\/e.Op=10\/e.Op=11\/e.Op=12\/e.Op=13\/e.Op=14\/e.Op=1\/e.Op=2\/e.Op=3\/e.Op=4\/e.Op=5\/e.Op=22\/e.Op=23\/e.Op=24\/e.Op=26\/e.Op=15\/e.Op=21:=by omega
 clear hb;rcases this with h|h|h|h|h|h|h|h|h|h|h|h|h|h|h|h|h|h|h|h|h
 .have m:EE e=1:=by unfold EE;simp[h]
  let⟨x,y,c⟩:=i.k2 (by omega);have o:bY e.Kids 0=O x:=by rw[c];exact dI _ _
  have w:bY e.Kids 1=O y:=by rw[c];exact Vc _ _ _
  have A:bY er 20=O yA:=rfl;have d:=FM e i;rw[m]at d;unfold cb;simp only[h,m,d,o,w,A,Int.reduceBEq,m5,if_false,if_true,g8,hN,beq_self_eq_true,show cz (1+1)=2 from rfl];exact z x y c yA (by decide) _ _
 .have m:EE e=2:=by unfold EE;simp[h]
  let⟨x,y,c⟩:=i.k2 (by omega);have o:bY e.Kids 0=O x:=by rw[c];exact dI _ _
  have w:bY e.Kids 1=O y:=by rw[c];exact Vc _ _ _
  have A:bY er 19=O yx:=rfl;have d:=FM e i;rw[m]at d;unfold cb;simp only[h,m,d,o,w,A,Int.reduceBEq,m5,if_false,if_true,g8,hN,beq_self_eq_true,show cz (2+1)=3 from rfl];exact z x y c yx (by decide) _ _
 .have m:EE e=4:=by unfold EE;simp[h]
  let⟨x,y,c⟩:=i.k2 (by omega);have o:bY e.Kids 0=O x:=by rw[c];exact dI _ _
  have w:bY e.Kids 1=O y:=by rw[c];exact Vc _ _ _
  have A:bY er 16=O qcY:=rfl;have d:=FM e i;rw[m]at d;unfold cb;simp only[h,m,d,o,w,A,Int.reduceBEq,m5,if_false,if_true,g8,hN,beq_self_eq_true,show cz (4+1)=5 from rfl];exact z x y c qcY (by decide) _ _
 .have m:EE e=4:=by unfold EE;simp[h]
  let⟨x,y,c⟩:=i.k2 (by omega);have o:bY e.Kids 0=O x:=by rw[c];exact dI _ _
  have w:bY e.Kids 1=O y:=by rw[c];exact Vc _ _ _
  have A:bY er 17=O KW:=rfl;have d:=FM e i;rw[m]at d;unfold cb;simp only[h,m,d,o,w,A,Int.reduceBEq,m5,if_false,if_true,g8,hN,beq_self_eq_true,show cz (4+1)=5 from rfl];exact z x y c KW (by decide) _ _
 .have m:EE e=4:=by unfold EE;simp[h]
  let⟨x,y,c⟩:=i.k2 (by omega);have o:bY e.Kids 0=O x:=by rw[c];exact dI _ _
  have w:bY e.Kids 1=O y:=by rw[c];exact Vc _ _ _
  have A:bY er 18=O yy:=rfl;have d:=FM e i;rw[m]at d;unfold cb;simp only[h,m,d,o,w,A,Int.reduceBEq,m5,if_false,if_true,g8,hN,beq_self_eq_true,show cz (4+1)=5 from rfl];exact z x y c yy (by decide) _ _
 .have m:EE e=5:=by unfold EE;simp[h]
  let⟨x,y,c⟩:=i.k2 (by omega);have o:bY e.Kids 0=O x:=by rw[c];exact dI _ _
  have w:bY e.Kids 1=O y:=by rw[c];exact Vc _ _ _
  have A:bY er 10=O Wi:=rfl;have d:=FM e i;rw[m]at d;unfold cb;simp only[h,m,d,o,w,A,Int.reduceBEq,m5,if_false,if_true,g8,hN,beq_self_eq_true,show cz (5+1)=6 from rfl];exact z x y c Wi (by decide) _ _
 .have m:EE e=5:=by unfold EE;simp[h]
  let⟨x,y,c⟩:=i.k2 (by omega);have o:bY e.Kids 0=O x:=by rw[c];exact dI _ _
  have w:bY e.Kids 1=O y:=by rw[c];exact Vc _ _ _
  have A:bY er 11=O wn:=rfl;have d:=FM e i;rw[m]at d;unfold cb;simp only[h,m,d,o,w,A,Int.reduceBEq,m5,if_false,if_true,g8,hN,beq_self_eq_true,show cz (5+1)=6 from rfl];exact z x y c wn (by decide) _ _
 .have m:EE e=6:=by unfold EE;simp[h]
  let⟨x,y,c⟩:=i.k2 (by omega);have o:bY e.Kids 0=O x:=by rw[c];exact dI _ _
  have w:bY e.Kids 1=O y:=by rw[c];exact Vc _ _ _
  have A:bY er 12=O Wh:=rfl;have d:=FM e i;rw[m]at d;unfold cb;simp only[h,m,d,o,w,A,Int.reduceBEq,m5,if_false,if_true,g8,hN,beq_self_eq_true,show cz (6+1)=7 from rfl];exact z x y c Wh (by decide) _ _
 .have m:EE e=6:=by unfold EE;simp[h]
  let⟨x,y,c⟩:=i.k2 (by omega);have o:bY e.Kids 0=O x:=by rw[c];exact dI _ _
  have w:bY e.Kids 1=O y:=by rw[c];exact Vc _ _ _
  have A:bY er 13=O qp4:=rfl;have d:=FM e i;rw[m]at d;unfold cb;simp only[h,m,d,o,w,A,Int.reduceBEq,m5,if_false,if_true,g8,hN,beq_self_eq_true,show cz (6+1)=7 from rfl];exact z x y c qp4 (by decide) _ _
 .have m:EE e=6:=by unfold EE;simp[h]
  let⟨x,y,c⟩:=i.k2 (by omega);have o:bY e.Kids 0=O x:=by rw[c];exact dI _ _
  have w:bY e.Kids 1=O y:=by rw[c];exact Vc _ _ _
  have A:bY er 14=O qp5:=rfl;have d:=FM e i;rw[m]at d;unfold cb;simp only[h,m,d,o,w,A,Int.reduceBEq,m5,if_false,if_true,g8,hN,beq_self_eq_true,show cz (6+1)=7 from rfl];exact z x y c qp5 (by decide) _ _
 .have m:EE e=8:=by unfold EE;simp[h]
  have hz:=i.n1 h;have a1:(Lib.itoa e.N).length<=23:=by
   have:=qh6 e.N hz;unfold qir at this;split at this;.unfold qk5 at this;simp only[m3]at this;omega
   .exact this
  unfold ew;simp only[h,m,W1 hz,qj0 hz,Int.reduceBEq,m5,if_false,if_true,g8,hN,beq_self_eq_true];refine uK Iff.rfl (λ_=>bT (QF (n:=0) (qpe _ _ _ k b) (qpG _ _ _ s b) λp q=>bI (mk:=Prod.mk) (mk':=Prod.mk)) ?_) λ_=>bT (QF (n:=0) (Vy _ k b) (R5 _ s b) λp q=>bI (mk:=Prod.mk) (mk':=Prod.mk)) (by omega);have z1:dl.length=1:=rfl;have z2:dM.length=1:=rfl;simp only[m3];omega
 .have m:EE e=8:=by unfold EE;simp[h]
  have hf:iq (e.N==1)=O (if e.N=1 then yB else Iw):=by
   by_cases H:e.N=1;.rw[hU H,H];rfl
   .rw[hG H,show(e.N==1)=Z by simpa using H];rfl
  unfold ew;simp only[h,m,hf,Int.reduceBEq,m5,if_false,if_true,g8,hN,beq_self_eq_true];by_cases H:e.N=1;.rw[hU H,hU (by simpa using H)];exact bT (cZ (n:=0) λp q=>bI (mk:=Prod.mk) (mk':=Prod.mk)) (by omega)
  .rw[hG H,hG (by simpa using H)];exact bT (cZ (n:=0) λp q=>bI (mk:=Prod.mk) (mk':=Prod.mk)) (by omega)
 .have m:EE e=8:=by unfold EE;simp[h]
  unfold ew;simp only[h,m,Int.reduceBEq,m5,if_false,if_true,g8,hN,beq_self_eq_true];exact bT (MD (sD e.Name k s b) λ_ _=>rfl) (by omega)
 .have m:EE e=8:=by unfold EE;simp[h]
  unfold ew e8;simp only[h,m,Int.reduceBEq,m5,if_false,if_true,g8,hN,beq_self_eq_true];exact bT (aL (Jk _ k s b) λp q B=>aL (qlf _ (by omega) hT p q B) λk2 s2 b2=>uK (n:=64 * bC (e.Kids.map ak)+32) Iff.rfl (λ_=>XB _ (by omega) E k2 s2 b2) λ_=>bI (mk:=Prod.mk) (mk':=Prod.mk)) (by omega)
 .have m:EE e=8:=by unfold EE;simp[h]
  have h5:=i.k5 h;have a9:Y ((e.Kids.length:Int)>0)=true:=by rw[nm];omega
  unfold ew e8;simp only[h,m,a9,Int.reduceBEq,m5,if_false,if_true,g8,hN,beq_self_eq_true];exact bT (aL (sD _ k s b) λp q B=>aL (qlf _ (by omega) hT p q B) λk2 s2 b2=>XB _ (by omega) E k2 s2 b2) (by omega)
 .have m:EE e=8:=by unfold EE;simp[h]
  unfold ew e8;simp only[h,m,Int.reduceBEq,m5,if_false,if_true,g8,hN,beq_self_eq_true];exact bT (cZ λp q=>XB _ (by omega) E p q b) (by omega)
 .have m:EE e=8:=by unfold EE;simp[h]
  unfold ew e8;simp only[h,m,Int.reduceBEq,m5,if_false,if_true,g8,hN,beq_self_eq_true];exact bT (cZ λp q=>XB _ (by omega) E p q b) (by omega)
 .have m:EE e=8:=by unfold EE;simp[h]
  unfold ew e8;simp only[h,m,Int.reduceBEq,m5,if_false,if_true,g8,hN,beq_self_eq_true];exact bT (cZ λp q=>XB _ (by omega) E p q b) (by omega)
 .have m:EE e=8:=by unfold EE;simp[h]
  let⟨x,c⟩:=i.k1 (by omega);let⟨t,ht⟩:=i.t26 h;have o:bY e.Kids 0=O x:=by rw[c];exact dI _ _
  have et:bY e.Types 0=O t:=by rw[ht];exact dI _ _
  have a3:=vZ x;have ao:=Qi t;have a2:bC (e.Kids.map ak)=dc (ak x):=by rw[c];simp[bC]
  have bb:bC (e.Types.map al)=dc (al t):=by rw[ht];simp[bC]
  unfold ew e8;simp only[h,m,o,et,Int.reduceBEq,m5,if_false,if_true,g8,hN,beq_self_eq_true];exact bT (cZ λp q=>aL (E x (by rw[c];simp) p q b) λk2 s2 b2=>cZ λk3 s3=>aL (qpq t (hT t (by rw[ht];simp)) k3 s3 b2) λk4 s4 b4=>cZ λk5 s5=>bI (n:=0) (mk:=Prod.mk) (mk':=Prod.mk)) (by omega)
 .have m:EE e=7:=by unfold EE;simp[h]
  let⟨x,c⟩:=i.k1 (by omega);have o:bY e.Kids 0=O x:=by rw[c];exact dI _ _
  have a3:=vZ x;have a2:bC (e.Kids.map ak)=dc (ak x):=by rw[c];simp[bC]
  have S:x∈e.Kids:=by rw[c];simp
  unfold cb;simp only[h,m,o,Int.reduceBEq,m5,if_false,if_true,g8,hN,beq_self_eq_true];exact bT (cZ λp q=>qmT 7 x (qO (mS L S)) (E x S) p q b) (by omega)
 .let⟨x,c⟩:=i.k1 (by omega);have o:bY e.Kids 0=O x:=by rw[c];exact dI _ _
  have a3:=vZ x;have a2:bC (e.Kids.map ak)=dc (ak x):=by rw[c];simp[bC]
  have S:x∈e.Kids:=by rw[c];simp
  have a1:((e.Kids.length:Int)==1)=true:=by rw[c];rfl
  have hu:qy e=O (x.Op==16):=by unfold qy;simp only[h,a1,o,beq_self_eq_true,if_true,hN]
  have h0:(EE e==0)=false:=by unfold EE;simp[h];split<;>decide
  have h8:(EE e==8)=false:=by unfold EE;simp[h];split<;>decide
  unfold cb;simp only[h,h0,h8,hu,o,Int.reduceBEq,m5,if_false,if_true,g8,hN,beq_self_eq_true];refine uK Iff.rfl (λa4=>?_) λ_=>bT (cZ λp q=>qmT 3 x (qO (mS L S)) (E x S) p q b) (by omega);have a4:x.Op=16:=by simpa using a4
  let⟨u,v,F⟩:=(qO (mS L S)).k2 (by omega);have f0:bY x.Kids 0=O u:=by rw[F];exact dI _ _
  have f1:bY x.Kids 1=O v:=by rw[F];exact Vc _ _ _
  have X:u∈x.Kids:=by rw[F];simp
  have a0:v∈x.Kids:=by rw[F];simp
  have bc:bC (x.Kids.map ak)=dc (ak u)+dc (ak v):=by rw[F];simp[bC]
  have an:=qV x;have ar:=vZ u;have b0:=vZ v;have z2:yw.length=2:=rfl;have z1:bZ.length=1:=rfl;have P:=mS L S;have a8:=V1 hs S;have be:=DO S;unfold fy dG;simp only[f0,f1,hN,g8];exact bT (aL (qmT 5 u (qO (mS P X)) (hR u (by have:=DO X;omega) (mS P X) (V1 a8 X)) k s b) λp q B=>QF (qpe _ _ _ p B) (qpG _ _ _ q B) λk2 s2=>qmT 5 v (qO (mS P a0)) (hR v (by have:=DO a0;omega) (mS P a0) (V1 a8 a0)) k2 s2 B) (by simp only[m3];omega)
end
def qt1(e:aj)(d:Nl e)(c:ZD e)(k:List Int)(s:ae)(b:K):R2 Prod.mk Prod.mk k s b (nX e) (xL e k b) (uS e s b):=by
 have o:∀m e k s b,nE e<m->Nl e->ZD e->R2 Prod.mk Prod.mk k s b (nX e) (qc0 jD m (e,k,b)) (qc0 gu m (e,s,b)):=by intro m;induction m with|zero=>intro e k s b h;omega|succ m ih=>intro e k s b p d c;have a:=λb=>qrG (R:=λe k b=>qc0 jD m (e,k,b)) (R':=λe s b=>qc0 gu m (e,s,b)) e d c (λx q i n k s b=>ih x k s b (by omega) i n) k s b;show R2 Prod.mk Prod.mk k s b (nX e) (jC (λe k b=>qc0 jD m (e,k,b)) e k b) (iT (λe s b=>qc0 gu m (e,s,b)) e s b);unfold iT;simp only[g8];cases b with|true=>rw[hU rfl];exact XC (a T)|false=>rw[hG (by decide)];exact a Z
 exact o _ e k s b (by have:=n3 (Yh e) c;unfold qjf;omega) d c
def qCQ(e:aj)(h:ZD e)(k:V Int)(s:ae)(b:K):R2 tI Prod.mk k s b (64 * dc (ak e)) (im e k b) (mL e s b):=by
 let⟨c,i,d⟩:=qnc e (XL h);have o:=vZ e;unfold im mL;simp only[g8];refine fK i d (lT (mc _ _ _) ?_);by_cases a:c=0
 .subst a;rw[hG (by simp)];have m:(b||!((0:Int)==0))=b:=by simp
  rw[m];exact bT (MD (qt1 e (qjj e h d) h k s b) λ_ _=>rfl) (by omega)
 .have n:(b||!(c==0))=true:=by simp[a]
  rw[hU (by simpa using a),n,qpB];exact qsy (mk:=tI) (mk':=Prod.mk)
def qoy(b:pG):dc (cp b)=b.Name.length+1+(b.Sort_.length+1):=by unfold cp;simp only[dc,pm]
def qow(b:iP):dc (cr b)=b.Class.length+1+(b.Var.length+1):=by unfold cr;simp only[dc,pm]
def qwf(b:G1):dc (fP b)=b.Name.length+1+(b.Sort_.length+1):=by unfold fP;simp only[dc,pm]
def qjF(b:fi):dc (bU b)=(b.Name.length+1)+(bC (b.Vars.map cp)+1)+dc (ag b.Hyp)+dc (ag b.Goal):=by unfold bU;simp only[ik,dc,pm,sl];omega
def qwg(b:iQ):dc (cu b)=(bC (b.Vars.map cS)+1)+(bC (b.Needs.map cr)+1)+(bC (b.Abs.map fP)+1)+(bC (b.Bounds.map bU)+1)+dc (al b.Type_)+(bC (b.Metric.map ag)+1):=by unfold cu;simp only[ik,dc,pm,sl];omega
def qgp(b:d5):(b.Name.length+1)+(bC (b.Params.map cS)+1)+dc (ak b.Body)+dc (cu b.Sig)<=dc (aV b):=by unfold aV;simp only[ik,dc,pm,sl];omega
def lw{α:Type}(c:α->List U):∀{l:List α}{x:α},x∈l->dc (c x)<=bC (l.map c)
 | y :: l,x,h => by
  rw[ox,bC];rcases oL.1 h with rfl|h;.omega
  .have:=lw c h;omega
def jI{α:Type}(c:α->List U)(h:∀x,1<=dc (c x)):∀l:List α,l.length<=bC (l.map c)
 |[]=>w0 _
 |x::l=>by have a:=h x;have b:=jI c h l;simp only[vz,ox,bC];omega
def qgk(l:V ae):l.length<=bC (l.map cS):=jI cS (λs=>by simp only[cS,dc,pm];omega) l
section
variable{β γ a d:Type}{mk:V Int->K->β}{mk':ae->K->γ}{m2:V Int->K->a}{c:ae->K->d}{k:V Int}{s:ae}{b:K}{n m n1 n2:Nat}{o:Q β}{o':Q γ}
def eI{α e:Type}(o:Q (α×e)):(o.bind λx=>O (x.1,x.2))=o:=by cases o<;>rfl
def qt5{f:β->Q a}(h:R2 mk mk' k s b n o o')(e:∀k b,f (mk k b)=O (m2 k b)):R2 m2 mk' k s b n (o.bind f) o':=λr t w=>by obtain⟨x,y,q,rfl,i,p⟩:=h r t w;exact⟨x,y,q,e _ _,i,p⟩
def VS{A:K->Q β}{A':K->Q γ}{f:β->Q a}{t:γ->Q d}(x:K)(q:∀b,R2 mk mk' k s b n1 (A b) (A' b))(w:∀i p e,R2 m2 c i p (e||x) n2 (f (mk i e)) (t (mk' p (e||x)))):R2 m2 c k s b (n1+n2) ((A b).bind f) ((A' (b||x)).bind t):=by
 cases x with
 |false=>rw[vbp];exact aL (q b) λi p z=>by have:=w i p z;rwa[vbp]at this
 | true =>
  intro h1 h2 H;rw[vbs];let⟨R,_,e,E,_,a3,_,_⟩:=q b (by omega) (by omega) H;let⟨_,s1,r,_,F,_,a4,y⟩:=q T (by omega) (by omega) (λh=>by cases h);have P:r=true:=by cases r with|true=>rfl|false=>have:=(y rfl).1;cases this
  subst P;have h:=w R s1 e;rw[vbs]at h;let⟨S,s2,B,X,q2,q3,q4,q5⟩:=h (by omega) (by omega) (λh=>by cases h);rw[E,F];exact⟨S,s2,B,X,q2,by omega,by omega,λL=>by have:=(q5 L).1;cases this⟩
def qje{σ X:Type}(e:σ->Q (σ⊕X)):σ⊕X->Q X|.inl t=>loop e t|.inr x=>O x
def Bx{σ X:Type}(e:σ->Q (σ⊕X))(s:σ):loop e s=(e s).bind (qje e):=by rw[ls];cases e s with|none=>rfl|some r=>cases r<;>rfl
end
def qwH(l:V pG)(i:Nat)(a:i<l.length)(k:V Int)(s:ae)(b:K):R2 Prod.mk Prod.mk k s b l[i].Name.length (fm (i:Int) Z l k b) (aH l[i].Name Z s b):=by unfold fm jM;rw[hG (by decide),hN,hG (by decide),aC _ _ a,hN];exact qt5 (sD _ k s b) λ_ _=>rfl
def qwI(l:V pG)(i:Nat)(a:i<l.length)(k:V Int)(s:ae)(b:K):R2 Prod.mk Prod.mk k s b (16+l[i].Name.length) (fm (i:Int) T l k b) (nO s b l[i].Name):=by unfold fm jM nO;rw[hU rfl,aC _ _ a,hN,hN,hN];exact uK Iff.rfl (λ_=>bT (cZ (n:=0) λc d=>bI (mk:=Prod.mk) (mk':=Prod.mk)) (by omega)) λ_=>bT (aL (n2:=0) (sD _ k s b) λc d e=>bI (mk:=Prod.mk) (mk':=Prod.mk)) (by omega)
def qsx(l:V pG)(d:l.length<9223372036854775808)(k:V Int)(s:ae)(b:K):R2 Prod.mk Prod.mk k s b (64 * bC (l.map cp)) (eX l Z k b) (nM l (l.length:Int) 0 s b):=by unfold eX kD lS nM;rw[eI,eI];refine bT (jo l d (λx=>16+(x.Name.length+(16+(x.Sort_.length+0)))) (λ_ _ _=>rfl) (λ_ _ _=>rfl) λi a k s b=>lT (aC l i a) (R0 λe m=>?_)) (lX cp _ l λx _=>by have:=qoy x;omega);unfold mD;simp only[or,hN];exact aL (qwH l i a e m b) λp r c=>cZ λh o=>rC (aC l i a) (aL (qle _ h o c) λq t b4=>bI (n:=0))
def qt4(l:V pG)(d:l.length<9223372036854775808)(k:V Int)(s:ae)(b:K):R2 Prod.mk Prod.mk k s b (64 * bC (l.map cp)) (eX l T k b) (nQ l (l.length:Int) 0 s b):=by unfold eX kD lS nQ;rw[eI,eI];refine bT (jo l d (λx=>16+(16+x.Name.length+(16+(x.Sort_.length+0)))) (λ_ _ _=>rfl) (λ_ _ _=>rfl) λi a k s b=>lT (aC l i a) (R0 λe m=>?_)) (lX cp _ l λx _=>by have:=qoy x;omega);unfold mD;simp only[or,hN];exact aL (qwI l i a e m b) λp r c=>cZ λh o=>rC (aC l i a) (aL (qle _ h o c) λq t b4=>bI (n:=0))
def qpo(l:V iP)(d:l.length<9223372036854775808)(k:V Int)(s:ae)(b:K):R2 Prod.mk Prod.mk k s b (64 * bC (l.map cr)) (kf l k b) (mK l s b):=by unfold kf pu ut mK CY;rw[eI,eI,eI];refine bT (jo l d (λx=>16+(x.Class.length+(16+(x.Var.length+0)))) (λ_ _ _=>rfl) (λ_ _ _=>rfl) λi a k s b=>lT (aC l i a) (R0 λe m=>?_)) (lX cr _ l λx _=>by have:=qow x;omega);unfold ry;simp only[or,hN];exact rC (aC l i a) (aL (Jk _ e m b) λp r c=>cZ λh o=>rC (aC l i a) (aL (sD _ h o c) λq t b4=>bI (n:=0)))
def qzZ(g:iQ)(d:g.Abs.length<9223372036854775808)(k:V Int)(s:ae)(b:K):R2 Prod.mk Prod.mk k s b (64 * bC (g.Abs.map fP)) (kC (g.Abs.length:Int) g k b) (wZ g.Abs (g.Abs.length:Int) 0 s b):=by unfold kC uv wZ;rw[eI];refine bT (jo g.Abs d (λx=>16+(x.Name.length+(16+(x.Sort_.length+0)))) (λ_ _ _=>rfl) (λ_ _ _=>rfl) λi a k s b=>lT (aC g.Abs i a) (R0 λe m=>?_)) (lX fP _ g.Abs λx _=>by have:=qwf x;omega);unfold vG;simp only[or,hN];exact rC (aC g.Abs i a) (aL (sD _ e m b) λp r c=>cZ λh o=>rC (aC g.Abs i a) (aL (qle _ h o c) λq t b4=>bI (n:=0)))
def qpn(l:V ae)(k:V Int)(s:ae)(b:K)(h:l.length<9223372036854775808):R2 Prod.mk Prod.mk k s b (64 * bC (l.map cS)+32) (eL l k b) (if Y ((l.length:Int)>0)then(ac ([bZ]:V ae) s b).bind λr=>(fY l r b).bind λq=>O (q.1,q.2)else O (s,b)):=by
 unfold eL;by_cases p:l.length=0;.rw[hU (by simp only[o5];omega),hG (by simp only[gt_iff_lt,nm];omega)];exact bI (mk:=Prod.mk) (mk':=Prod.mk)
 rw[hG (by simp only[o5];omega),hU (by simp only[gt_iff_lt,nm];omega)];unfold fY ms oe sO;simp only[eI,or,hN];refine bT (qlh λc d=>aL (mk:=Prod.mk) (mk':=Prod.mk) (jo l h (λx=>16+(x.length+0)) (λ_ _ _=>rfl) (λ_ _ _=>rfl) λi a k s b=>lT (aC l i a) (R0 λc d=>?_)) λm o e=>cZ λt w=>bI (n:=0) (mk:=Prod.mk) (mk':=Prod.mk)) (by have:=lX cS (λx=>16+(x.length+0)) l (λx _=>by simp only[cS,dc,pm];omega);omega);unfold lC;simp only[or,hN];exact rC (aC l i a) (aL (sD _ c d b) λm o e=>bI (n:=0))
def qiX{α:Type}(g:α->Nat):∀(l:List α)(h:0<l.length),(l.map g).sum=g l[0]+((l.drop 1).map g).sum
 |x::l,h=>by simp
def qp7(n:Nat):(!Y ((n:Int)>0))=((n:Int)==0):=by
 by_cases h:n=0;.subst h;rfl
 .have a:Y ((n:Int)>0)=true:=by rw[nm];omega
  have b:((n:Int)==0)=false:=by rw[beq_eq_false_iff_ne];omega
  rw[a,b];rfl
def qmj(p:ah):∃r,Ic p=O r/\Hx p=O r:=by
 unfold Ic Hx;by_cases b:(p.Op==9)=T
 .rw[hU b];by_cases a:((p.Kids.length:Int)==1)=T
  .rw[hU a];have e:0<p.Kids.length:=by rw[o5]at a;omega
   have d:bY p.Kids 0=O p.Kids[0]:=aC p.Kids 0 e;rw[d];simp only[hN];by_cases c:(p.Kids[0].Op==1)=T;.rw[hU c];exact⟨_,rfl,rfl⟩
   .rw[hG c];exact⟨_,rfl,rfl⟩
  .rw[hG a];exact⟨_,rfl,rfl⟩
 .rw[hG b];exact⟨_,rfl,rfl⟩
def qrF(l:List fi)(q:∀x∈l,dc (bU x)<=16777216)(t:l.length<9223372036854775808)(k:List Int)(s:ae)(b:K):R2 Prod.mk Prod.mk k s b (64 * bC (l.map bU)) (tu l (l.length:Int) 0 k b) (w9 l (l.length:Int) 0 s b):=by
 unfold tu w9;refine bT (jo l t (λx=>16+(x.Name.length+(16+(64 * bC (x.Vars.map cp)+(16+(40 * dc (ag x.Hyp)+(16+(40 * dc (ag x.Goal)+(16+0))))))))) (λ_ _ _=>rfl) (λ_ _ _=>rfl) λi d k s b=>fK (aC l i d) (aC l i d) ?_) (lX bU _ l λx _=>by have:=qjF x;have:=jA x.Hyp;have:=jA x.Goal;omega);have w:=q _ (m4 d);generalize l[i]=x at w;have S:=qjF x;have l1:=jI cp (λx=>by have:=qoy x;omega) x.Vars;have a:mA b x.Vars=O (b||((x.Vars.length:Int)==0)):=by unfold mA;cases b<;>rfl
 let⟨r,e,h⟩:=qmj x.Goal;unfold zq;simp only[or,hN];refine fK a (mc _ _ _) (qgP (x:=(x.Vars.length:Int)==0) ?_);rw[qp7];refine cZ λy F=>aL (sD _ y F _) λX s2 o=>cZ λz H=>aL (qsx _ (by omega) z H o) λk4 s4 b4=>cZ λA L=>aL (qgO x.Hyp (by omega) A L b4) λk6 s6 b6=>?_;have c:mB x.Goal.Op x.Goal.Name x.Goal.N x.Goal.Kids=O (if r then(dK,oW)else(lH,BO)):=by unfold mB;rw[qef,e];cases r<;>rfl
 refine fK c h ?_;cases r with|true=>simp only[if_true,or,hN];exact cZ λm n=>aL (qgO x.Goal (by omega) m n b6) λB P p=>cZ λE R=>bI|false=>simp only[m5,if_false,or,hN];exact cZ λm n=>aL (qgO x.Goal (by omega) m n b6) λB P p=>cZ λE R=>bI
def quj(p:ah):∃r,lF p=O r/\iU p.Op=O (!r):=by
 unfold lF iU;by_cases a:p.Op<10;.rw[hU (tr a),hG (by simp only[nm];omega)];exact⟨T,rfl,rfl⟩
 .rw[hG (by simpa using a),hU (by simp only[nm];omega)];refine⟨_,rfl,?_⟩;by_cases b:p.Op<=18;.rw[tr b,decide_eq_false (by omega)];rfl
  .rw[decide_eq_false b,tr (by omega)];rfl
def qrI(g:iQ)(hg:∀x∈g.Metric,dc (ag x)<=16777216)(hn:g.Metric.length<9223372036854775808)(k:List Int)(s:ae)(b:K):R2 Prod.mk Prod.mk k s b (64 * bC (g.Metric.map ag)+16) (if Y ((g.Metric.length:Int)>0)then(aa ([nk]:List ae) k b).bind λR=>kE (g.Metric.length:Int) g R b else O (k,b)) (xa g.Metric (g.Metric.length:Int) 0 s b):=by
 have y:∀(i:Nat)(d:i<g.Metric.length) k s b,R2 (λk b=>(.inl (cz ((i:Int)+1),k,b):(Int×List Int×K)⊕(List Int×K))) (λk b=>(.inl (cz ((i:Int)+1),k,b):(Int×ae×K)⊕(ae×K))) k s b (16+(16+(40 * dc (ag g.Metric[i])+(16+0)))) ((iw (i:Int) k b).bind λP=>(kh (i:Int) g P b).bind λA=>O (.inl (cz ((i:Int)+1),A.1,A.2)))
   ((cC (i:Int) s b).bind λe=>(iU g.Metric[i].Op).bind λm=>if m then(ac ([dl]:List ae) e b).bind λo=>(cj g.Metric[i] o b).bind λc=>(ac ([dM]:List ae) c.1 c.2).bind λp=>O (.inl (cz ((i:Int)+1),p,c.2))else(cj g.Metric[i] e b).bind λh=>O (.inl (cz ((i:Int)+1),h.1,h.2))):=λi d k s b=>by
  refine R0 λH S=>?_
  have hp:=hg _ (m4 d)
  unfold kh xM
  rw[aC g.Metric i d]
  let⟨r,X,h2⟩:=quj g.Metric[i]
  rw[hN,X,h2,hN,hN]
  cases r with
  |true=>
   simp only[if_true,vbf,m5,if_false,or,hN]
   exact bT (aL (n2:=0) (qcy _ hp H S b) λB E F=>bI) (by omega)
  |false=>
   simp only[if_true,vbt,m5,if_false,or,hN]
   exact cZ λB E=>aL (qcy _ hp B E b) λk3 s3 b3=>cZ λk4 s4=>bI
 have a0:=lX ag (λx=>16+(16+(40 * dc (ag x)+(16+0)))) g.Metric λx _=>by have:=jA x;omega
 unfold kE uC xa;by_cases h0:g.Metric.length=0;.rw[hG (by simp only[gt_iff_lt,nm];omega),dW (x:=(s,b)) (by simp only[gL];rw[hG (by simp only[nm];omega)])];exact bI (mk:=Prod.mk) (mk':=Prod.mk)
 rw[hU (by simp only[gt_iff_lt,nm];omega)];have d:0<g.Metric.length:=by omega
 have z:=y 0 d;generalize t:(λq:Int×List Int×K=>fe g (g.Metric.length:Int) q.1 q.2.1 q.2.2)=Bp;generalize w:(λq:Int×ae×K=>gL g.Metric (g.Metric.length:Int) q.1 q.2.1 q.2.2)=Br;have hL:∀r:List Int,loop Bp (0,r,b)=(((iw ((0:Nat):Int) r b).bind λP=>(kh ((0:Nat):Int) g P b).bind λA=>O (.inl (cz (((0:Nat):Int)+1),A.1,A.2))).bind (qje Bp)):=λr=>by rw[Bx,<-t];show((fe g (g.Metric.length:Int) ((0:Nat):Int) r b).bind _)=_;unfold fe;rw[hU (qnb d)]
 have hR:loop Br (0,s,b)=(((ac ([nk]:List ae) s b).bind λL=>(cC ((0:Nat):Int) L b).bind λe=>(iU g.Metric[0].Op).bind λm=>if m then(ac ([dl]:List ae) e b).bind λo=>(cj g.Metric[0] o b).bind λc=>(ac ([dM]:List ae) c.1 c.2).bind λp=>O (.inl (cz (((0:Nat):Int)+1),p,c.2))else(cj g.Metric[0] e b).bind λh=>O (.inl (cz (((0:Nat):Int)+1),h.1,h.2))).bind (qje Br)):=by rw[Bx,<-w];show((gL g.Metric (g.Metric.length:Int) ((0:Nat):Int) s b).bind _)=_;unfold gL pR;rw[hU (qnb d),aC g.Metric 0 d,hN,hU (by rfl)];simp only[or,hN]
 rw[hR,or];simp only[eI,hL];have hd:=qiX (λx=>16+(16+(40 * dc (ag x)+(16+0)))) g.Metric d;refine bT (cZ λH S=>aL (z H S b) λB E F=>?_) (n:=16+(16+(16+(40 * dc (ag g.Metric[0])+(16+0)))+((g.Metric.drop 1).map λx=>16+(16+(40 * dc (ag x)+(16+0)))).sum)) (by omega);show R2 _ _ _ _ _ _ (loop Bp (cz (((0:Nat):Int)+1),B,F)) (loop Br (cz (((0:Nat):Int)+1),E,F));rw[show cz (((0:Nat):Int)+1)=((1:Nat):Int)from rfl,<-t,<-w];refine qlg g.Metric hn (λx=>16+(16+(40 * dc (ag x)+(16+0)))) (λ_ _ _=>rfl) (λ_ _ _=>rfl) 1 (λi d X k s b=>lT (aC g.Metric i d) (lT (a:=s) ?_ (y i d k s b))) d;unfold pR;rw[hG (by simp only[o5];omega)]
def qz1(g:iQ)(L:dc (cu g)<=16777216)(k:V Int)(s:ae)(b:K):R2 Prod.mk Prod.mk k s b (64 * dc (cu g)) (rX g k b) (wY g s b):=by
 have P:=qwg g;have R:=qgk g.Vars;have S:=jI cr (λx=>by have:=qow x;omega) g.Needs;have X:=jI fP (λx=>by have:=qwf x;omega) g.Abs;have l4:=jI bU (λx=>by have:=qjF x;omega) g.Bounds;have l5:=jI ag (λx=>by have:=jA x;omega) g.Metric;have o:R2 Prod.mk Prod.mk k s b (64 * bC (g.Vars.map cS)+32) (mw g k b) (pO g s b):=by unfold mw pO Ds Hw;exact uK Iff.rfl (λ_=>bT (cZ λa c=>aL (jo g.Vars (by omega) (λx=>16+(x.length+0)) (λ_ _ _=>rfl) (λ_ _ _=>rfl) λi z k s b=>fK (aC g.Vars i z) (aC g.Vars i z) (cZ λt w=>aL (sD _ t w b) λA B y=>bI)) λd h b4=>cZ λe m=>bI (n:=0) (mk:=Prod.mk) (mk':=Prod.mk)) (by have:=lX cS (λx=>16+(x.length+0)) g.Vars (λx _=>by simp only[cS,dc,pm];omega);omega)) λ_=>bI (mk:=Prod.mk) (mk':=Prod.mk)
 have p:∀k s b,R2 Prod.mk Prod.mk k s b (64 * bC (g.Needs.map cr)+32) (my g k b) (pP g s b):=λk s b=>by unfold my pP;exact uK Iff.rfl (λ_=>bT (cZ λa c=>aL (qpo g.Needs (by omega) a c b) λd h b4=>cZ λe m=>bI (n:=0) (mk:=Prod.mk) (mk':=Prod.mk)) (by omega)) λ_=>bI (mk:=Prod.mk) (mk':=Prod.mk)
 have q:∀k s b,R2 Prod.mk Prod.mk k s b (64 * bC (g.Abs.map fP)+32) (mz g k b) (pQ g s b):=λk s b=>by unfold mz pQ;exact uK Iff.rfl (λ_=>bT (cZ λa c=>aL (qzZ g (by omega) a c b) λd h b4=>cZ λe m=>bI (n:=0) (mk:=Prod.mk) (mk':=Prod.mk)) (by omega)) λ_=>bI (mk:=Prod.mk) (mk':=Prod.mk)
 unfold rX wY;simp only[eI];refine bT (aL o λa c E=>aL (p a c E) λt w F=>aL (q t w F) λA B y=>aL (qrF g.Bounds (λx r=>by have:=lw bU r;omega) (by omega) A B y) λd h b4=>aL (qz2 g.Type_ (by unfold KD;omega) d h b4) λe m H=>qrI g (λx r=>by have:=lw ag r;omega) (by omega) e m H) (by omega)
def qpT:ZD ⟨0,[],0,[],[],[],[]⟩:=by unfold ZD;rw[qV];show 1+(0+1+(1+(0+1+(0+1+(0+1+(0+1+0))))))<=_;omega
def qwF(d:d5)(P:dc (aV d)<=16777216)(k:V Int)(s:ae)(b:K):R2 Prod.mk Prod.mk k s b (64 * dc (aV d) - 16)
  ((aW d.Name k b).bind λh=>(eL d.Params h.2 h.1).bind λi=>(jB d i.1 i.2).bind λa=>if(!(d.Mode==1))then(aa ([ed]:V ae) a.1 a.2).bind λr=>(im d.Body r a.2).bind λo=>O (o.2,o.1)else O (a.1,a.2))
  ((aH d.Name Z s b).bind λm=>(wT d m.1 m.2).bind λe=>(lc d e.1 e.2).bind λc=>if(d.Mode !=1)then(ac ([ed]:V ae) c.1 c.2).bind λt=>(mL d.Body t c.2).bind λp=>O (p.1,p.2)else O (c.1,c.2)):=by
 have R:=qgp d
 have l1:=qgk d.Params
 have E:∀k s b,R2 Prod.mk Prod.mk k s b (16+64 * dc (cu d.Sig)) (jB d k b) (lc d s b):=λk s b=>by unfold jB lc;exact uK Iff.rfl (λ_=>cZ λq w=>aL (n2:=0) (qz1 d.Sig (by omega) q w b) λy z x=>bI (mk:=Prod.mk) (mk':=Prod.mk)) λ_=>bI (mk:=Prod.mk) (mk':=Prod.mk)
 exact bT (aL (sD d.Name k s b) λq w A=>aL (qpn d.Params q w A (by omega)) λy z x=>aL (E y z x) λS s3 B=>uK (n:=16+(64 * dc (ak d.Body)+0)) Iff.rfl (λ_=>cZ λF H=>aL (qCQ d.Body (by unfold ZD;omega) F H B) λX s5 L=>bI (mk:=Prod.mk) (mk':=Prod.mk)) λ_=>bI (mk:=Prod.mk) (mk':=Prod.mk)) (by omega)
def qt0(d:d5)(H:dc (aV d)<=16777216)(k:List Int)(s:ae)(b:K):R2 Prod.mk Prod.mk k s b (64 * dc (aV d)) (jY d k b) (mI d s b):=by
 have L:=qgp d;have w:ZD d.Body:=by unfold ZD;omega
 have p:=qqi d.Body ⟨0,[],0,[],[],[],[]⟩ (XL w);have q:=qpv d.Body ⟨0,[],0,[],[],[],[]⟩ (XL w) (XL qpT);generalize Y (d.Body=⟨0,[],0,[],[],[],[]⟩)=r at p q;have a:=qwF d H;have i:16+(64 * dc (aV d) - 16)<=64 * dc (aV d):=by omega
 unfold jY mI tp tq wQ wR wS;rw[p,q];by_cases n:d.Mode=0;.simp only[n,mc,or,hN,Int.reduceLE,Int.reduceBEq,Int.reduceBNe,ge_iff_le,decide_true,if_true,vbf,vbp,m5,if_false,bne_self_eq_false,beq_self_eq_true]at a ⊢;exact bT (cZ λc e=>a c e b) i
 by_cases m:d.Mode=1;.cases h:d.Typed with|false=>simp only[m,h,mc,or,hN,Int.reduceLE,Int.reduceBEq,Int.reduceBNe,ge_iff_le,decide_true,if_true,vbf,vbt,vbs,vcg,vbp,m5,if_false,bne_self_eq_false,beq_self_eq_true]at a ⊢;exact bT (cZ λc e=>AC (a c e T)) i| true =>cases r with|false=>simp only[m,h,mc,or,hN,Int.reduceLE,Int.reduceBEq,Int.reduceBNe,ge_iff_le,decide_true,if_true,vbf,vbt,vbs,vcg,vbp,m5,if_false,bne_self_eq_false,beq_self_eq_true]at a ⊢;exact bT (cZ λc e=>AC (a c e T)) i|true=>simp only[m,h,mc,or,hN,Int.reduceLE,Int.reduceBEq,Int.reduceBNe,ge_iff_le,decide_true,if_true,vbf,vbt,vbs,vcg,vbp,m5,if_false,bne_self_eq_false,beq_self_eq_true]at a ⊢;exact bT (cZ λc e=>a c e b) i
 by_cases o:d.Mode=2;.cases h:d.Typed with|false=>simp only[o,h,mc,or,hN,Int.reduceLE,Int.reduceBEq,Int.reduceBNe,ge_iff_le,decide_true,if_true,vbf,vbt,vbs,vcg,vbp,m5,if_false,bne_self_eq_false,beq_self_eq_true]at a ⊢;exact bT (cZ λc e=>AC (a c e T)) i|true=>simp only[o,h,mc,or,hN,Int.reduceLE,Int.reduceBEq,Int.reduceBNe,ge_iff_le,decide_true,if_true,vbf,vbt,vbs,vcg,vbp,m5,if_false,bne_self_eq_false,beq_self_eq_true]at a ⊢;exact bT (cZ λc e=>a c e b) i
 have y:(d.Mode==0)=false:=by simpa using n
 have z:(d.Mode==1)=false:=by simpa using m
 have A:(d.Mode==2)=false:=by simpa using o
 have B:(d.Mode !=0)=true:=by simpa using n
 have E:(d.Mode !=1)=true:=by simpa using m
 have F:∀x:Q K,(if Y (d.Mode>=0)then if Y (d.Mode<=2)then x else O T else O T)=O true:=λx=>by
  by_cases t:d.Mode>=0;.rw[hU (tr t),hG (by simp only[nm];omega)]
  .rw[hG (by simpa using t)]
 simp only[y,z,A,B,E,mc,or,hN,F,if_true,vbf,vbt,vbs,vcg,vbp,m5,if_false]at a ⊢;cases h:d.Typed with|false=>simp only[if_true,vbt,hN];exact AC (bT (a k s T) (by omega))|true=>simp only[if_false,vbf,hN,m5];refine qgP (x:=T) ?_;rw[vbs];exact bT (a k s T) (by omega)
def qgq(b:om):dc (dg b)=(b.Name.length+1)+dc (al b.Type_):=by unfold dg;simp only[ik,dc,pm,sl]
def qjG(b:fI):dc (ce b)=(b.Name.length+1)+(b.Var.length+1)+(bC (b.Methods.map dg)+1):=by unfold ce;simp only[ik,dc,pm,sl];omega
def qou(b:BM):dc (eE b)=(b.Con.length+1)+(bC (b.Names.map cS)+1)+dc (ag b.Body):=by unfold eE;simp only[ik,dc,pm,sl]
def qbT(b:dq):dc (aZ b)=(b.Name.length+1)+(b.Data.length+1)+(b.Result.length+1)+(bC (b.Cases.map eE)+1)+dc (ag b.Inv):=by unfold aZ;simp only[ik,dc,pm,sl];omega
def qox(b:lG):dc (cX b)=(b.Name.length+1)+(bC (b.Vars.map cp)+1)+dc (ag b.Body):=by unfold cX;simp only[ik,dc,pm,sl]
def qtY(c:fI)(hc:dc (ce c)<=16777216)(k:V Int)(s:ae)(b:K):R2 Prod.mk Prod.mk k s b (64 * dc (ce c)) (kb c k b) (rN c s b):=by
 have hp:=qjG c;have l1:=jI dg (λx=>by have:=qgq x;omega) c.Methods;have L:∀b,hO c b=O (b||((c.Methods.length:Int)==0)):=λb=>by unfold hO;cases b<;>rfl
 have F:kb c k b=((aa ([oq]:V ae) k b).bind λy=>(bw c.Name y b).bind λe=>(aa ([bZ]:V ae) e.2 e.1).bind λa=>(aW c.Var a e.1).bind λh=>(aa ([jO]:V ae) h.2 h.1).bind λd=>O (d,h.1)).bind λo=>(hO c o.2).bind λo7=>jK (c.Methods.length:Int) c o.1 o7:=by unfold kb;simp only[or,hN,eI]
 have H:∀m,((ac ([oq]:V ae) s m).bind λe=>(aH c.Name T e m).bind λa=>(ac ([bZ]:V ae) a.1 a.2).bind λh=>(aH c.Var Z h a.2).bind λd=>(ac ([jO]:V ae) d.1 d.2).bind λp=>mh c.Methods (c.Methods.length:Int) 0 p d.2)=((ac ([oq]:V ae) s m).bind λe=>(aH c.Name T e m).bind λa=>(ac ([bZ]:V ae) a.1 a.2).bind λh=>(aH c.Var Z h a.2).bind λd=>(ac ([jO]:V ae) d.1 d.2).bind λp=>O (p,d.2)).bind λo=>mh c.Methods (c.Methods.length:Int) 0 o.1 o.2:=λm=>by simp only[or,hN]
 rw[F];unfold rN;rw[mc,hN,qp7];simp only[eI];rw[H];refine bT (VS (A:=λb=>(aa ([oq]:V ae) k b).bind λy=>(bw c.Name y b).bind λe=>(aa ([bZ]:V ae) e.2 e.1).bind λa=>(aW c.Var a e.1).bind λh=>(aa ([jO]:V ae) h.2 h.1).bind λd=>O (d,h.1)) (A':=λm=>(ac ([oq]:V ae) s m).bind λe=>(aH c.Name T e m).bind λa=>(ac ([bZ]:V ae) a.1 a.2).bind λh=>(aH c.Var Z h a.2).bind λd=>(ac ([jO]:V ae) d.1 d.2).bind λp=>O (p,d.2)) (mk:=Prod.mk) (mk':=Prod.mk) (n2:=64 * bC (c.Methods.map dg)) ((c.Methods.length:Int)==0) (λb=>cZ λt z=>aL (Jk _ t z b) λR X r=>cZ λw B=>aL (sD _ w B r) λS s4 b4=>cZ λk5 s5=>bI (n:=0)) λk' s' E=>rC (L E) ?_) (by omega);unfold jK sA mh;rw[eI];refine bT (jo c.Methods (by omega) (λx=>16+(x.Name.length+(16+(64 * dc (al x.Type_)+0)))) (λ_ _ _=>rfl) (λ_ _ _=>rfl) λi q k s b=>lT (aC c.Methods i q) (R0 λt z=>?_)) (lX dg _ c.Methods λx _=>by have:=qgq x;omega);unfold qY;simp only[or,hN];have hm:=lw dg (m4 q);have P:=qgq c.Methods[i];exact rC (aC c.Methods i q) (aL (sD _ t z b) λR X r=>cZ λw B=>rC (aC c.Methods i q) (aL (qz2 _ (by unfold KD;omega) w B r) λS s4 b4=>bI (n:=0)))
def qwE(q:lG)(X:dc (cX q)<=16777216)(k:V Int)(s:ae)(b:K):R2 Prod.mk Prod.mk k s b (64 * dc (cX q)) (gz q k b) (oB q s b):=by
 have S:=qox q;have R:=jA q.Body;have l1:=jI cp (λx=>by have:=qoy x;omega) q.Vars;have r:∀b,fq q b=O (b||((q.Vars.length:Int)==0)):=λb=>by unfold fq;cases b<;>rfl
 have m:gz q k b=((aa ([Ab]:V ae) k b).bind λd=>(aW q.Name d b).bind λa=>(aa ([fw]:V ae) a.2 a.1).bind λc=>O (c,a.1)).bind λo=>(fq q o.2).bind λz=>(eX q.Vars T o.1 z).bind λr6=>(aa ([nl]:V ae) r6.1 r6.2).bind λE=>cy q.Body E r6.2:=by unfold gz;simp only[or,hN,eI]
 have p:oB q s b=((λh=>(ac ([Ab]:V ae) s h).bind λa=>(aH q.Name Z a h).bind λc=>(ac ([fw]:V ae) c.1 c.2).bind λB=>O (B,c.2)) (b||((q.Vars.length:Int)==0))).bind λo=>(nQ q.Vars (q.Vars.length:Int) 0 o.1 o.2).bind λo14=>(ac ([nl]:V ae) o14.1 o14.2).bind λe=>cj q.Body e o14.2:=by unfold oB;rw[mc,hN,qp7];simp only[or,hN,eI]
 rw[m,p];exact bT (VS (A:=λb=>(aa ([Ab]:V ae) k b).bind λd=>(aW q.Name d b).bind λa=>(aa ([fw]:V ae) a.2 a.1).bind λc=>O (c,a.1)) (mk:=Prod.mk) (mk':=Prod.mk) ((q.Vars.length:Int)==0) (λb=>cZ λw H=>aL (sD _ w H b) λk2 s2 P=>cZ λk3 s3=>bI (n:=0)) λt F i=>rC (r i) (aL (qt4 q.Vars (by omega) t F _) λk4 s4 b4=>cZ λy L=>qcy q.Body (by omega) y L b4)) (by omega)
def qpm(x:dq)(hx:dc (aZ x)<=16777216)(k:V Int)(s:ae)(b:K):R2 Prod.mk Prod.mk k s b (64 * dc (aZ x)) (iL x k b) (j4 x s b):=by
 have hp:=qbT x;have z:=jA x.Inv;have l1:=jI eE (λx=>by have:=qou x;omega) x.Cases;have hJ:∀b,gg x b=O (b||((x.Cases.length:Int)==0)):=λb=>by unfold gg;cases b<;>rfl
 have hL:∀k s b,R2 Prod.mk Prod.mk k s b (64 * bC (x.Cases.map eE)) (jc x.Cases (x.Cases.length:Int) 0 k b) (kr x.Cases (x.Cases.length:Int) 0 s b):=λk s b=>by unfold jc kr;refine bT (jo x.Cases (by omega) (λc=>16+(c.Con.length+((64 * bC (c.Names.map cS)+32)+(16+(40 * dc (ag c.Body)+0))))) (λ_ _ _=>rfl) (λ_ _ _=>rfl) λi z k s b=>?_) (lX eE _ _ λc _=>by have:=qou c;have:=jA c.Body;omega);have hc:=lw eE (m4 z);have a0:=qou x.Cases[i];have hn:=qgk x.Cases[i].Names;exact fK (aC _ _ z) (aC _ _ z) (R0 λE S=>aL (Jk _ E S b) λk2 s2 B=>aL (qpn _ k2 s2 B (by omega)) λk3 s3 b3=>cZ λF X=>aL (qcy _ (by omega) F X b3) λH s5 b5=>bI (n:=0))
 have e1:iL x k b=((aa ([ou]:V ae) k b).bind λL=>(aW x.Name L b).bind λe=>(aa ([bm]:V ae) e.2 e.1).bind λq=>(bw x.Data q e.1).bind λh=>(aa ([dK]:V ae) h.2 h.1).bind λr=>(gA x.Result r h.1).bind λm=>(aa ([jW]:V ae) m.2 m.1).bind λt=>O (t,m.1)).bind λo=>(gg x o.2).bind λo9=>(jc x.Cases (x.Cases.length:Int) 0 o.1 o9).bind λa=>(aa ([lI]:V ae) a.1 a.2).bind λw=>(kk x.Inv).bind λP=>if(!P)then(aa ([jh]:V ae) w a.2).bind λp=>cy x.Inv p a.2 else O (w,a.2):=by unfold iL;simp only[or,hN,eI]
 have e2:j4 x s b=((λb'=>(ac ([ou]:V ae) s b').bind λe=>(aH x.Name Z e b').bind λq=>(ac ([bm]:V ae) q.1 q.2).bind λh=>(aH x.Data T h q.2).bind λr=>(ac ([dK]:V ae) r.1 r.2).bind λm=>(gT x.Result m r.2).bind λt=>(ac ([jW]:V ae) t.1 t.2).bind λr8=>O (r8,t.2)) (b||((x.Cases.length:Int)==0))).bind λo=>(kr x.Cases (x.Cases.length:Int) 0 o.1 o.2).bind λd=>(ac ([lI]:V ae) d.1 d.2).bind λy=>(ue x.Inv).bind λp=>if(!p)then(ac ([jh]:V ae) y d.2).bind λR=>cj x.Inv R d.2 else O (y,d.2):=by unfold j4;rw[mc,hN,qp7];simp only[or,hN,eI]
 rw[e1,e2];exact bT (VS (A:=λb=>(aa ([ou]:V ae) k b).bind λL=>(aW x.Name L b).bind λe=>(aa ([bm]:V ae) e.2 e.1).bind λq=>(bw x.Data q e.1).bind λh=>(aa ([dK]:V ae) h.2 h.1).bind λr=>(gA x.Result r h.1).bind λm=>(aa ([jW]:V ae) m.2 m.1).bind λt=>O (t,m.1)) (mk:=Prod.mk) (mk':=Prod.mk) ((x.Cases.length:Int)==0) (λb=>cZ λE S=>aL (sD _ E S b) λk2 s2 B=>cZ λk3 s3=>aL (Jk _ k3 s3 B) λF X b4=>cZ λH s5=>aL (qle _ H s5 b4) λk6 s6 b6=>cZ λk7 s7=>bI (n:=0)) λk' s' b1=>rC (hJ b1) (aL (hL k' s' _) λF X b4=>cZ λH s5=>fK (zM x.Inv (by omega)) (zN x.Inv) (uK (n:=16+40 * dc (ag x.Inv)) Iff.rfl (λ_=>cZ λk6 s6=>qcy x.Inv (by omega) k6 s6 b4) λ_=>bI (mk:=Prod.mk) (mk':=Prod.mk)))) (by omega)
section
variable{β γ c d:Type}{mk:V Int->K->β}{mk':ae->K->γ}{m2:V Int->K->c}{a:ae->K->d}{k:V Int}{s:ae}{b:K}{n m n1 n2:Nat}{o:Q β}{o':Q γ}
def qps(h:R2 mk mk' k s T n o o'):R2 mk mk' k s b n o (O (mk' s T)):=λt w _=>by
 let⟨x,A,i,p,y,q,z,r⟩:=h t w (λe=>by cases e);have e:i=true:=by cases i with|true=>rfl|false=>have:=(r rfl).1;cases this
 subst e;exact⟨x,s,T,p,rfl,q,by omega,λe=>by cases e⟩
def qqh(mk:V Int->K->β)(mk':ae->K->γ)(k:V Int)(s:ae)(b:K)(n:Nat)(o:Q β)(o':Q γ):Prop:=k.length+n<=1073741824->s.length+n<=1073741824->(b=Z->k++qG bZ=qG s)-> ∃h i e,o=O (mk h e)/\o'=O (mk' i e)/\h.length<=k.length+n/\i.length<=s.length+n/\(e=Z->b=Z/\h=qG i)
def qpt{x:K}(h:qqh mk mk' k s (b||x) n o o'):qqh mk mk' k s b n o o':=λy z A=>by let⟨B,E,w,p,q,r,t,i⟩:=h y z (λe=>A (by cases b<;>simp_all));exact⟨B,E,w,p,q,r,t,λe=>⟨by have:=(i e).1;cases b<;>simp_all,(i e).2⟩⟩
def qwJ{e:K}{f:V Int->Q c}{p':Q d}(w:∀h,R2 m2 a h s b n (f h) p'):qqh m2 a k s b (1+n) ((aa ([bZ]:V ae) k e).bind f) p':=λB E x=>by have F:bZ.length=1:=rfl;rw[Vy bZ k e (by omega)];let⟨y,z,i,p,q,r,A,t⟩:=w (k++qG bZ) (by rw[m3,ir.len];omega) (by omega) x;rw[m3,ir.len]at r;exact⟨y,z,i,p,q,by omega,by omega,t⟩
def qpu{t u:ae}{h i:K}{f:V Int->Q c}{p:ae->Q d}(E:∀q r,qqh m2 a q r b n (f q) (p r))(e:u=t++bZ:=by rfl)(L:u.length<=16:=by decide):R2 m2 a k s b (16+n) ((aa ([t]:V ae) k h).bind f) ((ac ([u]:V ae) s i).bind p):=λS X F=>by
 subst e;rw[m3]at L;rw[Vy t k h (by omega),R5 (t++bZ) s i (by rw[m3];omega)];let⟨P,R,w,x,y,z,A,B⟩:=E (k++qG t) (s++(t++bZ)) (by rw[m3,ir.len];omega) (by rw[m3,m3];omega) λH=>by rw[F H,ir.app,ir.app,vbi]
 rw[m3,ir.len]at z;rw[m3,m3]at A;exact⟨P,R,w,x,y,by omega,by omega,B⟩
def qrL{t u:ae}{h i:K}{f:V Int->Q c}{p:ae->Q d}(E:∀q r,R2 m2 a q r b n (f q) (p r))(e:t=bZ++u:=by rfl)(L:t.length<=16:=by decide):qqh m2 a k s b (16+n) ((aa ([t]:V ae) k h).bind f) ((ac ([u]:V ae) s i).bind p):=λS X F=>by
 subst e;rw[m3]at L;rw[Vy (bZ++u) k h (by rw[m3];omega),R5 u s i (by omega)];let⟨P,R,w,x,y,z,A,B⟩:=E (k++qG (bZ++u)) (s++u) (by rw[m3,ir.len,m3];omega) (by rw[m3];omega) λH=>by rw[ir.app,ir.app,<-vbi,F H]
 rw[m3,ir.len,m3]at z;rw[m3]at A;exact⟨P,R,w,x,y,by omega,by omega,B⟩
end
def qtJ(b:tH):dc (ef b)=(b.Name.length+1)+(bC (b.Names.map cS)+1)+(bC (b.Fields.map al)+1):=by unfold ef;simp only[ik,dc,pm,sl];omega
def qov(b:jE):dc (cq b)=(b.Name.length+1)+(bC (b.Vars.map cS)+1)+(bC (b.Preds.map cp)+1)+(bC (b.Cons.map ef)+1):=by unfold cq;simp only[ik,dc,pm,sl];omega
abbrev gF(x:ae×am):Nat:=16+(x.1.length+(16+(64 * dc (al x.2)+0)))
def qlp:∀(a:List ae)(l:List am),((a.zip l).map gF).sum<=64 * bC (a.map cS)+64 * bC (l.map al)
 |[],_=>by simp
 |_::_,[]=>by simp
 |x::a,t::l=>by have:=qlp a l;simp only[List.zip_cons_cons,ox,List.sum_cons,bC,cS,dc,pm,gF]at this ⊢;omega
def qrH(c:tH)(w:c.Names.length=c.Fields.length)(y:c.Fields.length<9223372036854775808)(m:∀t∈c.Fields,KD t)(k:V Int)(s:ae)(b:K):R2 Prod.mk Prod.mk k s b (64 * bC (c.Names.map cS)+64 * bC (c.Fields.map al)) (d8 (c.Fields.length:Int) k b c.Name c.Names c.Fields) (pL c c.Fields (c.Fields.length:Int) 0 s b):=by
 have e:(c.Names.zip c.Fields).length=c.Fields.length:=by rw[List.length_zip];omega
 unfold d8 sw pL;rw[eI];refine bT (jo (c.Names.zip c.Fields) (by omega) gF (λ_ _ _=>by rw[e];rfl) (λ_ _ _=>by rw[e];rfl) λi x k s b=>?_) (qlp _ _);have a:i<c.Fields.length:=by omega
 have d:i<c.Names.length:=by omega
 rw[vda];refine lT (aC c.Fields i a) (R0 λo q=>?_);unfold tn;simp only[or,hN];exact fK (aC c.Names i d) (aC c.Names i d) (aL (sD _ o q b) λz B h=>cZ λp r=>rC (aC c.Fields i a) (aL (qz2 _ (m _ (m4 a)) p r h) λA E b4=>bI (n:=0)))
abbrev gC(c:tH):Nat:=32+(c.Name.length+(16+(64 * bC (c.Names.map cS)+64 * bC (c.Fields.map al)+16)))
def qkt(c:tH)(s:ae)(b:K)(h:b=T\/c.Names.length≠c.Fields.length)(p:s.length+c.Name.length<=1073741824):∃e,iF c s b=O (e,T)/\e.length<=s.length+c.Name.length:=by
 let⟨q,i,m,n,r,a⟩:=qpE c.Name T s b (by rw[pT];exact p);rw[pT]at a;refine⟨q,?_,a⟩;unfold iF pK;rw[m,hN,mc,hN];have o:(i||!((c.Names.length:Int)==(c.Fields.length:Int)))=true:=by
  rcases h with rfl|h;.rw[n];simp
  .have:((c.Names.length:Int)==(c.Fields.length:Int))=false:=by rw[beq_eq_false_iff_ne];omega
   rw[this];simp
 simp only[o];by_cases d:((c.Fields.length:Int)==0)=T;.rw[hU d];rfl
 .rw[hG d];rfl
def qz0(c:tH)(y:c.Names.length=c.Fields.length)(z:c.Fields.length<9223372036854775808)(A:∀t∈c.Fields,KD t)(j:Int)(k:List Int)(s:ae)(b:K):R2 (λk b=>(.inl (j,k,b):(Int×List Int×K)⊕(List Int⊕(List Int×K)))) (λk b=>(.inl (j,k,b):(Int×ae×K)⊕(ae×K))) k s b (c.Name.length+(16+(64 * bC (c.Names.map cS)+64 * bC (c.Fields.map al)+16)))
  ((bw c.Name k b).bind λd=>if((c.Names.length:Int)!=(c.Fields.length:Int))then O (.inr (.inl d.2))else if((c.Fields.length:Int)==0)then O (.inl (j,d.2,d.1))else(aa ([fw]:List ae) d.2 d.1).bind λi=>(d8 (c.Fields.length:Int) i d.1 c.Name c.Names c.Fields).bind λa=>(aa ([dM]:List ae) a.1 a.2).bind λm=>O (.inl (j,m,a.2)))
  ((iF c s b).bind λo=>O (.inl (j,o.1,o.2))):=by
 unfold iF pK
 simp only[or]
 refine aL (Jk c.Name k s b) λw x e=>lT (mc _ _ _) ?_
 have r:((c.Names.length:Int)==(c.Fields.length:Int))=true:=by rw[o5];omega
 rw[hG (by rw[bne,r];decide),r,vbf,vbp]
 have n:∀e,R2 (λk b=>(.inl (j,k,b):(Int×List Int×K)⊕(List Int⊕(List Int×K)))) (λk b=>(.inl (j,k,b):(Int×ae×K)⊕(ae×K))) w x e (16+(64 * bC (c.Names.map cS)+64 * bC (c.Fields.map al)+(16+0))) ((aa ([fw]:List ae) w e).bind λi=>(d8 (c.Fields.length:Int) i e c.Name c.Names c.Fields).bind λa=>(aa ([dM]:List ae) a.1 a.2).bind λm=>O (.inl (j,m,a.2)))
   ((ac ([fw]:List ae) x e).bind λE=>(pL c c.Fields (c.Fields.length:Int) 0 E e).bind λh=>(ac ([dM]:List ae) h.1 h.2).bind λq=>O (.inl (j,q,h.2))):=λe=>
  cZ λB F=>aL (qrH c y z A B F e) λH P b4=>cZ λL R=>bI
 by_cases p:((c.Fields.length:Int)==0)=T
 .rw[hU p,hU p]
  exact bI
 .rw[hG p,hG p,hN]
  cases e with
  |true=>exact bT (qps (n T)) (by omega)
  |false=>
   simp only[m5,if_false,or,hN]
   exact bT (n Z) (by omega)
end Go.Proofs.YtibglelmlnfojaaGreatDoor
