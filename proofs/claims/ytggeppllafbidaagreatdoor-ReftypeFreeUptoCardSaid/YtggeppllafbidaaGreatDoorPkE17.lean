/- PROVED: a part of the proof. Conditions: none. -/
import Derived.Test.YtggeppllafbidaaGreatDoorPkE16
import Derived.Test.YtggeppllafbidaaGreatDoorPkE15
noncomputable section
namespace Go.Proofs.YtggeppllafbidaaGreatDoor
open Go
set_option linter.unusedVariables false
set_option linter.unusedSimpArgs false
theorem Mm{A:Type}(n:Nat)(hn:n<9223372036854775808){body:Int->Option (Int⊕(A⊕Unit))}(P:Nat->Prop)(B:A->Prop)
  (hin:∀i:Nat,i<n->ga (body (i:Int)) (fun r=>r.elim (fun t=>t=bL ((i:Int)+1)/\P i) (fun y=>y.elim B (fun _=>False)))) (hend:body (n:Int)=some (.inr (.inr ()))):ga (loop body 0) (fun r=>r.elim B (fun _=>∀i,i<n->P i)):=by
 have key:∀k i,k+i=n->(∀j,j<i->P j)->ga (loop body (i:Int)) (fun r=>r.elim B (fun _=>∀i,i<n->P i)):=by
  intro k
  induction k with
  |zero=>
   intro i hi hP
   have:i=n:=by omega
   subst this
   rw[lJ hend]
   exact ak hP
  | succ k ih =>
   intro i hi hP
   obtain⟨r,e,hr⟩:=hin i (by omega)
   rw[sQ,e]
   cases r with
   | inl t =>
    obtain⟨rfl,hp⟩:=hr
    simp only
    rw[kn (by omega) (by omega),show((i:Int)+1)=((i+1:Nat):Int) by omega]
    exact ih (i+1) (by omega) fun j hj=>by
     by_cases he:j=i
     ·subst he;exact hp
     ·exact hP j (by omega)
   |inr y=>
    cases y with
    |inl a=>exact⟨_,rfl,hr⟩
    |inr u=>exact hr.elim
 exact key n 0 (by omega) fun j hj=>absurd hj (vaL _)
theorem O3{l:List ag}{i:Nat}(h:i<l.length)(hf:xt l l[i]=(i:Int)):∀k (hk:k<l.length),k<i->l[i]≠l[k]:=by
 intro k hk hki he
 unfold xt at hf
 cases hx:l.findIdx? (fun x=>x==l[i])with
 |none=>
  rw[vby]at hx
  have:=hx _ (vaw h)
  simp at this
 | some j =>
  obtain⟨hj,_,hj3⟩:=vbw.1 hx
  rw[hx]at hf
  have hji:j=i:=by
   have:(j:Int)=(i:Int):=by simpa using hf
   omega
  subst hji
  have:=hj3 k hki
  rw[he]at this
  simp at this
theorem NR{l:List ag}(h:∀i (hi:i<l.length),∀k (hk:k<l.length),k<i->l[i]≠l[k]):l.Nodup:=by
 unfold List.Nodup
 rw[vbz]
 intro i j hi hj hij he
 exact h j hj i hi hij he.symm
theorem Ef(l:List ag)(hl:l.length<9223372036854775808):ga (nq l) (fun r=>r=true->l.Nodup):=by
 unfold nq mP
 refine av (Mm l.length hl (fun i=>∀(hi:i<l.length),xt l l[i]=(i:Int)) (fun _=>True) (fun i hi=>?_) ?_) (fun o ho=>?_)
 ·unfold ic
  rw[vap (vbd (by omega)),cB _ i hi]
  simp only[vab]
  refine ck (im l _ hl) (aF (fun _=>ak trivial) (fun hne=>ak ⟨rfl,fun _=>by simpa using hne⟩))
 ·unfold ic
  rw[vat (by simp)]
 ·cases o with
  |inl _=>exact ak (fun h=>by cases h)
  |inr _=>
   have ho:∀i,i<l.length->∀(hi:i<l.length),xt l l[i]=(i:Int):=ho
   exact ak (fun _=>NR (fun i hi=>O3 hi (ho i hi hi)))
theorem Qj(s:ag):ga (lC s) (fun r=>(r !=0)=false->s≠[118]):=by
 by_cases hs:s=[118]
 ·subst hs
  exact Cd (show lC [118]=some 3 by kernel_rfl) (fun h=>by cases h)
 ·exact(Hz s).mono fun _ _ _=>hs
theorem Pm(op n:Int):ga (iz op n) (fun r=>r=true->op=3->n=0):=by
 by_cases h:op=3
 ·subst h
  refine Cd (a:=n==0) ?_ fun h _=>by simpa using h
  simp[iz,mt]
 ·exact((Kw op n).mono fun _ _ _ e=>absurd e h)
theorem L4(p:aa):ga (zw p) (fun r=>(r !=0)=false->p.Op=3->p.Kids=[]):=by
 unfold zw
 have hk:ga (iz p.Op (p.Kids.length:Int)) (fun r=>r=true->(p.Op=8->0<p.Kids.length)/\(p.Op=3->p.Kids=[])):=by
  obtain⟨r,e,h1⟩:=Kw p.Op (p.Kids.length:Int)
  obtain⟨r',e',h2⟩:=Pm p.Op (p.Kids.length:Int)
  rw[e]at e'
  obtain rfl:=va0 e'
  exact Cd e fun hr=>⟨fun h8=>by have:=h1 hr h8;omega,fun h3=>List.length_eq_zero_iff.1 (by have:=h2 hr h3;omega)⟩
 have hn:∀r:Bool,(r=true->(p.Op=8->0<p.Kids.length)/\(p.Op=3->p.Kids=[]))->ga (some (!r)) (fun o=>o=true\/((p.Op=8->0<p.Kids.length)/\(p.Op=3->p.Kids=[]))):=fun r hr=>by
  cases r with
  |false=>exact ak (.inl rfl)
  |true=>exact ak (.inr (hr rfl))
 refine av (R:=fun _=>True) ?_ fun o3 _=>av (R:=fun o=>o=true\/((p.Op=8->0<p.Kids.length)/\(p.Op=3->p.Kids=[]))) ?_ fun o ho=>aF (fun _=>ak (fun h=>by cases h)) fun hno=>av (R:=fun _=>True) ?_ fun _ _=>aF (fun _=>ak (fun h=>by cases h)) fun _=>av (LA p) fun _ _=>aF (fun _=>ak (fun h=>by cases h)) fun _=>av (R:=fun _=>True) ?_ fun _ _=>aF (fun _=>ak (fun h=>by cases h)) fun _=>ak fun _=>(ho.resolve_left hno).2
 ·unfold uC
  repeat' first|exact ak trivial|refine aF (fun _=>?_) (fun _=>?_)
 ·unfold uD
  have hm:ga (wg p.Op) (fun _=>True):=by
   unfold wg
   repeat' first|exact ak trivial|refine aF (fun _=>?_) (fun _=>?_)
  repeat' first|exact ak (.inl rfl)|refine aF (fun _=>?_) (fun _=>?_)|refine av hm fun _ _=>?_|exact av hk hn
 ·have hi:ga (Iu p.N) (fun _=>True):=by
   unfold Iu
   repeat' first|exact ak trivial|refine aF (fun _=>?_) (fun _=>?_)
  unfold uE
  repeat' first|exact ak trivial|refine aF (fun _=>?_) (fun _=>?_)|refine av hi fun _ _=>?_
 ·unfold uF
  refine aF (fun h=>?_) fun _=>ak trivial
  exact ck (cB p.Kids 0 ((ho.resolve_left hno).1 (by simpa using h))) (ak trivial)
theorem NG(p:aa)(hp:nP p<=cm):ga (EA p) (fun r=>(r !=0)=false->JL p):=by
 refine rx (F:=yq) nP (fun x=>nP x<=cm) (fun x r=>(r !=0)=false->JL x) (fun R x hx ih=>?_) p hp (kb hp)
 show ga (sh (fun t=>R t) x) _
 unfold sh uA
 have h1:=oH x
 refine av (L4 x) fun r hr=>aF (fun h=>ak (fun h'=>by rw[h]at h';cases h')) fun h=>av (ky x.Kids (by unfold cm at hx;omega) _ JL (fun r=>(r !=0)=true) (fun i=>rfl) (fun y hy i=>av (ih _ (oG hy) (by have:=oG hy;omega)) fun r hr=>aF (fun h=>ak h) fun h=>ak ⟨rfl,hr (by simpa using h)⟩)) fun o ho=>?_
 cases o with
 |inl r=>
  have ho:(r !=0)=true:=ho
  exact ak fun h'=>by rw[ho]at h';cases h'
 |inr _=>exact ak fun _=>(Na x).2 ⟨hr (by simpa using h),(JH _).2 ho⟩
theorem Lh(p:aa)(hp:nP p<=cm):ga (wd p) (fun r=>(r !=0)=false->JL p):=by
 unfold wd
 exact ck (Ab p hp) (aF (fun _=>ak (fun h=>by cases h)) fun _=>ck (OZ p hp) (aF (fun _=>ak (fun h=>by cases h)) fun _=>av (NG p hp) fun _ h=>ak h))
theorem Rp:JL Gz:=(Na _).2 ⟨fun h=>(by cases h),trivial⟩
theorem NQ(t:ae)(ht:eG t<=cm)(hp:nP t.Pred<=cm)(hq:∀q∈t.Preds,nP q<=cm):ga (zy t) (fun r=>(r !=0)=false->((∀s∈t.Names,s≠[118])/\t.Names.Nodup)/\JL t.Pred/\Oo t.Preds):=by
 unfold zy
 have h1:=wz t
 have h2:=wF t
 have hb:cm=1073741824:=rfl
 refine av (R:=fun _=>True) ?_ fun _ _=>aF (fun _=>ak (fun h=>by cases h)) fun _=>?_
 ·unfold uW
  repeat' first|exact ak trivial|refine aF (fun _=>?_) (fun _=>?_)|refine ck (Im _) ?_
 unfold uY
 refine av (ky t.Names (by omega) _ (fun s=>s≠[118]) (fun _=>True) (fun i=>rfl) (fun x hx i=>av (Qj x) fun r hr=>aF (fun _=>ak trivial) fun h=>ak ⟨rfl,hr (by simpa using h)⟩)) fun o ho=>?_
 cases o with
 |inl _=>exact ak (fun h=>by cases h)
 | inr _ =>
  have ho:∀s∈t.Names,s≠[118]:=ho
  refine av (Ef t.Names (by omega)) fun d hd=>aF (fun _=>ak (fun h=>by cases h)) fun nd=>ck (ec (by simp;omega)) ?_
  unfold u3
  refine av (ky ([t.Pred]++t.Preds) (by simp;omega) _ JL (fun e=>(e !=0)=true) (fun i=>rfl) (fun x hx i=>?_)) fun o hw=>?_
  ·have hxn:nP x<=cm:=by
    rcases vau.1 hx with h|h
    ·rw[vaJ.1 h];exact hp
    ·exact hq x h
   refine av (Lh x hxn) fun e he=>av (R:=fun o=>(o=true->(e !=0)=true)/\(o=false->JL x)) ?_ fun o ho=>?_
   ·unfold uX
    refine ck (Im _) (aF (fun _=>ak ⟨fun h=>h,fun h=>he h⟩) fun hz=>ak ⟨fun h=>(by cases h),fun _=>?_⟩)
    have hx0:(⟨x.Op,x.Name,x.N,x.Kids⟩:aa)=Gz:=by simpa using hz
    rw[qR]at hx0
    rw[hx0];exact Rp
   ·exact aF (fun h=>ak (ho.1 h)) fun h=>ak ⟨rfl,ho.2 (by simpa using h)⟩
  ·cases o with
   |inl e=>
    have hw:(e !=0)=true:=hw
    exact ak fun h'=>by rw[hw]at h';cases h'
   |inr _=>
    have hw:∀p∈[t.Pred]++t.Preds,JL p:=hw
    exact ak fun _=>⟨⟨ho,hd (by simpa using nd)⟩,hw _ (by simp),(JH _).2 fun p hp=>hw p (vau.2 (.inr hp))⟩
theorem NH(t:ae)(ht:eG t<=cm)(hp:G9 (fun p=>nP p<=cm) t):ga (ES t) (fun r=>(r !=0)=false->O9 t):=by
 refine rx (F:=yu) eG (fun x=>eG x<=cm/\G9 (fun p=>nP p<=cm) x) (fun x r=>(r !=0)=false->O9 x) (fun R x hx ih=>?_) t ⟨ht,hp⟩ (kb ht)
 obtain⟨hx,hq⟩:=hx
 show ga (sm (fun t=>R t) x) _
 unfold sm uU
 have h1:=my x
 have hq':=(J9 _ _).1 hq
 refine av (NQ x hx hq'.1 hq'.2.1) fun r hr=>aF (fun h=>ak (fun h'=>by rw[h]at h';cases h')) fun h=>av (ky x.Args (by unfold cm at hx;omega) _ O9 (fun r=>(r !=0)=true) (fun i=>rfl) (fun y hy i=>av (ih _ (lG hy) ⟨by have:=lG hy;omega,(Bq _ _).1 hq'.2.2 y hy⟩) fun r hr=>aF (fun h=>ak h) fun h=>ak ⟨rfl,hr (by simpa using h)⟩)) fun o ho=>?_
 cases o with
 |inl r=>
  have ho:(r !=0)=true:=ho
  exact ak fun h'=>by rw[ho]at h';cases h'
 |inr _=>
  obtain⟨g1,g2,g3⟩:=hr (by simpa using h)
  exact ak fun _=>(MJ x).2 ⟨g1,g2,g3,(zL _).2 ho⟩
theorem Li(t:ae)(ht:eG t<=cm)(hp:G9 (fun p=>nP p<=cm) t):ga (wj t) (fun r=>(r !=0)=false->O9 t):=by
 unfold wj
 exact av (JO t ht) fun _ _=>aF (fun h=>ak (fun h'=>by rw[h]at h';cases h')) fun _=>av (NH t ht hp) fun _ h=>ak h
theorem L0{σ X:Type}(n:Nat)(body:σ->Option (σ⊕X))(S:Nat->σ)(e:X)(hin:∀i,i<n->body (S i)=some (.inl (S (i+1))))(hend:body (S n)=some (.inr e)):loop body (S 0)=some e:=by
 have key:∀k i,k+i=n->loop body (S i)=some e:=by
  intro k
  induction k with
  |zero=>
   intro i hi
   have:i=n:=by omega
   subst this
   exact lJ hend
  |succ k ih=>
   intro i hi
   rw[nX (hin i (by omega))]
   exact ih (i+1) (by omega)
 exact key n 0 (by omega)
mutual
theorem PH:∀(t:ae) (c:Sb),Q5 (vg t c)=Q5 t
 |⟨o,n,xs,ns,p,ps⟩,c=>by rw[vg,Q5,Q5,MY]
theorem MY:∀(xs:List ae) (o:Int) (ns:List ag) (i:Nat) (s:S3),Ae (HJ o ns i xs s).1=Ae xs
 |[],o,ns,i,s=>by rw[HJ,Ae]
 |a::xs,o,ns,i,s=>by rw[HJ,Ae,Ae,PH a,MY xs]
end
mutual
theorem M3:∀(a b:ae),AO a b=true↔Q5 a=Q5 b
 |⟨o,n,xs,ns,p,ps⟩,⟨o',n',xs',ns',p',ps'⟩=>by
  have:=KZ xs xs'
  rw[AO,Q5,Q5]
  simp only[vag,vaj,this,ae.mk.injEq,vcD]
theorem KZ:∀(a b:List ae),tG a b=true↔Ae a=Ae b
 |[],[]=>by simp[tG,Ae]
 |x::xs,y::ys=>by
  rw[tG,Ae,Ae,vag,M3 x y,KZ xs ys,vbs]
 |[],y::ys=>by simp[tG,Ae]
 |x::xs,[]=>by simp[tG,Ae]
end
mutual
theorem P3(M:Nat)(hM:1<=M):∀(t:ae) (c:Sb),P8 M c->wT (vg t c)<=wT t * M
 |⟨o,n,xs,ns,p,ps⟩,c,h=>by
  have h1:=P1 M hM o ns xs 0 (((kB c).flatMap fE++freeT ⟨o,n,xs,ns,p,ps⟩)++ns,c,ns) h
  have h2:=RG (kC (kN c) (kB c)) M hM (fun n r hr=>Kk h hr) p
  have h3:=PU (kC (kN c) (kB c)) M hM (fun n r hr=>Kk h hr) ps
  rw[D9]at h3
  rw[vg,wT,wT,vaT,vaT]
  omega
theorem P1(M:Nat)(hM:1<=M)(o:Int)(ns:List ag):∀(xs:List ae) (i:Nat) (s:S3),P8 M s.2.1->tg (HJ o ns i xs s).1<=tg xs * M
 |[],i,s,_=>by rw[HJ,tg];omega
 |a::xs,i,s,h=>by
  have h1:=P3 M hM a s.2.1 h
  have h2:=P1 M hM o ns xs (i+1) (wo o ns i s) (QM hM o ns i s h)
  rw[HJ]
  show tg (vg a s.2.1::(HJ o ns (i+1) xs (wo o ns i s)).1)<=_
  rw[tg,tg,vaT];omega
end
theorem HQ(l w:List ag)(f:ag->Bool)(b:List ag->Int->Option ((List ag×Int)⊕List ag))(h1:∀(i:Nat) (hi:i<l.length) (out:List ag),out.length<=w.length+i->b out (i:Int)=some (.inl ((if f l[i]=true then out++[l[i]]else out),((i+1:Nat):Int))))(h2:∀out,b out (l.length:Int)=some (.inr out)):loop (fun(zz:List ag×Int)=>b zz.1 zz.2) (w,0)=some (w++l.filter f):=by
 have e:=L0 l.length (fun(zz:List ag×Int)=>b zz.1 zz.2) (fun i=>(w++(l.take i).filter f,(i:Int))) (w++l.filter f) (fun i hi=>?_) ?_
 ·simpa using e
 ·show b (w++(l.take i).filter f) (i:Int)=_
  rw[h1 i hi _ (by
   have:=vaQ f (l.take i)
   rw[va3]at this
   rw[vaq];omega)]
  rw[va2 hi,List.filter_append]
  by_cases hf:f l[i]=true
  ·simp[hf]
  ·simp[hf]
 ·show b (w++(l.take l.length).filter f) (l.length:Int)=_
  rw[h2,vbK]
theorem QP(name:ag)(l:List ag)(hl:l.length<=400000000):j8 name l (l.length:Int) [] 0=some (l.filter (fun x=>!(x==name))):=by
 have e:=HQ l [] (fun x=>!(x==name)) (fun out i=>dR name l (l.length:Int) out i) (fun i hi out ho=>?_) (fun out=>?_)
 ·exact e
 ·unfold dR
  rw[vap (vbd (by omega)),cB _ i hi]
  simp only[vab]
  rw[kn (by omega) (by omega),show((i:Int)+1)=((i+1:Nat):Int) by omega]
  simp only[List.length_nil]at ho
  by_cases hc:(!(l[i]==name))=true
  ·rw[vap hc,vap hc,ec (by simp;omega)];rfl
  ·rw[vat hc,vat hc]
 ·unfold dR
  rw[vat (by simp)]
theorem QQ(w l:List ag)(hl:l.length<=400000000)(hw:w.length<=400000000):j9 l (l.length:Int) w 0=some (w++l.filter (fun x=>!(x==([118]:ag)))):=by
 have e:=HQ l w (fun x=>!(x==([118]:ag))) (fun out i=>dS l (l.length:Int) out i) (fun i hi out ho=>?_) (fun out=>?_)
 ·exact e
 ·unfold dS
  rw[vap (vbd (by omega)),cB _ i hi]
  simp only[vab]
  rw[kn (by omega) (by omega),show((i:Int)+1)=((i+1:Nat):Int) by omega]
  by_cases hc:(!(l[i]==([118]:ag)))=true
  ·rw[vap hc,vap hc,ec (by simp;omega)];rfl
  ·rw[vat hc,vat hc]
 ·unfold dS
  rw[vat (by simp)]
theorem NF(l:List ag)(s:ag):decide (xt l s>=0)=decide (s∈l):=by
 unfold xt
 cases h:l.findIdx? (fun x=>x==s)with
 |none=>
  rw[vby]at h
  have:s∉l:=fun hm=>by have:=h s hm;simp at this
  simp[this]
 |some j=>
  obtain⟨hj,h1,_⟩:=vbw.1 h
  have h2:l[j]=s:=by simpa using h1
  have:s∈l:=h2▸vaw hj
  simp[this]
theorem O6{t:ae}{name:ag}{a:aa}(ok:Pw t (qK name a))(gd:O9 t)(hv:name≠[118])(x:ag):x∈vT (vg t (qK name a))↔(x∈vT t/\x≠name)\/(name∈vT t/\x∈rD a/\x≠[118]):=by
 have e:qK name a=[(name,a)]:=by unfold qK;rw[vat hv]
 rw[Ja (eG t) t _ (van _) ok gd (by rw[e];simp[kN];exact fun h=>hv h.symm) x,e]
 simp[kN]
theorem BV(t:ae)(name:ag)(a:aa)(h:yY (af t)+(pm (.str name)+(yY (ac a)+0))<=1048576):mQ t name a=some true:=by
 have ht:yY (af t)<=1048576:=by omega
 have hw:=P4 t
 have hlt:=Jj t
 have hb:cm=1073741824:=rfl
 have hA:G9 (fun p=>nP p<=cm) t:=OE cm t (by omega)
 have hP:tj (fun p=>nP p<=cm) [t]:=by rw[tj];exact⟨hA,trivial⟩
 have ha:=RE a
 have g:ga (gb name t a) (fun o=>o=true\/(nP a<=30/\name≠[118]/\O9 t)):=by
  unfold gb
  refine av (QN [t] (by simp only[kq];omega) hP) fun b _=>aF (fun _=>ak (.inl rfl)) fun _=>ck (Ab a (by omega)) (aF (fun _=>ak (.inl rfl)) fun h30=>aF (fun _=>ak (.inl rfl)) fun hn=>av (Li t (by omega) hA) fun r hr=>ak ?_)
  have h3:nP a<=30:=by
   have:¬((nP a:Int)>30):=fun hc=>h30 (vbd hc)
   omega
  cases hr0:(r !=0)with
  |true=>exact .inl rfl
  |false=>exact .inr ⟨h3,by simpa using hn,hr hr0⟩
 obtain⟨o,eo,ho⟩:=g
 unfold mQ
 rw[eo]
 simp only[vab]
 by_cases hc:o=true
 ·rw[vap hc,yB];rfl
 obtain⟨h30,hv,gd⟩:=ho.resolve_left hc
 rw[vat hc]
 have ok:Pw t (qK name a):=Sz ht (Mk _ _) (by have:=SI name a;omega)
 have hf:P8 30 (qK name a):=fun e he=>by
  unfold qK at he
  split at he
  ·cases he
  ·rw[vaJ.1 he];exact h30
 have hwu:wT (vg t (qK name a))<=200000000:=by
  have h1:=P3 30 (by omega) t (qK name a) hf
  have:wT t * 30<=1048576 * 30:=vaN _ (by omega)
  omega
 have hlu:eG (vg t (qK name a))<=200000000:=by rw[MP];omega
 have fl:=lI t
 have flu:=lI (vg t (qK name a))
 have fla:=nV a
 rw[NY t _ _ ok]
 simp only[vab]
 rw[BT t (by omega) (by omega)]
 simp only[vab]
 rw[im _ _ (by omega)]
 simp only[vab]
 rw[PR a (by omega)]
 simp only[vab]
 rw[Oc _ _ (by omega),(M3 t _).2 (PH t _).symm]
 simp only[vab,vcj,va4,if_false]
 rw[NF]
 rw[BT _ hwu hlu]
 have one:=O6 ok gd hv
 by_cases hm:name∈vT t
 ·rw[vat (by simp[wu,hm])]
  rw[QP name _ (by omega)]
  simp only[vab]
  have l1:=vaQ (fun x=>!(x==name)) (freeT t)
  have l2:=vaQ (fun x=>!(x==([118]:ag))) (fE a)
  rw[QQ _ _ (by omega) (by omega)]
  simp only[vab]
  rw[zq _ _ (by rw[vaq];omega) (by simp)]
  simp only[vab]
  rw[Id _ _ (by omega)]
  simp only[vab]
  rw[vap (vbd ?_),yB]
  ·rfl
  ·unfold freeT
   refine Gm fun x=>?_
   rw[one x]
   simp only[vau,vaG,vbv,or_false,ph,qS]
   simp[hm]
 ·rw[vap (by simp[wu,hm])]
  simp only[vab]
  rw[Id _ _ (by omega)]
  simp only[vab]
  rw[vap (vbd ?_),yB]
  ·rfl
  ·unfold freeT
   refine Gm fun x=>?_
   rw[one x]
   simp only[hm,false_and,or_false,vbv]
   exact⟨fun h=>h.1,fun h=>⟨h,fun he=>hm (he▸h)⟩⟩
end Go.Proofs.YtggeppllafbidaaGreatDoor
