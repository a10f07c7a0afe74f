/- PROVED: a part of the proof. Conditions: none. -/
import Derived.Test.YtbaamopmfmpfaaaGreatDoorPkC18
noncomputable section
namespace Go.Proofs.YtbaamopmfmpfaaaGreatDoor
open Go
set_option linter.unusedVariables false
set_option linter.unusedSimpArgs false
mutual
def pe(tag:Int):ak->List ag->Bool
 |⟨o,n,_,_,t,ks⟩,U=>if o=3 then decide (t=tag)else if o=2/\n≠[]then decide (n∉U)&&ic tag ks (U++[n])else ic tag ks U
def ic(tag:Int):List ak->List ag->Bool
 |[],_=>true
 |c::cs,U=>pe tag c U&&ic tag cs U
end
theorem Yx(tag:Int)(c:ak)(U:List ag):pe tag c U=if c.Op=3 then decide (c.Tag=tag)else if c.Op=2/\c.Name≠[]then decide (c.Name∉U)&&ic tag c.Kids (U++[c.Name])else ic tag c.Kids U:=by
 obtain⟨o,n,s,p,t,ks⟩:=c;rw[pe];rfl
theorem xq(tag:Int)(U:List ag):∀(l:List ak),ic tag l U=l.all (fun c=>pe tag c U)
 |[]=>by rw[ic];rfl
 |c::l=>by rw[ic,xq tag U l];rfl
theorem SJ{α:Type}(p:α->Bool):∀(l:List α),(l.any fun x=>!p x)= !l.all p
 |[]=>rfl
 |x::l=>by rw[List.any_cons,List.all_cons,SJ p l];cases p x<;>rfl
theorem Xg(c:ak)(tag:Int)(U:List ag)(h:nC c+U.length<=bz):JN c tag U=some (pe tag c U):=by
 refine kf (F:=Dh) (fun x=>nC x.1) (fun x=>nC x.1+x.2.2.length<=bz/\x.2.1=tag) (fun x=>pe tag x.1 x.2.2) (fun R x hx ih=>?_) (c,tag,U) ⟨h,rfl⟩ (f6 (by show nC c<=bz;omega))
 obtain⟨c,tg,U⟩:=x
 obtain⟨hx,ht⟩:=hx
 have ht:tg=tag:=ht
 subst ht
 have hx:nC c+U.length<=bz:=hx
 have hb:bz=1073741824:=rfl
 have hk:=MC c
 have hpos:=M2 c
 show yh (fun c t u=>R (c,t,u)) c tg U=some (pe tg c U)
 unfold yh
 rw[Yx]
 by_cases h3:c.Op=3
 ·rw[vak (by simpa using h3),vak h3]
  rfl
 rw[van (by simpa using h3),van h3]
 have loopK:∀V:List ag,V.length<=U.length+1->qI (fun c t u=>R (c,t,u)) tg V c 0=some (if ic tg c.Kids V=true then Sum.inr ()else Sum.inl ()):=fun V hV=>by
  unfold qI
  have:=MZ c.Kids (by omega) (fun zz=>vY (fun c t u=>R (c,t,u)) tg V c zz) (fun i x=>(R (x,tg,V)).bind fun r19=>if(!r19)=true then some (.inr (.inl ()))else some (.inl (aR (i+1)))) (fun x=>!pe tg x V) (Sum.inl ():Unit⊕Unit) (Sum.inr ()) (fun i=>rfl) (fun x hx i=>by
   have hlt:=Oa hx
   rw[show R (x,tg,V)=some (pe tg x V)from ih (x,tg,V) hlt ⟨by show nC x+V.length<=bz;omega,rfl⟩]
   simp only[vaa]
   cases pe tg x V<;>rfl)
  rw[this,SJ,<-xq]
  cases ic tg c.Kids V<;>rfl
 have fin:∀V:List ag,V.length<=U.length+1->((qI (fun c t u=>R (c,t,u)) tg V c 0).bind fun o22=>match o22 with|(.inl o22)=>some false|(.inr o22)=>some true)=some (ic tg c.Kids V):=fun V hV=>by
  rw[loopK V hV]
  cases ic tg c.Kids V<;>rfl
 unfold Az AA
 by_cases h2:c.Op=2
 ·rw [vak (by simpa using h2)]
  simp only[vaa]
  by_cases hn:c.Name=[]
  ·rw[van (by simp[hn]),van (by simp[hn])]
   simp only[vaa]
   exact fin U (by omega)
  ·rw[vak (by simpa using hn),vak ⟨h2,hn⟩]
   have hl:uP U c 0=some (if U.any (fun x=>x==c.Name)=true then Sum.inl ()else Sum.inr ()):=by
    unfold uP
    exact MZ U (by omega) (fun zz=>vX U c zz) (fun i x=>if(x==c.Name)=true then some (.inr (.inl ()))else some (.inl (aR (i+1)))) (fun x=>x==c.Name) (Sum.inl ():Unit⊕Unit) (Sum.inr ()) (fun i=>rfl) (fun x hx i=>by
     by_cases h:(x==c.Name)=true<;>simp[h])
   rw[hl]
   simp only[vaa]
   by_cases hm:c.Name∈U
   ·rw[vak (vbo.2 ⟨_,hm,by simp⟩),decide_eq_false (by simpa using hm)]
    rfl
   ·rw[van (fun h=>by obtain⟨y,hy,he⟩:=vbo.1 h;exact hm (by rw[<-eq_of_beq he];exact hy)),vbp hm]
    simp only
    rw[dR (by simp;omega),vaD]
    simp only[vaa]
    rw[dR (by simp;omega)]
    simp only[vaa,Bool.true_and]
    exact fin _ (by simp)
 ·rw[van (by simpa using h2),van (by simp[h2])]
  simp only[vaa,va5,if_false]
  exact fin U (by omega)
mutual
theorem W7(tag:Int)(U:List ag):∀(c:ak),ic tag (CB c) U=pe tag c U
 | ⟨o,n,s,p,t,ks⟩ => by
  rw[CB]
  split
  ·rw[ic,ic,Bool.and_true]
  ·rename_i h
   rw[La tag U ks,pe,van (by omega),van (by omega)]
theorem La(tag:Int)(U:List ag):∀(l:List ak),ic tag (fT l) U=ic tag l U
 |[]=>by rw[fT]
 |c::l=>by
  have h1:=W7 tag U c
  have h2:=La tag U l
  rw[fT,ic,<-h1,<-h2]
  rw[xq,xq,xq,List.all_append]
end
theorem TC(tag:Int)(U:List ag)(l:List ak):pe tag (En (fT l)) U=ic tag l U:=by
 rw[pe,van (by decide),van (by simp),La]
theorem IW(tag:Int)(U:List ag)(x s:ag)(p:aa)(c:ak)(hx:x∉U)(h1:pe tag c (U++[x])=true)(h2:pe tag c U=true):pe tag (L4 x s p c) U=true:=by
 rw[pe,van (by decide)]
 split
 ·rw[ic,h1,vbp hx];rfl
 ·rw[ic,h2];rfl
theorem xr(tag:Int)(U:List ag)(p:aa):pe tag (EN p tag) U=true:=by
 rw[pe,vak rfl];simp
theorem S5(tag:Int)(a b:ae)(x:ag)(U:List ag)(hx:x∉U):∀(l:List dh) (i:Nat),ic tag (Um tag a b x l i) U=true
 |[],i=>by rw[Um,ic]
 |d::l,i=>by
  rw[Um,ic,S5 tag a b x U hx l (i+1),IW tag U x _ _ _ hx (xr _ _ _) (xr _ _ _)];rfl
theorem TT(m:aQ)(tag:Int)(a b:ae)(used U:List ag)(hu:used.length<=100000000)(h:∀x∈U,x∈used):pe tag (G8 m tag a b used) U=true:=by
 have hx:fq used [118,49]∉U:=fun hm=>(wB used [118,49] hu (by simp)).2.2 (h _ hm)
 unfold G8
 simp only
 split
 ·rw[TC,ic,S5 tag a b _ U hx,IW tag U _ _ _ _ hx (xr _ _ _) (xr _ _ _)];rfl
 ·exact IW tag U _ _ _ _ hx (xr _ _ _) (xr _ _ _)
theorem XT{a b:ae}{used:List ag}{L:Nat}(h:Ch a b used L)(i:Nat)(hi:i<a.Args.length):Q9 a b (fJ a b used i).2.2 i∉(fJ a b used i).2.2:=by
 have h1:=Hg a b used i
 have h2:=j3 a
 have h3:=j3 b
 have h4:=h.u
 have h5:=Te a
 have h7:=h.la;have h8:=h.lb;have h9:=h.nl
 have hu:used.length+i<=10000000:=by
  have:a.Args.length<=cM (a.Args.map sS):=by have:=wY (a.Args.map sS);rwa[vaL]at this
  omega
 have hbase:(b.Names.getD i [120]).length<=4000000000000000000:=by
  by_cases hb:i<b.Names.length
  ·rw[vac,vab hb,Option.getD_some]
   have:=((wK _ _).1 h.nb).1 _ (vat hb)
   omega
  ·rw[vac,vau (by omega)]
   simp
 have:=(wB (((fJ a b used i).2.2++a.Names.drop (i+1))++b.Names.drop (i+1)) (b.Names.getD i [120]) (by rw[vae,vae,vaV,vaV];omega) hbase).2.2
 intro hm
 exact this (vaR _ (vaR _ hm))
theorem PX{rec:Rc}{a b:ae}{used:List ag}{L:Nat}(tag:Int)(h:Ch a b used L)(n:Nat)(hn:n+1=a.Args.length)
  (hr:∀i,i<a.Args.length->∀U:List ag,(∀x∈U,x∈(fJ a b used i).2.2)->pe tag (rec (rA a b used i) (lA a b used i) (fJ a b used i).2.2) U=true/\pe tag (rec (lA a b used i) (rA a b used i) (fJ a b used i).2.2) U=true):
  ∀k,k<=n->∀U:List ag,(∀x∈U,x∈(fJ a b used (n - k)).2.2)->pe tag (sQ rec a b used n k) U=true
 |0,_,U,hU=>(hr n (by omega) U hU).2
 | k + 1,hk,U,hU => by
  have ih:=PX tag h n hn hr k (by omega)
  have h1:=(hr (n - (k+1)) (by omega) U hU).1
  have e:(fJ a b used (n - k)).2.2=(fJ a b used (n - (k+1))).2.2++[Q9 a b (fJ a b used (n - (k+1))).2.2 (n - (k+1))]:=by
   rw[show n - k=n - (k+1)+1 by omega];rfl
  have hy:=XT h (n - (k+1)) (by omega)
  rw[sQ,TC,ic,ic,ic,h1]
  rw[e]at ih
  unfold Ew
  split
  ·rw[IW tag U _ _ _ _ (fun hm=>hy (hU _ hm)) (ih _ fun x hx=>?_) (ih _ fun x hx=>vaR _ (hU x hx))]
   ·rfl
   ·rcases vaE.1 hx with hx|hx
    ·exact vaR _ (hU x hx)
    ·exact vba _ hx
  ·rw[ih _ fun x hx=>vaR _ (hU x hx)];rfl
theorem GV(m:aQ)(tag:Int):∀(k:Nat) (a b:ae) (used:List ag) (L:Nat),Ch a b used L->nT a<=k->∀U:List ag,(∀x∈U,x∈used)->pe tag (DX m tag k a b used) U=true
 |0,a,b,used,L,h,hk,_,_=>by have:1<=nT a:=mL _;omega
 | k + 1,a,b,used,L,h,hk,U,hU => by
  have z:pe tag (En []) U=true:=by rw[pe,van (by decide),van (by simp),ic]
  show pe tag (if a.Op=6 then _ else _) U=true
  by_cases h6:a.Op=6
  ·rw[vak h6]
   by_cases h0:a.Args.length=0
   ·rw[vak h0];exact z
   ·rw[van h0]
    refine PX tag h (a.Args.length - 1) (by omega) (fun i hi V hV=>?_) (a.Args.length - 1) (vah _) U (by rw[vby];exact hU)
    have hc:=h.child i hi
    exact⟨GV m tag k _ _ _ _ hc.2.1 (by omega) V hV,GV m tag k _ _ _ _ hc.1 (by omega) V hV⟩
  ·rw[van h6]
   by_cases hb:Ev a=true
   ·rw[vak hb]
    exact TT m tag a b used U (by have:=h.u;omega) hU
   ·rw[van hb];exact z
theorem GG(m:aQ)(x:aD)(used:List ag)(h:fx (aC m)+(fx (ay x)+(pm (sl cS used)+0))<=1048576):ry m x used=some true:=by
 obtain⟨o,e,ho⟩:=XV m x used h
 have e:nq used m x=some o:=e
 have hp:=O2 x
 have hl:=Qb used
 have hu:pm (sl cS used)=bM (used.map cS)+1:=by simp only[pm,sl]
 have hm:ZY m 524288:=ZZ (by omega)
 unfold ry
 rw[e]
 simp only[vaa]
 by_cases hc:o=true
 ·rw[vak hc,Dj];rfl
 ·have hL:=ho.resolve_left hc
  have hf:xl x.A x.B=true->Ch x.A x.B used 1048576:=fun hs=>(hL.f h hs).1
  have hlen:cu x.A<=bz:=by have:=hL.la;unfold bz;omega
  rw[van hc,X9 hm x.Tag hlen hf]
  simp only[vaa]
  cases hs:xl x.A x.B with
  |false=>
   simp only[va5,if_false]
   rw[Dj]
   rfl
  |true=>
   have h1:=(Z9 hm x.Tag (hf hs)).2
   have:=hL.la;have:=hL.lb;have:=hL.wa;have:=hL.wb
   simp only[if_true]
   rw[van (by simp),Xg _ _ _ (by show nC (Q2 m x.Tag x.A x.B used)+used.length<=1073741824;omega)]
   simp only[vaa]
   rw[show pe x.Tag (Q2 m x.Tag x.A x.B used) used=true from GV m x.Tag _ _ _ _ _ (hf hs) (vah _) used (fun _ hx=>hx),vak rfl,Dj]
   rfl
end Go.Proofs.YtbaamopmfmpfaaaGreatDoor
