/- PROVED: a part of the proof. Conditions: none. -/
import Derived.Test.YtkdahfeiedaahaaGreatDoorPkR17
import Derived.Test.YtkdahfeiedaahaaGreatDoorPkR11
import Derived.Shelf.SlicesE.DeleteFunc
import Derived.Shelf.SlicesE.Index
import Derived.Test.YtkdahfeiedaahaaGreatDoorPkR9
set_option linter.unusedSimpArgs false
set_option linter.unusedVariables false
noncomputable section
namespace Go.Proofs.YtkdahfeiedaahaaGreatDoor
open Go Go.Proofs.Tryz
set_option linter.unusedVariables false
def Zq:List ai->List ai->List ai->List ai->Option (List ai×List ai×List ai×List ai)
 |[],f,t,u=>some ([],f,t,u)
 |s::l,f,t,u=>(mS u s).bind λr=>(app u ([r]:List ai)).bind λu'=>(app f ([s]:List ai)).bind λf'=>(app t ([r]:List ai)).bind λt'=>(Zq l f' t' u').bind λq=>some (r::q.1,q.2)
mutual
def Vr:ag->List ai->List ai->List ai->Option (ag×List ai)
 |⟨o,m,k,ks,ps,as1,ts⟩,f,t,u=>(ke f t o m).bind λm1=>(ik f t u o m1).bind λh=>(kf o ps.length h.1 h.2.1 h.2.2.1 0 ps).bind λp=>(RK ps.length p.2.2.2).bind λps'=>
  (Zp ks (if(o==7)=true then f else p.1) (if(o==7)=true then t else p.2.1) p.1 p.2.1 p.2.2.1).bind λkk=>(YV as1 f t kk.2).bind λaa=>some (⟨o,h.2.2.2,k,kk.1,ps',aa.1,ts⟩,aa.2)
def qcG:az->List ai->List ai->List ai->Option (az×List ai)
 |⟨c,ns,b⟩,f,t,u=>(app ([]:List ai) f).bind λf0=>(app ([]:List ai) t).bind λt0=>(Zq ns f0 t0 u).bind λq=>(Vr b q.2.1 q.2.2.1 q.2.2.2).bind λr=>some (⟨c,q.1,r.1⟩,r.2)
def Zp:List ag->List ai->List ai->List ai->List ai->List ai->Option (List ag×List ai)
 |[],_,_,_,_,u=>some ([],u)
 |e::l,f0,t0,f1,t1,u=>(Vr e f0 t0 u).bind λa=>(Zp l f1 t1 f1 t1 a.2).bind λb=>some (a.1::b.1,b.2)
def YV:List az->List ai->List ai->List ai->Option (List az×List ai)
 |[],_,_,u=>some ([],u)
 |x::l,f,t,u=>(qcG x f t u).bind λa=>(YV l f t a.2).bind λb=>some (a.1::b.1,b.2)
end
theorem Xs{i:Int}{n0:Nat}{w4:List dD}{x:dD}{L:Nat}(hx:pn n0 w4 i=some x)(hv:Vo 5 x.NV=some L)(hl:L<=bo):∀(B A:List ai) (f t u:List ai) (q:List ai×List ai×List ai×List ai),A.length+B.length=L->Zq B f t u=some q->
  kM i n0 w4 u f t (A.length:Int) (A++B)=some (q.2.2.2,q.2.1,q.2.2.1,A++q.1)/\q.1.length=B.length
 | [],A,f,t,u,q,hL,h => by
  rw[Zq]at h
  cases h
  refine⟨?_,rfl⟩
  unfold kM
  rw[gP]
  have hb:gp i n0 w4 u f t (A.length:Int) (A++[])=some (.inr (u,f,t,A++[])):=by
   unfold gp
   simp only[hx,vaa,hv]
   rw[van (by simp only[List.length_nil,Nat.add_zero]at hL;simp[hL])]
  simp only[hb]
 | s :: B,A,f,t,u,q,hL,h => by
  rw[Zq]at h
  obtain⟨r,e1,h⟩:=JK h
  obtain⟨u',e2,h⟩:=JK h
  obtain⟨f',e3,h⟩:=JK h
  obtain⟨t',e4,h⟩:=JK h
  obtain⟨q',e5,h⟩:=JK h
  cases h
  have hL':(A++[r]).length+B.length=L:=by simp at hL ⊢;omega
  obtain⟨h1,h2⟩:=Xs hx hv hl B (A++[r]) f' t' u' q' hL' e5
  refine⟨?_,by simp[h2]⟩
  have hlt:A.length<L:=by simp at hL;omega
  unfold kM at h1 ⊢
  rw[gP]
  have hb:gp i n0 w4 u f t (A.length:Int) (A++s::B)=some (.inl (u',f',t',((A++[r]).length:Int),(A++[r])++B)):=by
   unfold gp
   simp only[hx,vaa,hv]
   rw[vah (by simpa using hlt),pK hlt]
   simp only[vaa,e1,e2,e3,e4,mG]
   rw[Nv (by unfold bo at hl;omega)]
   simp
  simp only[hb]
  rw[h1]
  simp
theorem Zr{R:jG}{o:Int}{f t p1 p2:List ai}{L:Nat}(hl:L<=bo):∀(B A:List ag) (fa ta u:List ai) (q:List ag×List ai),A.length+B.length=L->(∀x∈B,∀f' t' u',R x f' t' u'=Vr x f' t' u')->fa=(if(o==7&&decide (A.length=0))=true then f else p1)->ta=(if(o==7&&decide (A.length=0))=true then t else p2)->Zp B fa ta p1 p2 u=some q->
  lY R p1 p2 f t o L u (A.length:Int) (A++B)=some (q.2,A++q.1)/\q.1.length=B.length
 | [],A,fa,ta,u,q,hL,hR,_,_,h => by
  rw[Zp]at h
  cases h
  refine⟨?_,rfl⟩
  unfold lY
  rw[gP]
  have hb:gY R p1 p2 f t o L u (A.length:Int) (A++[])=some (.inr (u,A++[])):=by
   unfold gY
   rw[van (by simp only[List.length_nil,Nat.add_zero]at hL;simp[hL])]
  simp only[hb]
 | x :: B,A,fa,ta,u,q,hL,hR,hfa,hta,h => by
  rw[Zp]at h
  obtain⟨a,e1,h⟩:=JK h
  obtain⟨q',e2,h⟩:=JK h
  cases h
  have hL':(A++[a.1]).length+B.length=L:=by simp at hL ⊢;omega
  have hz:decide ((A++[a.1]).length=0)=false:=by simp
  obtain⟨h1,h2⟩:=Zr hl B (A++[a.1]) p1 p2 a.2 q' hL' (λy hy=>hR y (by simp[hy])) (by rw[hz];simp) (by rw[hz];simp) e2
  refine⟨?_,by simp[h2]⟩
  have hlt:A.length<L:=by simp at hL;omega
  unfold lY at h1 ⊢
  rw[gP]
  have hb:gY R p1 p2 f t o L u (A.length:Int) (A++x::B)=some (.inl (a.2,((A++[a.1]).length:Int),(A++[a.1])++B)):=by
   unfold gY vO sq
   rw[vah (by simpa using hlt),pK hlt]
   simp only[vaa]
   have h0:((A.length:Int)==0)=decide (A.length=0):=by
    by_cases hh:A.length=0<;>simp[hh]
   rw[h0]
   have hr:=hR x (by simp)
   rw[Nv (by unfold bo at hl;omega)]
   cases ho:(o==7)with
   |false=>
    rw[ho]at hfa hta
    simp only[vc0,vaD,if_false]at hfa hta
    subst hfa;subst hta
    simp only[vaD,if_false,vaa,hr,e1,mG]
    simp
   | true =>
    rw[ho]at hfa hta
    simp only[vcl]at hfa hta
    simp only[if_true,vaa]
    cases hd:decide (A.length=0)with
    |true=>
     rw[hd]at hfa hta
     simp only[if_true]at hfa hta
     subst hfa;subst hta
     simp only[if_true,hr,e1,vaa,mG]
     simp
    |false=>
     rw[hd]at hfa hta
     simp only[vaD,if_false]at hfa hta
     subst hfa;subst hta
     simp only[vaD,if_false,hr,e1,vaa,mG]
     simp
  simp only[hb]
  rw[h1]
  simp
abbrev P2(f t u:List ai)(o:Int)(m:ai)(k:Int)(ks:List ag)(ps:List am)(nA:Nat)(ts:List al)(i:Nat)(w4:List dD)(B5:aA):aB:=
 aO 242 [(3,sl cS u),(4,.bptr 0 0),(8,.bptr 1 0),(10,sl cS f),(11,sl cS t),(16,.int .i64 (i:Int))] [.cells [.int .i64 o,.str m,.int .i64 k,sl ae ks,sl aj ps,.bsl 4 0 nA,sl ah ts] [],.cells [.int .i64 0,.str ([]:ai),.int .i64 0,sl ae [],sl aj [],sl au [],sl ah []] [(3,28),(4,85),(5,89),(6,60)],.dead,.dead,.cells (aV bp w4) [],B5] [((3,0),9)]
theorem Od:∀(K:Nat) (e:ag),SizeOf.sizeOf e<K->RJ e=true->∀(f t u:List ai) (r:ag×List ai),Vr e f t u=some r->C Pg GE 63 [.agg (ae e),sl cS f,sl cS t,sl cS u] [((3,0),9)] [] (.tuple [.agg (ae r.1),sl cS r.2]) [(1,9)] []
 |0,e,hk,_,_,_,_,_,_=>absurd hk (vaS _)
 | K + 1,⟨o,m,k,ks,ps,as1,ts⟩,hk,hok,f,t,u,r,hr => by
  let R:jG:=λe' f' t' u'=>if RJ e'=true/\SizeOf.sizeOf e'<K then Vr e' f' t' u' else none
  have hR:li R:=λe' f' t' u' r h=>by
   simp only[R]at h
   split at h
   ·rename_i hh;exact Od K e' hh.2 hh.1 f' t' u' r h
   ·cases h
  obtain⟨h1,h2,h3⟩:=Ph hok
  obtain⟨c1,c2,c3,c4⟩:=Tk h1
  have hRk:∀x∈ks,∀f' t' u',R x f' t' u'=Vr x f' t' u':=λx hx f' t' u'=>by
   have:=Xz (o:=o) (m:=m) (k:=k) (ps:=ps) (as1:=as1) (ts:=ts) hx
   simp only[R]
   rw[vah ⟨h2 x hx,by omega⟩]
  have hRa:∀a∈as1,∀f' t' u',R a.Body f' t' u'=Vr a.Body f' t' u':=λa ha f' t' u'=>by
   have:=Xy (o:=o) (m:=m) (k:=k) (ks:=ks) (ps:=ps) (ts:=ts) ha
   simp only[R]
   rw[vah ⟨h3 a ha,by omega⟩]
  rw[Vr]at hr
  obtain⟨m1,g1,hr⟩:=JK hr
  obtain⟨hh,g2,hr⟩:=JK hr
  obtain⟨p,g3,hr⟩:=JK hr
  obtain⟨ps',g4,hr⟩:=JK hr
  obtain⟨kk,g5,hr⟩:=JK hr
  obtain⟨aa,g6,hr⟩:=JK hr
  cases hr
  obtain⟨ks',u1⟩:=kk
  obtain⟨AE,uE⟩:=aa
  have hL8:=Zr (R:=R) (o:=o) (f:=f) (t:=t) (p1:=p.1) (p2:=p.2.1) c1 ks [] (if(o==7)=true then f else p.1) (if(o==7)=true then t else p.2.1) p.2.2.1 (ks',u1) (by simp) hRk (by simp) (by simp) g5
  have hJ2:vM R f t u o m ks.length ps.length ks ps=some (u1,hh.2.2.2,ks',ps'):=by
   unfold vM
   rw[g1,vaa,g2,vaa,g3,vaa,g4,vaa]
   have h8:lY R p.1 p.2.1 f t o ks.length p.2.2.1 0 ks=some (u1,ks'):=hL8.1
   rw[h8,vaa,nG hL8.2.symm]
   rfl
  generalize hm':hh.2.2.2=m' at hJ2
  refine C.ofSatG (m:=1000) (H:=[]) (H':=[]) rfl (by decide) Qi.1 Qi.2.1 Qi.2.2.1 rfl ((cy.sat (Q:=λe' st _=>e'=.ret/\st=aO 242 [(8,.bptr 1 0),(9,sl cS uE)] [.cells [.int .i64 o,.str m',.int .i64 k,sl ae ks',sl aj ps',sl au AE,sl ah ts] [],.cells [.int .i64 o,.str m',.int .i64 k,sl ae ks',sl aj ps',sl au AE,sl ah ts] [],.dead,.dead,.dead,.dead] [((9,0),9)]) ?_).imp λe' st hx=>?_)
  ·show cy Pg GE 1000 G7 _ (aO 242 [(0,.agg (ae ⟨o,m,k,ks,ps,as1,ts⟩)),(1,sl cS f),(2,sl cS t),(3,sl cS u)] [] [((3,0),9)]) []
   have hroot:G7=cA G7 1:=by kernel_rfl
   rw[hroot]
   refine(GP ⟨o,m,k,ks,ps,as1,ts⟩ f t u).x (x:=([],[],[],[])) rfl (by decide) rfl ?_
   have e1:Ib 1 (cA G7 1)=.seq (cA G7 6) (cA G7 7):=by kernel_rfl
   rw[e1]
   refine cy.seq (cy.copied (e:=⟨o,m,k,ks,ps,as1,ts⟩) (p:=4) (t0:=21) (t1:=22) h1 (by kernel_rfl) (by kernel_rfl) (by kernel_rfl) (by kernel_rfl) (by kernel_rfl) (by kernel_rfl) (by kernel_rfl) (by kernel_rfl) (by kernel_rfl) (by kernel_rfl) (by kernel_rfl) (by kernel_rfl) (by kernel_rfl) (by kernel_rfl) (by kernel_rfl)
    (by kernel_rfl) (by kernel_rfl) (by kernel_rfl) (by decide) (by decide) (by kernel_rfl) (by kernel_rfl) (λr=>by kernel_rfl) (λvals hl=>?_))
   show cy Pg GE 1000 (cA G7 7) _ _ _
   refine(GQ R f t u o m k ks.length ps.length as1.length ts [] [] [] [] ks ps (lS as1 vals) hR).x (x:=(u1,m',ks',ps')) hJ2 (by decide) rfl ?_
   have e2:Ib 5 (cA G7 7)=.seq (.seq (cA G7 1020) (.block 4 (.loop (cA G7 4087)))) (cA G7 511):=by kernel_rfl
   rw[e2]
   refine cy.seq (cy.seq (cy.piece (r:=()) (EC u1 f t o m' k ks' ps' as1.length ts [] [] [] [] (lS as1 vals)) rfl (by decide) rfl ?_))
   refine cy.block (cy.loopI (I:=λkk st N=>∃P A vs D u2 A',as1=P++A/\kk=A.length/\vs.length=A.length/\D.length=P.length/\YV A f t u2=some (A',uE)/\D++A'=AE/\st=P2 f t u2 o m' k ks' ps' as1.length ts P.length (D.map rX++(lS A vs).map uf) .dead/\N=vs.zip (A.map (·.Names))) ?_ (k:=as1.length) ⟨[],as1,vals,[],u1,AE,rfl,rfl,hl,rfl,g6,rfl,?_,rfl⟩)
   ·rintro _ _ _ ⟨P,A,vs,D,u2,A',has,rfl,hvl,hDP,hrn,hDA,rfl,rfl⟩
    have hcl:∀w4:List dD,E6 5 ([.cells [.int .i64 o,.str m',.int .i64 k,sl ae ks',sl aj ps',.bsl 4 0 as1.length,sl ah ts] [],.cells [.int .i64 0,.str ([]:ai),.int .i64 0,sl ae [],sl aj [],sl au [],sl ah []] [(3,28),(4,85),(5,89),(6,60)],.dead,.dead,.dead,.dead]:List aA):=λ_=>KCs.h
    have htm:∀(u2:List ai) (w4:List dD) (B5:aA),BI 5 (P2 f t u2 o m' k ks' ps' as1.length ts P.length w4 B5).tmps:=λ_ _ _=>fm 5 _ (yL (KTm.h))
    have hD:∀x∈D.map rX,x.NV.no 5:=λx hx=>by obtain⟨q,_,rfl⟩:=vag.1 hx;exact td _ _ (aH uB _)
    have hDl:(D.map rX).length=P.length:=by rw[vaO,hDP]
    have hbx:∀(w4:List dD),BI 5 (aV bp w4)->∀(i:Nat) B,(P2 f t u2 o m' k ks' ps' as1.length ts P.length w4 .dead).boxes[i]? =some B->AF 5 B:=λw4 hw i B hB=>by
     by_cases h4:i=4
     ·subst h4
      have hB:some (aA.cells (aV bp w4) [])=some B:=hB
      cases hB;exact hw
     ·exact UI (z:=5) (r:=4) (k:=0) (H:=(P2 f t u2 o m' k ks' ps' as1.length ts P.length w4 .dead).boxes) (hcl w4) (vaN _) i B (by omega) hB
    cases A with
    |nil=>
     obtain rfl:vs=[]:=vat hvl
     obtain rfl:as1=P:=by rw[has,va6]
     rw[YV]at hrn
     cases hrn
     rw[va6]at hDA
     subst hDA
     have hw:D.map rX++(lS [] []).map uf=D.map rX:=by unfold lS;simp
     rw[hw]
     refine cy.pre (N':=[]) (st':=P2 f t uE o m' k ks' ps' as1.length ts as1.length (D.map rX) (.cells (aV cS []) [])) ?_ (λE bs0 x w hb0 hRx=>hRx.open (z:=5) rfl (by rw[hb0];exact vaN _) (htm _ _ _) (hbx _ (Hg hD)))
     refine cy.body (r:=.inr (uE,D.map rX,[])) (su R f t o m' k ks' ps' as1.length ts [] [] [] [] uE (as1.length:Int) (D.map rX) [] hR) (by unfold pf;rw[van (by simp)]) (by decide) rfl (λe' st' hx=>?_)
     obtain⟨hne,rfl,rfl⟩:=hx
     refine .inr ⟨hne,?_⟩
     show cy Pg GE 1000 (cA G7 511) _ _ _
     refine cy.pre (N':=[]) (st':=aO 242 [(3,sl cS uE),(4,.bptr 0 0),(8,.bptr 1 0)] [.cells [.int .i64 o,.str m',.int .i64 k,sl ae ks',sl aj ps',.bsl 4 0 as1.length,sl ah ts] [],.cells [.int .i64 0,.str ([]:ai),.int .i64 0,sl ae [],sl aj [],sl au [],sl ah []] [(3,28),(4,85),(5,89),(6,60)],.dead,.dead,.cells (aV au D) [],.dead] [((3,0),9)]) ?_ (λE bs0 x w hb0 hRx=>by rw[<-Tv];exact hRx.close (z:=5) (by show 5<6;decide))
     exact cy.piece (r:=(D,D)) (ED uE o m' k ks' ps' as1.length ts [] [] [] [] D) (by unfold zV;rw[nG (by rw[hDP])];rfl) (by decide) rfl ⟨rfl,rfl⟩
    | cons a A =>
     obtain⟨v,vs,rfl⟩:∃v us,vs=v::us:=by
      cases vs with
      |nil=>cases hvl
      |cons v us=>exact⟨v,us,rfl⟩
     have ha:a∈as1:=by rw[has];simp
     have hlt:P.length<as1.length:=by rw[has];simp
     have hRr:∀x∈(lS A vs).map uf,x.NV.no 5:=λx hx=>by obtain⟨q,_,rfl⟩:=vag.1 hx;trivial
     have hw:D.map rX++(lS (a::A) (v::vs)).map uf=D.map rX++⟨a.Con,.val v,a.Body⟩::(lS A vs).map uf:=rfl
     rw[hw]
     rw[YV]at hrn
     obtain⟨⟨a2,u3⟩,j1,hrn⟩:=JK hrn
     obtain⟨⟨A2,u4⟩,j2,hrn⟩:=JK hrn
     cases hrn
     have hna:=c4 a ha
     have hRb:=hRa a ha
     obtain⟨ac,an,ab⟩:=a
     rw[qcG]at j1
     obtain⟨f0,i1,j1⟩:=JK j1
     obtain⟨t0,i2,j1⟩:=JK j1
     obtain⟨q,i3,j1⟩:=JK j1
     obtain⟨rb,i4,j1⟩:=JK j1
     cases j1
     refine cy.pre (N':=vs.zip (A.map (·.Names))) (st':=P2 f t u2 o m' k ks' ps' as1.length ts P.length (D.map rX++⟨ac,.bsl 5 0 an.length,ab⟩::(lS A vs).map uf) (.cells (aV cS an) [])) ?_ (λE bs0 x w hb0 hRx=>by
      have:=hRx.thaw (z:=5) (r:=4) (j:=(D.map rX).length * 9+1) (v:=v) (ns:=an) (N:=vs.zip (A.map (·.Names))) rfl (by rw[hb0];exact vaN _) (by decide) rfl (DL _ _ _) (htm _ _ _) (hbx _ (Hg λx hx=>by
       rcases vaw.1 hx with hx|hx
       ·exact hD x hx
       ·rcases vaB.1 hx with rfl|hx
        ·trivial
        ·exact hRr x hx))
      rw[uG]at this
      exact this)
     have hx4:pn as1.length (D.map rX++(⟨ac,.bsl 5 0 an.length,ab⟩:dD)::(lS A vs).map uf) (P.length:Int)=some ⟨ac,.bsl 5 0 an.length,ab⟩:=by rw[<-hDl];exact pK (by rw[hDl];exact hlt)
     obtain⟨l1,l2⟩:=Xs hx4 rfl hna an [] f0 t0 u2 q (by show 0+_=_;simp) i3
     refine cy.monoR (cy.body (r:=.inl (rb.2,((P.length+1:Nat):Int),D.map rX++⟨ac,.bsl 5 0 an.length,rb.1⟩::(lS A vs).map uf,q.1)) (su R f t o m' k ks' ps' as1.length ts [] [] [] [] u2 (P.length:Int) (D.map rX++⟨ac,.bsl 5 0 an.length,ab⟩::(lS A vs).map uf) an hR) (by
      unfold pf
      have l1:kM (P.length:Int) as1.length (D.map rX++(⟨ac,.bsl 5 0 an.length,ab⟩:dD)::(lS A vs).map uf) u2 f0 t0 0 an=some (q.2.2.2,q.2.1,q.2.2.1,q.1):=l1
      rw[vah (by simpa using hlt),i1,vaa,i2,vaa,l1,vaa,hx4]
      simp only[vaa]
      have hRb':R ab q.2.1 q.2.2.1 q.2.2.2=some rb:=(hRb _ _ _).trans i4
      rw[hRb',vaa]
      have:=mG (A:=D.map rX) (B:=(lS A vs).map uf) (x:=(⟨ac,.bsl 5 0 an.length,ab⟩:dD)) (y:=⟨ac,.bsl 5 0 an.length,rb.1⟩)
      rw[hDl]at this
      rw[this,vaa,Nv (by unfold bo at c3;omega)]) (by decide) rfl (Q:=λe' st' N'=>LQ _ _ _ (.inl (rb.2,((P.length+1:Nat):Int),D.map rX++(⟨ac,.bsl 5 0 an.length,rb.1⟩:dD)::(lS A vs).map uf,q.1)) e' st'/\N'=vs.zip (A.map (·.Names))) (λe' st' hx=>⟨hx,rfl⟩)) (λe' st' N' hx=>?_)
     obtain⟨⟨rfl,rfl⟩,rfl⟩:=hx
     refine⟨P2 f t rb.2 o m' k ks' ps' as1.length ts (P++[(⟨ac,an,ab⟩:az)]).length ((D++[(⟨ac,q.1,rb.1⟩:az)]).map rX++(lS A vs).map uf) .dead,vs.zip (A.map (·.Names)),.inl ⟨rfl,A.length,by simp,P++[(⟨ac,an,ab⟩:az)],A,vs,D++[(⟨ac,q.1,rb.1⟩:az)],rb.2,A2,by rw[has,vaL];rfl,rfl,by simpa using hvl,by simp[hDP],j2,by rw[<-hDA,vaL];rfl,rfl,rfl⟩,λE bs0 x w hb0 hRx=>?_⟩
     have:=hRx.freeze (z:=5) (r:=4) (j:=(D.map rX).length * 9+1) (ns:=q.1) rfl (by rw[hb0];exact vaN _) (by rw[hb0];decide) (by decide) rfl (by rw[l2];exact DL _ _ _) (JR hD hRr) (fm 5 _ (yL (KTm.h))) (λi B hi4 hi5 hB=>UI (z:=5) (r:=4) (k:=0) (H:=(P2 f t u2 o m' k ks' ps' as1.length ts P.length [] .dead).boxes) (hcl []) (vaN _) i B (by omega) (by
      match i with
      |0=>exact hB
      |1=>exact hB
      |2=>exact hB
      |3=>exact hB
      |4=>exact absurd rfl hi4
      |5=>exact absurd rfl hi5
      |i+6=>exact absurd (aq hB) (by show ¬i+6<6;omega)))
     rw[uG]at this
     have hw2:(D++[(⟨ac,q.1,rb.1⟩:az)]).map rX++(lS A vs).map uf=D.map rX++(⟨ac,sl cS q.1,rb.1⟩:dD)::(lS A vs).map uf:=by
      simp only[va5,vaz,vbr,vaL,va8,vaR]
      rfl
     rw[hw2]
     simp only[vam,List.length_singleton]
     exact this
   ·simp only[P2,vbr,vaR,QJ]
    rfl
  ·obtain⟨_,rfl,rfl⟩:=hx
   have hl:=aK (⟨o,m',k,ks',ps',AE,ts⟩:ag) []
   rw[va6]at hl
   subst hm'
   have hrs:f63.results.toList=[.cell 8 28,.tmp 9]:=by kernel_rfl
   refine .inl ⟨?_,⟨a8 _,aH uB _,vzz⟩,vzz,(λx hx=>?_),(λx hx y hy _=>?_)⟩
   ·have e3:∀(H2:List PVal) (x:PVal),aY Pg 28 H2=some x->yo Pg (aO 242 [(8,.bptr 1 0),(9,sl cS uE)] [.cells H2 [],.cells H2 [],.dead,.dead,.dead,.dead] [((9,0),9)]) [.cell 8 28,.tmp 9]=some (.tuple [x,sl cS uE]):=λH2 x hx=>by
     have e4:Rr Pg (aO 242 [(8,.bptr 1 0),(9,sl cS uE)] [.cells H2 [],.cells H2 [],.dead,.dead,.dead,.dead] [((9,0),9)]) (.cell 8 28)=aY Pg 28 H2:=by kernel_rfl
     have e5:Rr Pg (aO 242 [(8,.bptr 1 0),(9,sl cS uE)] [.cells H2 [],.cells H2 [],.dead,.dead,.dead,.dead] [((9,0),9)]) (.tmp 9)=some (sl cS uE):=by kernel_rfl
     rw[show ∀(st:aB) (x y:ResultVar),yo Pg st [x,y]=(Nq Pg st [x,y]).map .tuple from λ_ _ _=>rfl]
     simp only[Nq,e4,e5,hx]
     rfl
    rw[hrs]
    exact e3 _ _ hl
   ·obtain rfl:=va4.1 hx
    rw[hrs]
    exact⟨va4.2 rfl,rfl⟩
   ·rw[va4.1 hx,va4.1 hy]
def xQ(e:ag)(f t u:List ai):Option (ag×List ai):=if RJ e=true then Vr e f t u else none
theorem MT{e:ag}{f t u:List ai}:OG 63 [.agg (ae e),sl cS f,sl cS t,sl cS u] [((3,0),9)] [] (xQ e f t u) (λr=>.tuple [.agg (ae r.1),sl cS r.2]) [(1,9)] (λ_=>[]):=λr h=>by
 unfold xQ at h
 split at h
 ·rename_i hok;exact Od _ e (vb6 _) hok f t u r h
 ·cases h
set_option linter.defProp false
set_option maxRecDepth 100000
noncomputable def qfh:Code:=f16.body.getD .skip
theorem qeT:ZF Pg [] 16 f16 qfh:=zf call16 func16 rfl mixed
def xz(e:ag):Option ag:=
 (Et e).bind λr1=>
 (xQ e ([]:List ai) ([]:List ai) r1).bind λr2=>
 some r2.1
theorem Cy{e:ag}:OV 16 [.agg (ae e)] (xz e) (λr=>.agg (ae r)) []:=qeT.v<|
 tb λr1 br1=>tb λr2 br2=>te (cm e)<|tx rH<|Be [0,0,2,7,15,31,31,0,191,511]<|tv (aX e)<|tv (aX e)<|bM (Qf _ br1)<|qcJ [] [⟨3,8,0,9⟩] (MT _ br2)<|tx (dn r2.1)<|tv (aK r2.1 [])<|tx (dn r2.1)<|Ei λq=>aI (iX r2.1) q.2
noncomputable def b3:Code:=Tryz.f3.body.getD .skip
theorem Z3:ZF Pg [] 3 Tryz.f3 b3:=zf call3 func3 rfl mixed
section
variable(name:ai)(v:ai)(e:ag)
def kP:Option Bool:=
 (Br e).bind λr1=>
 if(!r1)=true then
  some true
 else if decide ((name.length:Int)>100)=true then
  some true
 else
  some (decide ((v.length:Int)>100))
theorem wr:OU 0 (cA b3 12) (kP name v e) .normal (λo=>[(19,.bool o)]) (aO 40 [(1,.str name),(2,.str v),(3,.eptr (ae e))] [.dead] []):=Z3.j<|
 tb λr1 br1=>have pp3:=λ{X Y Z} (r:PV _ X Y Z)=>tv (aX e)<|bM (OO _ br1)<|r;tf (λc2=>pp3<|tg 4 c2<|tE) λc2=>have pp5:=λ{X Y Z} (r:PV _ X Y Z)=>pp3<|tg 4 c2<|ct (qQ underlying9 name)<|r;tf (λc4=>pp5<|tg 9 c4<|tE) λc4=>pp5<|tg 9 c4<|ct (qQ underlying9 v)<|tE
end
def nB(e:ag)(name:ai)(a:ai):Option Bool:=
 (kP name a e).bind λo6=>
 if o6=true then
  Bp.bind λr8=>
  some r8
 else
  (oh e name a).bind λr9=>
  (Bj e name a).bind λr10=>
  (wa r9 r10).bind λr11=>
  if r11=true then
   (kl e).bind λr13=>
   (xz e).bind λr14=>
   (wa r13 r14).bind λr15=>
   if r15=true then
    Bp.bind λr17=>
    some r17
   else
    some false
  else
   some false
theorem Ac{e:ag}{name:ai}{a:ai}:OV 3 [.agg (ae e),.str name,.str a] (nB e name a) (λr=>.bool r) []:=Z3.v<|
 tb λo6 bo6=>te (cm e)<|jo 1<|cD (wr name a e _ bo6)<|tF (tb λr8 br8=>bM (EV _ br8)<|tE)<|tb λr9 br9=>tb λr10 br10=>tb λr11 br11=>tf (λc12=>tb λr13 br13=>tb λr14 br14=>tb λr15 br15=>tf (λc16=>tb λr17 br17=>Be [0,0,0,7,0,0,0,127,255,511,1023,2047,1023,8191,16383,32767,65535,131071,262143,524287]<|tv (aX e)<|bM (eW _ br9)<|tv (aX e)<|bM (xD _ br10)<|bM (dq _ br11)<|tg 10 c12<|tv (aX e)<|bM (pw _ br13)<|tv (aX e)<|bM (Cy _ br14)<|bM (dq _ br15)<|tg 17 c16<|bM (EV _ br17)<|tE) λc16=>Be [0,0,0,7,0,0,0,127,255,511,1023,2047,1023,8191,16383,32767,65535,131071,262143,524287]<|tv (aX e)<|bM (eW _ br9)<|tv (aX e)<|bM (xD _ br10)<|bM (dq _ br11)<|tg 10 c12<|tv (aX e)<|bM (pw _ br13)<|tv (aX e)<|bM (Cy _ br14)<|bM (dq _ br15)<|tg 17 c16<|tE) λc12=>Be [0,0,0,7,0,0,0,127,255,511,1023,2047,1023,8191,16383,32767,65535,131071,262143,524287]<|tv (aX e)<|bM (eW _ br9)<|tv (aX e)<|bM (xD _ br10)<|bM (dq _ br11)<|tg 10 c12<|tE
open Go
theorem Rz{α β X:Type}(g:α->β)(e:List β->X):∀(l:List α) (i:Nat) (s:List β),ub (λ_ x (s:List β)=>(Sum.inl (s++[g x]):List β⊕X)) e l i s=e (s++l.map g)
 |[],i,s=>by simp[ub]
 |x::l,i,s=>by
  unfold ub
  simp only
  rw[Rz g e l (i+1) (s++[g x])]
  simp
theorem WE{α β τ X:Type}(l:List α)(hl:l.length<9223372036854775808)(mk:Int->List β->τ)(body:τ->Option (τ⊕X))(g:α->β)(e:List β->X)
  (hin:∀(i:Nat) (h:i<l.length) s,s.length=i->body (mk i s)=some (.inl (mk (dp ((i:Int)+1)) (s++[g l[i]])))) (hend:∀s,body (mk l.length s)=some (.inr (e s))):loop body (mk 0 [])=some (e (l.map g)):=by
 have:=sS l hl mk body (λi s=>s.length=i) (λ_ x s=>.inl (s++[g x])) e (λi h s hs=>⟨hin i h s hs,λs' hs'=>by cases hs';simp[hs]⟩) (λs _=>hend s) 0 [] (vaN _) rfl
 rw[Rz]at this
 exact this
mutual
def nP:aw->Nat
 |⟨_,_,_,ks⟩=>nL ks+1
def nL:List aw->Nat
 |[]=>0
 |p::ps=>nP p+nL ps
end
theorem Q4(p:aw):nP p=nL p.Kids+1:=by obtain⟨o,n,k,ks⟩:=p;rw[nP];rfl
theorem WJ(p:aw):1<=nP p:=by rw[Q4];omega
theorem WI:∀{l:List aw} {x:aw},x∈l->nP x<=nL l
 | y :: l,x,h => by
  rw[nL]
  rcases vaB.1 h with rfl|h
  ·omega
  ·have:=WI h;omega
theorem PK:∀(l:List aw),l.length<=nL l
 |[]=>by simp[nL]
 |p::l=>by rw[nL];have:=PK l;have:=WJ p;simp only[vau];omega
theorem PG{p x:aw}(h:x∈p.Kids):nP x<nP p:=by rw[Q4 p];have:=WI h;omega
theorem QV(p:aw):p.Kids.length<nP p:=by rw[Q4];have:=PK p.Kids;omega
theorem NZ:∀(a b:List aw),nL (a++b)=nL a+nL b
 |[],b=>by simp[nL]
 |p::a,b=>by rw[va8,nL,NZ a b,nL];omega
mutual
theorem Zi:∀(p:aw),nP p<=fN (av p)
 |⟨o,n,k,ks⟩=>by
  have:=TL ks
  rw[nP,dX]
  simp only[fN,pm,sl]
  show nL ks+1<=1+(n.length+1+(1+(bD (ks.map av)+1+0)))
  omega
theorem TL:∀(l:List aw),nL l<=bD (l.map av)
 |[]=>by simp[nL]
 |p::l=>by
  have:=Zi p
  have:=TL l
  rw[nL]
  simp only[vaz,bD]
  omega
end
mutual
def qdQ:aw->aw->Bool
 |⟨o,n,k,ks⟩,⟨o',n',k',ks'⟩=>(o==o')&&((n==n')&&((k==k')&&qaB ks ks'))
def qaB:List aw->List aw->Bool
 |[],[]=>true
 |x::xs,y::ys=>qdQ x y&&qaB xs ys
 |_,_=>false
end
mutual
theorem To:∀(a b:aw),qdQ a b=true↔a=b
 |⟨o,n,k,ks⟩,⟨o',n',k',ks'⟩=>by
  rw[qdQ]
  have:=Tn ks ks'
  simp only[vad,vaP,this,aw.mk.injEq]
theorem Tn:∀(a b:List aw),qaB a b=true↔a=b
 |[],[]=>by simp[qaB]
 |x::xs,y::ys=>by
  rw[qaB]
  have h1:=To x y
  have h2:=Tn xs ys
  simp only[vad,h1,h2,vbN]
 |[],y::ys=>by simp[qaB]
 |x::xs,[]=>by simp[qaB]
end
instance:DecidableEq aw:=λa b=>decidable_of_iff _ (To a b)
theorem Uq(p:aw):(⟨p.Op,p.Name,p.N,p.Kids⟩:aw)=p:=by cases p;rfl
theorem Ve{a b:aw}:a=b↔a.Op=b.Op/\a.Name=b.Name/\a.N=b.N/\a.Kids=b.Kids:=by
 cases a;cases b
 simp only[aw.mk.injEq]
 rfl
theorem Ub{α:Type}[DecidableEq α]:∀{a b:List α},a.length=b.length->(a.zip b).any (λx=>decide (x.1≠x.2))= !decide (a=b)
 |[],[],_=>by simp
 |x::a,y::b,h=>by
  have ih:=Ub (a:=a) (b:=b) (by simpa using h)
  rw[List.zip_cons_cons,List.any_cons,ih]
  by_cases h1:x=y<;>by_cases h2:a=b<;>simp[h1,h2]
theorem Av{α X:Type}[DecidableEq α]{a b:List α}(hl:a.length=b.length)(ha:a.length<9223372036854775808)(body:Int->Option (Int⊕X))(y e:X)
  (hin:∀(i:Nat) (h:i<a.length) (h':i<b.length),body i=some (if decide (a[i]=b[i])=true then .inl (dp ((i:Int)+1))else .inr y)) (hend:body a.length=some (.inr e)):loop body 0=some (if decide (a=b)=true then e else y):=by
 have hz:(a.zip b).length=a.length:=by simp[hl]
 have:=WC (a.zip b) (by omega) body (λx=>decide (x.1≠x.2)) y e (λi h=>?_) (by rw[hz];exact hend) 0 (vaN _)
 ·rw[vbF,Ub hl]at this
  rw[show((0:Nat):Int)=0 from rfl]at this
  rw[this]
  by_cases h:a=b<;>simp[h]
 ·have h1:i<a.length:=by omega
  have h2:i<b.length:=by omega
  rw[hin i h1 h2]
  have hzi:(a.zip b)[i]=(a[i],b[i]):=by simp
  rw[hzi]
  by_cases h:a[i]=b[i]<;>simp[h]
abbrev d4:Nat:=1073741824
theorem mL{n:Nat}(h:n<=d4):n<X9:=by have:=qao;unfold d4 at h;omega
theorem Rx(a b:aw)(hb:nP b<=d4):Es a b=some (decide (a=b)):=by
 refine nF (F:=Ds) (λx=>nP x.2) (λx=>nP x.2<=d4) (λx=>decide (x.1=x.2)) (λR x hx ih=>?_) (a,b) hb (mL hb)
 obtain⟨u,v⟩:=x
 have hx:nP v<=d4:=hx
 show xx (λa a2=>R (a,a2)) u v=some (decide (u=v))
 unfold xx zA
 have hk:=QV v
 by_cases h1:u.Op=v.Op
 ·by_cases h2:u.Name=v.Name
  ·by_cases h3:u.N=v.N
   ·by_cases h4:u.Kids.length=v.Kids.length
    ·rw[van (by simpa using h1),van (by simpa using h2),van (by simpa using h3)]
     simp only[h4,bne_self_eq_false,vaa,if_false,vaD]
     unfold zC
     rw[<-h4,Av h4 (by unfold d4 at hx;omega) _ (.inl ()) (.inr ()) (λi g1 g2=>?_) ?_]
     ·by_cases he:u.Kids=v.Kids<;>simp[he,Ve (a:=u) (b:=v),h1,h2,h3]
     ·unfold pB
      rw[van (by simp)]
     ·unfold pB
      rw[vah (by simp;omega),bE u.Kids i g1]
      simp only[vaa]
      rw[bE v.Kids i g2]
      simp only[vaa]
      have hm:=vaC g2
      rw[ih (u.Kids[i],v.Kids[i]) (PG hm) (vbL (vaM (PG hm) hx))]
      by_cases he:u.Kids[i]=v.Kids[i]<;>simp[he]
    ·have hne:u≠v:=λe=>h4 (by rw[e])
     rw[van (by simpa using h1),van (by simpa using h2),van (by simpa using h3)]
     have hb:((u.Kids.length:Int)!=(v.Kids.length:Int))=true:=by simp;omega
     simp[hb,hne]
   ·have hne:u≠v:=λe=>h3 (by rw[e])
    rw[van (by simpa using h1),van (by simpa using h2),vah (by simpa using h3)]
    simp[hne]
  ·have hne:u≠v:=λe=>h2 (by rw[e])
   rw[van (by simpa using h1),vah (by simpa using h2)]
   simp[hne]
 ·have hne:u≠v:=λe=>h1 (by rw[e])
  rw[vah (by simpa using h1)]
  simp[hne]
theorem Yy(l:List aw)(i:Nat)(h:i<l.length):nL (l.take (i+1))=nL (l.take i)+nP l[i]:=by
 rw[vay h,NZ]
 simp[nL]
def Gp{α:Type}(o:Option α)(Q:α->Prop):Prop:=∃a,o=some a/\Q a
section
variable{α β σ τ X Y:Type}
theorem jn{a:α}{Q:α->Prop}(h:Q a):Gp (some a) Q:=⟨a,rfl,h⟩
theorem gL{o:Option α}{f:α->Option β}{R:α->Prop}{Q:β->Prop}(h:Gp o R)(h':∀a,R a->Gp (f a) Q):Gp (o.bind f) Q:=by
 obtain⟨a,rfl,h⟩:=h
 exact h' a h
theorem Gp.mono{o:Option α}{Q R:α->Prop}(h:Gp o Q)(h':∀a,Q a->R a):Gp o R:=by
 obtain⟨a,e,h⟩:=h
 exact⟨a,e,h' a h⟩
theorem Mj{F:(X->Option Y)->X->Option Y}(μ:X->Nat)(P:X->Prop)(Q:X->Y->Prop)(h:∀(R:X->Option Y) x,P x->(∀y,μ y<μ x->P y->Gp (R y) (Q y))->Gp (F R x) (Q x))(x:X)(hx:P x)(hm:μ x<X9):Gp (pl F x) (Q x):=by
 have key:∀n x,μ x<n->P x->Gp (qaY F n x) (Q x):=by
  intro n
  induction n with
  |zero=>intro x hx;omega
  |succ n ih=>intro x hx hq;exact h _ x hq λy hy hqy=>ih y (by omega) hqy
 exact key _ x hm hx
end
section
variable{α β σ τ X Y:Type}
theorem NW(l:List α)(hl:l.length<=1073741824)(mk:Int->List β->τ)(body:τ->Option (τ⊕X))(h:α->Option β)(g:α->β)(e:List β->X)
  (hb:∀(i:Int) (s:List β),body (mk i s)=if decide (i<(l.length:Int))=true then(ey l i).bind (λx=>(h x).bind λr=>(app s ([r]:List β)).bind λq=>some (.inl (mk (dp (i+1)) q)))else some (.inr (e s)))
  (hg:∀x∈l,h x=some (g x)):loop body (mk 0 [])=some (e (l.map g)):=by
 refine WE l (by omega) mk body g e (λi hi s hs=>?_) (λs=>?_)
 ·rw[hb,vah (by simp;omega),bE l i hi]
  simp only[vaa]
  rw[hg _ (vaC hi)]
  simp only[vaa]
  rw[b9 (by simp;omega)]
  rfl
 ·rw[hb,van (by simp)]
end
theorem pk{α:Type}(l:List α)(h:l.length<=1073741824):pj l=some l:=vah h
set_option linter.unusedSimpArgs false
theorem Ur(t:al):(⟨t.Op,t.Name,t.Args,t.Names,t.Pred,t.Preds⟩:al)=t:=by cases t;rfl
mutual
def Au:al->Nat
 |⟨_,_,xs,ns,_,ps⟩=>iC xs+ns.length+ps.length+1
def iC:List al->Nat
 |[]=>0
 |a::xs=>Au a+iC xs
end
theorem ry(t:al):Au t=iC t.Args+t.Names.length+t.Preds.length+1:=by obtain⟨o,n,xs,ns,p,ps⟩:=t;rw[Au];rfl
theorem Wz(t:al):1<=Au t:=by rw[ry];omega
theorem Hk:∀{l:List al} {x:al},x∈l->Au x<=iC l
 | y :: l,x,h => by
  rw[iC]
  rcases vaB.1 h with rfl|h
  ·omega
  ·have:=Hk h;omega
theorem Hj:∀(l:List al),l.length<=iC l
 |[]=>by simp[iC]
 |p::l=>by rw[iC];have:=Hj l;have:=Wz p;simp only[vau];omega
theorem VZ{t a:al}(h:a∈t.Args):Au a<Au t:=by rw[ry t];have:=Hk h;omega
theorem V0(t:al):t.Args.length<Au t:=by rw[ry];have:=Hj t.Args;omega
theorem UH(t:al):t.Names.length<Au t:=by rw[ry];omega
theorem UZ(t:al):t.Preds.length<Au t:=by rw[ry];omega
mutual
def OP(Q:aw->Prop):al->Prop
 |⟨_,_,xs,_,p,ps⟩=>Q p/\(∀q∈ps,Q q)/\H5 Q xs
def H5(Q:aw->Prop):List al->Prop
 |[]=>True
 |a::xs=>OP Q a/\H5 Q xs
end
theorem KP(Q:aw->Prop)(t:al):OP Q t↔Q t.Pred/\(∀q∈t.Preds,Q q)/\H5 Q t.Args:=by obtain⟨o,n,xs,ns,p,ps⟩:=t;rw[OP];rfl
theorem Nz(Q:aw->Prop):∀(l:List al),H5 Q l↔∀t∈l,OP Q t
 |[]=>by simp[H5]
 |a::l=>by rw[H5,Nz Q l];simp
theorem VD{Q:aw->Prop}{t a:al}(h:OP Q t)(ha:a∈t.Args):OP Q a:=(Nz Q _).1 ((KP Q t).1 h).2.2 a ha
theorem Zh(l:List aw):l.length<=bD (l.map av):=by
 have:=PK l
 have:=TL l
 omega
theorem TF(l:List ai):l.length<=bD (l.map cS):=by
 have h:=Rf (l.map cS) (λx hx=>by
  obtain⟨s,_,rfl⟩:=vag.1 hx
  simp only[cS,fN,pm];omega)
 rwa[vaO]at h
theorem AM(t:al):fN (ah t)=1+(pm (.str t.Name)+(pm (sl ah t.Args)+(pm (sl cS t.Names)+(1+(pm (.str t.Pred.Name)+(1+(pm (sl av t.Pred.Kids)+(pm (sl av t.Preds)+0)))))))):=by
 rw[dl];rfl
mutual
theorem TG:∀(t:al),Au t<=fN (ah t)
 |⟨o,n,xs,ns,p,ps⟩=>by
  have h1:=Lv xs
  have h2:=Zh ps
  have h3:=TF ns
  rw[Au,AM]
  show _<=1+(pm (.str n)+(pm (sl ah xs)+(pm (sl cS ns)+(1+(pm (.str p.Name)+(1+(pm (sl av p.Kids)+(pm (sl av ps)+0))))))))
  simp only[pm,sl]
  omega
theorem Lv:∀(l:List al),iC l<=bD (l.map ah)
 |[]=>by simp[iC]
 |a::l=>by
  have:=TG a
  have:=Lv l
  rw[iC]
  simp only[vaz,bD]
  omega
end
theorem YL(t:al):nP t.Pred<=fN (ah t):=by
 have h:=TL t.Pred.Kids
 rw[Q4,AM]
 simp only[pm,sl]
 omega
mutual
theorem Ta(B:Nat):∀(t:al),fN (ah t)<=B->OP (λp=>nP p<=B) t
 |⟨o,n,xs,ns,p,ps⟩,h=>by
  have h0:=YL ⟨o,n,xs,ns,p,ps⟩
  rw[AM]at h h0
  have h:1+(pm (.str n)+(pm (sl ah xs)+(pm (sl cS ns)+(1+(pm (.str p.Name)+(1+(pm (sl av p.Kids)+(pm (sl av ps)+0))))))))<=B:=h
  have h0:nP p<=1+(pm (.str n)+(pm (sl ah xs)+(pm (sl cS ns)+(1+(pm (.str p.Name)+(1+(pm (sl av p.Kids)+(pm (sl av ps)+0)))))))):=h0
  simp only[pm,sl]at h h0
  rw[OP]
  refine⟨by omega,λq hq=>?_,Qn B xs (by omega)⟩
  have h1:=Zi q
  have h2:=FH (vag.2 ⟨q,hq,rfl⟩:av q∈ps.map av)
  omega
theorem Qn(B:Nat):∀(l:List al),bD (l.map ah)<=B->H5 (λp=>nP p<=B) l
 |[],_=>trivial
 |a::xs,h=>by
  simp only[vaz,bD]at h
  rw[H5]
  exact⟨Ta B a (by omega),Qn B xs (by omega)⟩
end
theorem NL(e:ag):(⟨e.Op,e.Name,e.N,e.Kids,e.Params,e.Alts,e.Types⟩:ag)=e:=by obtain⟨o,n,k,ks,ps,as1,ts⟩:=e;rfl
mutual
def nE:ag->Nat
 |⟨_,_,_,ks,ps,as1,ts⟩=>qk ks+sT as1+ps.length+ts.length+1
def nA:az->Nat
 |⟨_,ns,b⟩=>ns.length+nE b+1
def qk:List ag->Nat
 |[]=>0
 |e::l=>nE e+qk l
def sT:List az->Nat
 |[]=>0
 |a::l=>nA a+sT l
end
theorem uM(e:ag):nE e=qk e.Kids+sT e.Alts+e.Params.length+e.Types.length+1:=by obtain⟨o,n,k,ks,ps,as1,ts⟩:=e;rw[nE];rfl
theorem Il(a:az):nA a=a.Names.length+nE a.Body+1:=by obtain⟨c,ns,b⟩:=a;rw[nA];rfl
theorem PJ(e:ag):1<=nE e:=by rw[uM];omega
theorem Fi:∀{l:List ag} {x:ag},x∈l->nE x<=qk l
 | y :: l,x,h => by
  rw[qk]
  rcases vaB.1 h with rfl|h
  ·omega
  ·have:=Fi h;omega
theorem uL:∀{l:List az} {x:az},x∈l->nA x<=sT l
 | y :: l,x,h => by
  rw[sT]
  rcases vaB.1 h with rfl|h
  ·omega
  ·have:=uL h;omega
theorem rB:∀(l:List ag),l.length<=qk l
 |[]=>by simp[qk]
 |p::l=>by rw[qk];have:=rB l;have:=PJ p;simp only[vau];omega
theorem rA:∀(l:List az),l.length<=sT l
 |[]=>by simp[sT]
 |p::l=>by rw[sT];have:=rA l;have:=Il p;simp only[vau];omega
theorem ye{e x:ag}(h:x∈e.Kids):nE x<nE e:=by rw[uM e];have:=Fi h;omega
theorem xY{e:ag}{x:az}(h:x∈e.Alts):nE x.Body<nE e:=by rw[uM e];have:=uL h;have:=Il x;omega
theorem NR(e:ag):e.Kids.length<nE e:=by rw[uM];have:=rB e.Kids;omega
theorem Bu(e:ag):e.Alts.length<nE e:=by rw[uM];have:=rA e.Alts;omega
theorem AH(e:ag):e.Params.length<nE e:=by rw[uM];omega
theorem SZ(e:ag):e.Types.length<nE e:=by rw[uM];omega
theorem NB{e:ag}{x:az}(h:x∈e.Alts):x.Names.length<nE e:=by rw[uM];have:=uL h;have:=Il x;omega
def d9(e:ag):List ag:=e.Kids++e.Alts.map (·.Body)
theorem Pc{e x:ag}(h:x∈d9 e):nE x<nE e:=by
 rcases vaw.1 h with h|h
 ·exact ye h
 ·obtain⟨a,ha,rfl⟩:=vag.1 h
  exact xY ha
theorem H7(e:ag):(d9 e).length<nE e:=by
 rw[uM]
 have:=rB e.Kids
 have:=rA e.Alts
 simp only[d9,vam,vaO]
 omega
theorem qcd{Q:ag->Prop}(h:∀e,(∀x∈d9 e,Q x)->Q e):∀e,Q e:=by
 have key:∀(n:Nat) (e:ag),nE e<=n->Q e:=by
  intro n
  induction n with
  |zero=>intro e he;have:=PJ e;omega
  |succ n ih=>exact λe he=>h e λx hx=>ih x (by have:=Pc hx;omega)
 exact λe=>key _ e (var _)
mutual
def gT:ag->List ag
 |⟨o,n,k,ks,ps,as1,ts⟩=>⟨o,n,k,ks,ps,as1,ts⟩::(vV ks++vU as1)
def DW:az->List ag
 |⟨_,_,b⟩=>gT b
def vV:List ag->List ag
 |[]=>[]
 |e::l=>gT e++vV l
def vU:List az->List ag
 |[]=>[]
 |a::l=>DW a++vU l
end
theorem Ir:∀(l:List ag),vV l=l.flatMap gT
 |[]=>by rw[vV];rfl
 |e::l=>by rw[vV,Ir l];rfl
theorem UJ(a:az):DW a=gT a.Body:=by obtain⟨c,ns,b⟩:=a;rw[DW];rfl
theorem Iq:∀(l:List az),vU l=(l.map (·.Body)).flatMap gT
 |[]=>by rw[vU];rfl
 |a::l=>by rw[vU,Iq l,UJ];rfl
theorem HC(e:ag):gT e=e::(d9 e).flatMap gT:=by
 obtain⟨o,n,k,ks,ps,as1,ts⟩:=e
 rw[gT,Ir,Iq,d9,vbh]
 rfl
theorem Wh{X Y:Type}{F:(X->Option Y)->X->Option Y}(μ:X->Nat)(Q:X->Prop)(s:X->Option Y)(h:∀(R:X->Option Y) x,Q x->(∀y,μ y<μ x->Q y->R y=s y)->F R x=s x)(x:X)(hx:Q x)(hm:μ x<X9):pl F x=s x:=by
 have key:∀n x,μ x<n->Q x->qaY F n x=s x:=by
  intro n
  induction n with
  |zero=>intro x hx;omega
  |succ n ih=>intro x hx hq;exact h _ x hq λy hy hqy=>ih y (by omega) hqy
 exact key _ x hm hx
def CT{α S:Type}(F:S->α->Option (Bool×S)):List α->S->Option (Bool×S)
 |[],s=>some (true,s)
 |x::l,s=>(F s x).bind λr=>match r.1 with
  |false=>some (false,r.2)
  |true=>CT F l r.2
theorem DN{α S:Type}(F:S->α->Option (Bool×S)):∀(l m:List α) (s:S),CT F (l++m) s=(CT F l s).bind λr=>match r.1 with
  |false=>some (false,r.2)
  |true=>CT F m r.2
 |[],m,s=>rfl
 | x :: l,m,s => by
  rw[va8,CT,CT]
  cases h:F s x with
  |none=>rfl
  |some r=>
   obtain⟨b,s'⟩:=r
   cases b with
   |false=>rfl
   |true=>exact DN F l m s'
theorem NM{α S:Type}{F G:S->α->Option (Bool×S)}:∀{l:List α},(∀x∈l,∀s,F s x=G s x)->∀s,CT F l s=CT G l s
 |[],_,s=>rfl
 |x::l,h,s=>by
  rw[CT,CT,h x (by simp)]
  congr 1
  funext r
  rw[NM (l:=l) λy hy=>h y (by simp[hy])]
theorem Tz{α β S:Type}(F:S->β->Option (Bool×S))(g:α->β):∀(l:List α) (s:S),CT F (l.map g) s=CT (λs x=>F s (g x)) l s
 |[],s=>rfl
 |x::l,s=>by
  rw[vaz,CT,CT]
  congr 1
  funext r
  rw[Tz F g l]
theorem QM{α β S:Type}(F:S->β->Option (Bool×S))(g:α->List β):∀(l:List α) (s:S),CT F (l.flatMap g) s=CT (λs x=>CT F (g x) s) l s
 |[],s=>rfl
 |x::l,s=>by
  rw[vbP,DN,CT]
  congr 1
  funext r
  rw[QM F g l]
theorem NN{α S:Type}{F:S->α->Option (Bool×S)}(f:S->α->S):∀(l:List α) (s:S),(∀x∈l,∀s,F s x=some (true,f s x))->CT F l s=some (true,l.foldl f s)
 |[],s,_=>rfl
 |x::l,s,h=>by
  rw[CT,h x (by simp)]
  exact NN f l _ λy hy=>h y (by simp[hy])
theorem TI{α S:Type}(l:List α)(hl:l.length<9223372036854775808)(body:Int×S->Option ((Int×S)⊕(S⊕S)))(F:S->α->Option (Bool×S))
  (hin:∀(i:Nat) (h:i<l.length) s,body ((i:Int),s)=(F s l[i]).bind λr=>match r.1 with|false=>some (.inr (.inl r.2))|true=>some (.inl (dp ((i:Int)+1),r.2)))
  (hend:∀s,body ((l.length:Int),s)=some (.inr (.inr s))) (s:S):loop body (0,s)=(CT F l s).bind λr=>match r.1 with|false=>some (.inl r.2)|true=>some (.inr r.2):=by
 have key:∀(k i:Nat) (s:S),i+k=l.length->loop body ((i:Int),s)=(CT F (l.drop i) s).bind λr=>match r.1 with|false=>some (.inl r.2)|true=>some (.inr r.2):=by
  intro k
  induction k with
  |zero=>
   intro i s hi
   have:i=l.length:=by omega
   subst this
   rw[gP,hend,vcM]
   rfl
  | succ k ih =>
   intro i s hi
   have hlt:i<l.length:=by omega
   rw[gP,hin i hlt,vbx hlt,CT]
   cases hF:F s l[i]with
   |none=>rfl
   | some r =>
    obtain⟨b,s'⟩:=r
    cases b with
    |false=>rfl
    |true=>
     have:=ih (i+1) s' (by omega)
     simp only[vaa]
     rw[bR (by omega) (by omega),show((i:Int)+1)=((i+1:Nat):Int) by omega]
     exact this
 have:=key l.length 0 s (by omega)
 exact this
theorem Y6{S:Type}{F:(ag×S->Option (Bool×S))->ag×S->Option (Bool×S)}(step:S->ag->Option (Bool×S))
  (hF:∀(R:ag×S->Option (Bool×S)) e s,nE e<=d4->F R (e,s)=(step s e).bind λr=>match r.1 with
   |false=>some (false,r.2)
   |true=>CT (λs x=>R (x,s)) (d9 e) r.2) (e:ag) (s:S) (he:nE e<=d4):pl F (e,s)=CT step (gT e) s:=by
 refine Wh (λx=>nE x.1) (λx=>nE x.1<=d4) (λx=>CT step (gT x.1) x.2) (λR x hx ih=>?_) (e,s) he (mL he)
 obtain⟨e,s⟩:=x
 show F R (e,s)=CT step (gT e) s
 rw[hF R e s hx,HC,CT]
 congr 1
 funext r
 cases r.1 with
 |false=>rfl
 |true=>
  rw[QM]
  refine NM (λx hx2 s=>?_) r.2
  have:=Pc hx2
  exact ih (x,s) this (vaH (vbL this) hx)
theorem Vk{S:Type}(W:S->ag->Option (Bool×S))(e:ag)(he:nE e<=d4)(s:S)(b1 b2:Int×S->Option ((Int×S)⊕(S⊕S))){k1 k2:S⊕S->Option (Bool×S)}
  (h1:∀(i:Nat) (h:i<e.Kids.length) s,b1 ((i:Int),s)=(W s e.Kids[i]).bind λr=>if(!r.1)=true then some (.inr (.inl r.2))else some (.inl (dp ((i:Int)+1),r.2))) (h1e:∀s,b1 ((e.Kids.length:Int),s)=some (.inr (.inr s)))
  (h2:∀(i:Nat) (h:i<e.Alts.length) s,b2 ((i:Int),s)=(W s e.Alts[i].Body).bind λr=>if(!r.1)=true then some (.inr (.inl r.2))else some (.inl (dp ((i:Int)+1),r.2))) (h2e:∀s,b2 ((e.Alts.length:Int),s)=some (.inr (.inr s)))
  (g1:∀o,k1 (.inl o)=some (false,o)) (g2:∀o,k1 (.inr o)=(loop b2 (0,o)).bind k2) (g3:∀o,k2 (.inl o)=some (false,o)) (g4:∀o,k2 (.inr o)=some (true,o)):
  (loop b1 (0,s)).bind k1=CT W (d9 e) s:=by
 have l1:=NR e
 have l2:=Bu e
 unfold d4 at he
 rw[TI e.Kids (by omega) b1 W (λi h s=>by rw[h1 i h s];congr 1;funext r;cases r.1<;>rfl) h1e s,d9,DN]
 cases h:CT W e.Kids s with
 |none=>rfl
 | some r =>
  obtain⟨b,s'⟩:=r
  cases b with
  |false=>exact g1 s'
  | true =>
   simp only[vaa]
   rw[g2,TI e.Alts (by omega) b2 (λs a=>W s a.Body) (λi h s=>by rw[h2 i h s];congr 1;funext r;cases r.1<;>rfl) h2e s',Tz]
   cases h:CT (λs a=>W s a.Body) e.Alts s' with
   |none=>rfl
   |some r=>
    obtain⟨b,s''⟩:=r
    cases b with
    |false=>exact g3 s''
    |true=>exact g4 s''
theorem cZ{σ X:Type}(n:Nat)(body:σ->Option (σ⊕X))(S:Nat->σ)(e:X)(hin:∀i,i<n->body (S i)=some (.inl (S (i+1))))(hend:body (S n)=some (.inr e)):loop body (S 0)=some e:=by
 have key:∀k i,k+i=n->loop body (S i)=some e:=by
  intro k
  induction k with
  |zero=>
   intro i hi
   have:i=n:=by omega
   subst this
   exact ki hend
  |succ k ih=>
   intro i hi
   rw[wG (hin i (by omega))]
   exact ih (i+1) (by omega)
 exact key n 0 (by omega)
theorem zn(e:ag)(s:List (ai×Bool))(he:nE e<=d4):gX e s=CT (λs x=>ew x s) (gT e) s:=by
 refine Y6 (F:=gm) (λs x=>ew x s) (λR e s he=>?_) e s he
 show eA (λe k=>R (e,k)) e s=_
 unfold eA
 congr 1
 funext r
 obtain⟨b,s'⟩:=r
 cases b with
 |false=>rfl
 | true =>
  rw[van (show ¬((!(true,s').1)=true) by simp)]
  refine Vk (λs x=>R (x,s)) e he s' (λzz=>ce (λe k=>R (e,k)) e.Kids e.Kids.length zz.1 zz.2) (λzz=>cf (λe k=>R (e,k)) e.Alts e.Alts.length zz.1 zz.2) (λi h s=>?_) (λs=>?_) (λi h s=>?_) (λs=>?_) (λ_=>rfl) (λ_=>rfl) (λ_=>rfl) (λ_=>rfl)
  ·show ce (λe k=>R (e,k)) e.Kids e.Kids.length i s=_
   unfold ce
   rw[vah (by simpa using h),bE _ _ h];rfl
  ·show ce (λe k=>R (e,k)) e.Kids e.Kids.length e.Kids.length s=_
   unfold ce
   rw[van (by simp)]
  ·show cf (λe k=>R (e,k)) e.Alts e.Alts.length i s=_
   unfold cf
   rw[vah (by simpa using h),bE _ _ h];rfl
  ·show cf (λe k=>R (e,k)) e.Alts e.Alts.length e.Alts.length s=_
   unfold cf
   rw[van (by simp)]
theorem Uh(e:ag)(he:nE e<=d4):xN e=some (d9 e):=by
 have hB:nE e<=1073741824:=he
 have l1:=H7 e
 have l2:e.Kids.length+e.Alts.length<nE e:=by simpa[d9]using l1
 unfold xN
 rw[b9 (by simp;omega)]
 show(pD e ([]++e.Kids) 0).bind _=_
 have h:=cZ e.Alts.length (λzz:(List ag)×Int=>fY e zz.1 zz.2) (λi=>(e.Kids++(e.Alts.take i).map (·.Body),(i:Int))) (d9 e) (λi hi=>?_) ?_
 ·rw[vaR]
  have h':pD e e.Kids 0=some (d9 e):=by unfold pD;simpa using h
  rw[h'];rfl
 ·show fY e _ (i:Int)=_
  unfold fY
  rw[vah (by simpa using hi),bE _ _ hi,vaa,b9 (by simp;omega),vaa,bR (by omega) (by omega),vay hi,va5,<-vaL]
  rfl
 ·show fY e _ (e.Alts.length:Int)=_
  unfold fY
  rw[van (by simp),vaG];rfl
noncomputable instance decT:DecidableEq al:=λa b=>Classical.propDecidable _
noncomputable instance decE:DecidableEq ag:=λa b=>Classical.propDecidable _
noncomputable instance decA:DecidableEq az:=λa b=>Classical.propDecidable _
noncomputable instance decQ:DecidableEq am:=λa b=>Classical.propDecidable _
theorem ZP{a b:Bool}:(if a=true then some b else some false)=some (a&&b):=by cases a<;>rfl
theorem qaZ{a b:Bool}:(if a=true then some true else some b)=some (a||b):=by cases a<;>rfl
theorem Pl{α:Type}[DecidableEq α]{a b:List α}(ha:a.length<=d4)(body:Int->Option (Int⊕(Unit⊕Unit)))
  (hin:∀(i:Nat) (h1:i<a.length) (h2:i<b.length),body (i:Int)=some (if decide (a[i]=b[i])=true then .inl (dp ((i:Int)+1))else .inr (.inl ()))) (hend:body (a.length:Int)=some (.inr (.inr ()))) {k:Unit⊕Unit->Option Bool} (g1:k (.inl ())=some false) (g2:k (.inr ())=some true):
  (if((a.length:Int)!=(b.length:Int))=true then some false else(loop body 0).bind k)=some (decide (a=b)):=by
 by_cases hl:a.length=b.length
 ·rw[van (by simp[hl]),Av hl (by unfold d4 at ha;omega) body (.inl ()) (.inr ()) hin hend]
  by_cases he:a=b
  ·simp only[he,decide_true,if_true,vaa];exact g2
  ·simp only[he,decide_false,vaD,if_false,vaa];exact g1
 ·rw[vah (by simp;omega),decide_eq_false (λhe=>hl (by rw[he]))]
theorem Oa{a b:List ai}(ha:a.length<=d4):kc a b=some (decide (a=b)):=by
 unfold kc pd
 refine Pl ha _ (λi h1 h2=>?_) ?_ rfl rfl
 ·show fj a b (i:Int)=_
  unfold fj
  rw[vah (by simpa using h1),bE a i h1]
  simp only[vaa]
  rw[bE b i h2]
  simp only[vaa]
  by_cases he:a[i]=b[i]<;>simp[he]
 ·show fj a b (a.length:Int)=_
  unfold fj
  rw[van (by simp)]
theorem Ob{R:al->al->Option Bool}{a b:List al}(ha:a.length<=d4)(h:∀x∈a,∀y∈b,R x y=some (decide (x=y))):lW R a b=some (decide (a=b)):=by
 unfold lW pe
 refine Pl ha _ (λi h1 h2=>?_) ?_ rfl rfl
 ·show fk R a b (i:Int)=_
  unfold fk
  rw[vah (by simpa using h1),bE a i h1]
  simp only[vaa]
  rw[bE b i h2]
  simp only[vaa]
  rw[h _ (vaC h1) _ (vaC h2)]
  simp only[vaa]
  by_cases he:a[i]=b[i]<;>simp[he]
 ·show fk R a b (a.length:Int)=_
  unfold fk
  rw[van (by simp)]
theorem B4{a b:al}:a=b↔a.Op=b.Op/\a.Name=b.Name/\a.Names=b.Names/\a.Pred=b.Pred/\a.Preds=b.Preds/\a.Args=b.Args:=by
 obtain⟨o,n,xs,ns,p,ps⟩:=a
 obtain⟨o',n',xs',ns',p',ps'⟩:=b
 constructor
 ·rintro h;cases h;exact⟨rfl,rfl,rfl,rfl,rfl,rfl⟩
 ·rintro⟨h1,h2,h3,h4,h5,h6⟩
  cases h1;cases h2;cases h3;cases h4;cases h5;cases h6;rfl
abbrev Ni(t:al):Prop:=Au t<=d4/\OP (λp=>nP p<=d4) t
theorem JX{t a:al}(h:Ni t)(ha:a∈t.Args):Ni a:=⟨vaH (vbL (VZ ha)) h.1,VD h.2 ha⟩
theorem Oe(a b:al)(ha:Ni a)(hb:Ni b):ll a b=some (decide (a=b)):=by
 refine nF (F:=sd) (λx=>Au x.1) (λx=>Ni x.1/\Ni x.2) (λx=>decide (x.1=x.2)) (λR x hx ih=>?_) (a,b) ⟨ha,hb⟩ (mL ha.1)
 obtain⟨u,v⟩:=x
 obtain⟨hu,hv⟩:Ni u/\Ni v:=hx
 obtain⟨q1,q2,_⟩:=(KP _ v).1 hv.2
 have l1:=V0 u
 have l2:=UH u
 have l3:=UZ u
 have l0:=hu.1
 show nn (λa a2=>R (a,a2)) u v=some (decide (u=v))
 unfold nn qe
 rw[Oa (by omega),Rx _ _ q1,Ob (R:=λa a2=>R (a,a2)) (a:=u.Args) (b:=v.Args) (by omega) (λx hx y hy=>ih (x,y) (VZ hx) ⟨JX hu hx,JX hv hy⟩)]
 simp only[vaa,qaZ]
 by_cases hl:u.Preds.length=v.Preds.length
 ·unfold qf
  rw[Av hl (by unfold d4 at l0;omega) (λzz=>eH u v zz) (.inl ()) (.inr ()) (λi h1 h2=>?_) ?_]
  ·by_cases h5:u.Preds=v.Preds
   ·simp only[h5,decide_true,if_true,vaa]
    by_cases h0:(u.Op !=v.Op||(!(u.Name==v.Name)||(!decide (u.Names=v.Names)||(!decide (u.Pred=v.Pred)||((v.Preds.length:Int)!=(v.Preds.length:Int))))))=true
    ·rw[vah h0]
     congr 1;symm
     rw[vbe,B4]
     rintro⟨e1,e2,e3,e4,_⟩
     simp[e1,e2,e3,e4]at h0
    ·rw[van h0]
     congr 1
     simp only[va3,vcZ,va0,bne_iff_ne,ne_eq,Decidable.not_not,vdb,vaP,vao]at h0
     obtain⟨e1,e2,e3,e4,_⟩:=h0
     rw[vcp]
     simp[B4 (a:=u) (b:=v),e1,e2,e3,e4,h5]
   ·simp only[h5,decide_false,vaD,if_false,vaa,ite_self]
    congr 1;symm
    rw[vbe,B4]
    rintro⟨_,_,_,_,e5,_⟩
    exact h5 e5
  ·show eH u v (u.Preds.length:Int)=_
   unfold eH
   rw[van (by simp)]
  ·show eH u v (i:Int)=_
   unfold eH
   rw[vah (by simpa using h1),bE _ i h1]
   simp only[vaa]
   rw[bE _ i h2]
   simp only[vaa]
   rw[Rx _ _ (q2 _ (vaC h2))]
   simp only[vaa]
   by_cases he:u.Preds[i]=v.Preds[i]<;>simp[he]
 ·have hx:((u.Preds.length:Int)!=(v.Preds.length:Int))=true:=by simp;omega
  rw[vah (by simp[hx])]
  congr 1;symm
  rw[vbe,B4]
  rintro⟨_,_,_,_,e5,_⟩
  exact hl (by rw[e5])
mutual
def wT:al->Nat
 |⟨_,_,xs,_,p,ps⟩=>nP p+nL ps+RM xs
def RM:List al->Nat
 |[]=>0
 |a::xs=>wT a+RM xs
end
theorem qcu(t:al):wT t=nP t.Pred+nL t.Preds+RM t.Args:=by obtain⟨o,n,xs,ns,p,ps⟩:=t;rw[wT];rfl
theorem XD(l:List al)(i:Nat)(h:i<l.length):RM (l.take (i+1))=RM (l.take i)+wT l[i]:=by
 have key:∀(a b:List al),RM (a++b)=RM a+RM b:=by
  intro a b
  induction a with
  |nil=>simp[RM]
  |cons x a ih=>rw[va8,RM,RM,ih];omega
 rw[vay h,key]
 simp[RM]
theorem Hd{α:Type}{l:List α}{i:Nat}{n most:Int}(h:i<l.length)(hm:n<=most):(if decide ((i:Int)<(l.length:Int))=true then some (decide (n<=most))else some false)=some true:=by
 rw[vah (by simp;omega),vcA hm]
theorem BA{α:Type}{l:List α}{i:Nat}{n most:Int}(h:i=l.length\/¬n<=most):(if decide ((i:Int)<(l.length:Int))=true then some (decide (n<=most))else some false)=some false:=by
 by_cases hi:i<l.length
 ·rw[vah (by simp;omega)]
  rcases h with h|h
  ·omega
  ·rw[decide_eq_false h]
 ·rw[van (by simp;omega)]
theorem B6{α:Type}(l:List α)(hl:l.length<9223372036854775808){body:Int×Int->Option ((Int×Int)⊕Int)}(most:Int)(I:Nat->Int->Prop)
  (hin:∀(i:Nat) (h:i<l.length) n,I i n->n<=most->Gp (body (n,(i:Int))) (λr=>∃n',r=.inl (n',dp ((i:Int)+1))/\I (i+1) n'))
  (hout:∀(i:Nat) n,i<=l.length->(i=l.length\/¬n<=most)->body (n,(i:Int))=some (.inr n)) (n:Int) (h0:I 0 n):Gp (loop body (n,0)) (λr=>∃i,i<=l.length/\I i r/\(i=l.length\/¬r<=most)):=by
 have key:∀k i n,k+i=l.length->I i n->Gp (loop body (n,(i:Int))) (λr=>∃i,i<=l.length/\I i r/\(i=l.length\/¬r<=most)):=by
  intro k
  induction k with
  |zero=>
   intro i n hi hI
   rw[gP,hout i n (by omega) (.inl (by omega))]
   exact jn ⟨i,by omega,hI,.inl (by omega)⟩
  | succ k ih =>
   intro i n hi hI
   by_cases hm:n<=most
   ·obtain⟨r,e,n',rfl,hI'⟩:=hin i (by omega) n hI hm
    rw[gP,e]
    simp only
    rw[bR (by omega) (by omega),show((i:Int)+1)=((i+1:Nat):Int) by omega]
    exact ih (i+1) n' (by omega) hI'
   ·rw[gP,hout i n (by omega) (.inr hm)]
    exact jn ⟨i,by omega,hI,.inr hm⟩
 exact key l.length 0 n (by omega) h0
theorem HN(a b:Nat)(hb:0<b)(ha:a<9223372036854775808):qu .i64 (a:Int) (b:Int)=some ((a / b:Nat):Int):=by
 unfold qu
 rw[van (by omega)]
 have h:((a:Int).tdiv (b:Int))=((a / b:Nat):Int):=by
  rw[vcs (by omega)];rfl
 rw[h]
 have h2:=vbQ a b
 generalize a / b=q at *
 congr 1
 exact bR (by omega) (by omega)
theorem FI(p:aw):fN (av p)=1+(p.Name.length+1+(1+(bD (p.Kids.map av)+1+0))):=by
 rw[dX];simp only[fN,pm,sl]
theorem rU{α:Type}(c:α->List PVal)(l:List α)(i:Nat)(h:i<l.length):bD ((l.take (i+1)).map c)=bD ((l.take i).map c)+fN (c l[i]):=by
 rw[vay h,va5]
 have:∀(a b:List (List PVal)),bD (a++b)=bD a+bD b:=by
  intro a
  induction a with
  |nil=>intro b;simp[bD]
  |cons x a ih=>intro b;rw[va8,bD,ih,bD];omega
 rw[this]
 simp[bD]
theorem eg{α:Type}(c:α->List PVal)(l:List α)(i:Nat):bD ((l.take i).map c)<=bD (l.map c):=by
 have:∀(l:List α) (i:Nat),bD ((l.take i).map c)<=bD (l.map c):=by
  intro l
  induction l with
  |nil=>intro i;simp
  |cons x l ih=>
   intro i
   cases i with
   |zero=>simp[bD]
   |succ i=>have:=ih i;simp only[List.take_succ_cons,vaz,bD];omega
 exact this l i
theorem nc{α:Type}(c:α->List PVal)(h:∀x,1<=fN (c x)):∀(l:List α),l.length<=bD (l.map c)
 |[]=>by simp
 |x::l=>by have:=nc c h l;have:=h x;simp only[vaz,bD,vau];omega
theorem Xg(p:aw):1<=fN (av p):=by rw[FI];omega
theorem Q3(l:List aw):nL (l.take l.length)=nL l:=by rw[vaG]
abbrev Gn:Nat:=4000000
structure qbY(l:List aw)(most r:Int):Prop where
 lo:0<=r
 hi:r<=(bD (l.map av):Int)
 sm:r<=most->(nL l:Int)<=r
theorem YN(l:List aw)(most:Int)(hl:bD (l.map av)<=Gn)(h1: -8000000<=most)(h2:most<=1000000000):Gp (GN l most) (qbY l most):=by
 refine Mj (F:=zT) (λx=>bD (x.1.map av)) (λx=>bD (x.1.map av)<=Gn/\-8000000<=x.2/\x.2<=1000000000) (λx r=>qbY x.1 x.2 r) (λR x hx ih=>?_) (l,most) ⟨hl,h1,h2⟩ (mL (vaH hl (by decide)))
 obtain⟨l,most⟩:=x
 obtain⟨hl,h1,h2⟩:=hx
 have hl:bD (l.map av)<=Gn:=hl
 have h1: -8000000<=most:=h1
 have h2:most<=1000000000:=h2
 have hlen:=nc av Xg l
 show Gp (ut (λa most=>R (a,most)) l most) _
 unfold ut EA
 unfold Gn at hl
 refine gL (B6 l (by omega) most (λi n=>0<=n/\n<=(bD ((l.take i).map av):Int)/\(n<=most->(nL (l.take i):Int)<=n)) (λi hi n hI hm=>?_) (λi n _ h=>?_) 0 ⟨by omega,by omega,λ_=>by simp[nL]⟩) (λr hr=>jn ?_)
 ·obtain⟨g1,g2,g3⟩:=hI
  have e:=rU av l i hi
  have e2:=eg av l (i+1)
  have ep:=FI l[i]
  have en:=Yy l i hi
  have enp:=Q4 l[i]
  show Gp (iN (λa most=>R (a,most)) l most n i) _
  unfold iN rf
  rw[Hd hi hm,bE l i hi]
  simp only[vaa,if_true]
  have hq:=vbQ l[i].Name.length 50
  rw[show(50:Int)=((50:Nat):Int)from rfl,HN _ 50 (by omega) (by omega)]
  simp only[vaa]
  rw[bR (n:=n+1) (by omega) (by omega),bR (n:=n+1+_) (by omega) (by omega),bR (n:=most - _) (by omega) (by omega)]
  refine gL (ih (l[i].Kids,most - (n+1+((l[i].Name.length / 50:Nat):Int))) (by show _<bD (l.map av);show bD (l[i].Kids.map av)<_;omega) ⟨by show bD (l[i].Kids.map av)<=Gn;unfold Gn;omega,by show -8000000<=most - _;omega,by show most - _<=1000000000;omega⟩) (λr hr=>?_)
  have q1:=hr.lo
  have q2:r<=(bD (l[i].Kids.map av):Int):=hr.hi
  have q3:r<=most - (n+1+((l[i].Name.length / 50:Nat):Int))->(nL l[i].Kids:Int)<=r:=hr.sm
  rw[bR (n:=n+1+_+r) (by omega) (by omega)]
  refine jn ⟨_,rfl,by omega,by omega,λhm'=>?_⟩
  have:=q3 (by omega)
  have:=g3 hm
  omega
 ·show iN (λa most=>R (a,most)) l most n i=_
  unfold iN rf
  rw[BA h]
  rfl
 ·obtain⟨i,hi,⟨g1,g2,g3⟩,h⟩:=hr
  have e2:=eg av l i
  refine⟨g1,by show r<=(bD (l.map av):Int);omega,λhm=>?_⟩
  have hm:r<=most:=hm
  have:i=l.length:=by
   rcases h with h|h
   ·exact h
   ·exact absurd hm h
  subst this
  rw[Q3]at g3
  exact g3 hm
theorem Sw(l:List al)(i:Nat)(h:i<l.length):iC (l.take (i+1))=iC (l.take i)+Au l[i]:=by
 have ap:∀(a b:List al),iC (a++b)=iC a+iC b:=by
  intro a
  induction a with
  |nil=>intro b;simp[iC]
  |cons x a ih=>intro b;rw[va8,iC,ih,iC];omega
 rw[vay h,ap]
 simp[iC]
theorem Ri(t:al):1<=fN (ah t):=by rw[AM];omega
theorem UU(t:al):fN (ah t)=1+(t.Name.length+1)+(bD (t.Args.map ah)+1)+(bD (t.Names.map cS)+1)+fN (av t.Pred)+(bD (t.Preds.map av)+1):=by
 rw[AM,FI];simp only[pm,sl];omega
structure qbZ(l:List al)(most r:Int):Prop where
 lo:0<=r
 hi:r<=(bD (l.map ah):Int)
 sm:r<=most->(iC l:Int)<=r/\(RM l:Int)<=r
theorem Ua(l:List al)(most:Int)(hl:bD (l.map ah)<=Gn)(h1: -8000000<=most)(h2:most<=1000000000):Gp (Bn l most) (qbZ l most):=by
 refine Mj (F:=zY) (λx=>bD (x.1.map ah)) (λx=>bD (x.1.map ah)<=Gn/\-8000000<=x.2/\x.2<=1000000000) (λx r=>qbZ x.1 x.2 r) (λR x hx ih=>?_) (l,most) ⟨hl,h1,h2⟩ (mL (vaH hl (by decide)))
 obtain⟨l,most⟩:=x
 obtain⟨hl,h1,h2⟩:=hx
 have hl:bD (l.map ah)<=Gn:=hl
 have h1: -8000000<=most:=h1
 have h2:most<=1000000000:=h2
 have hlen:=nc ah Ri l
 show Gp (uw (λa most=>R (a,most)) l most) _
 unfold uw EO
 unfold Gn at hl
 refine gL (B6 l (by omega) most (λi n=>0<=n/\n<=(bD ((l.take i).map ah):Int)/\(n<=most->(iC (l.take i):Int)<=n/\(RM (l.take i):Int)<=n)) (λi hi n hI hm=>?_) (λi n _ h=>?_) 0 ⟨by omega,by omega,λ_=>by simp[iC,RM]⟩) (λr hr=>jn ?_)
 ·obtain⟨g1,g2,g3⟩:=hI
  have e:=rU ah l i hi
  have e2:=eg ah l (i+1)
  have ep:=UU l[i]
  have epp:=FI l[i].Pred
  have en:=Sw l i hi
  have en2:=XD l i hi
  have enp:=ry l[i]
  have enp2:=qcu l[i]
  have hns:=TF l[i].Names
  have hps:=Zh l[i].Preds
  have hpl:=PK l[i].Preds
  show Gp (iO (λa most=>R (a,most)) l most n i) _
  unfold iO rh
  rw[Hd hi hm,bE l i hi]
  simp only[vaa,if_true]
  have hq:=vbQ l[i].Name.length 50
  rw[show(50:Int)=((50:Nat):Int)from rfl,HN _ 50 (by omega) (by omega)]
  simp only[vaa]
  rw[b9 (by simp;omega)]
  simp only[vaa]
  refine gL (YN ([l[i].Pred]++l[i].Preds) most (by unfold Gn;simp only[List.singleton_append,vaz,bD];omega) h1 h2) (λrp hp=>?_)
  have p1:=hp.lo
  have p2:rp<=((fN (av l[i].Pred)+bD (l[i].Preds.map av):Nat):Int):=by
   have:=hp.hi
   simp only[List.singleton_append,vaz,bD]at this
   exact this
  have p3:rp<=most->((nP l[i].Pred+nL l[i].Preds:Nat):Int)<=rp:=by
   have:=hp.sm
   simp only[List.singleton_append,nL]at this
   exact this
  rw[bR (n:=n+1) (by omega) (by omega),bR (n:=n+1+_) (by omega) (by omega),bR (n:=n+1+_+_) (by omega) (by omega),bR (n:=n+1+_+_+_) (by omega) (by omega),bR (n:=most - _) (by omega) (by omega)]
  refine gL (ih (l[i].Args,most - (n+1+((l[i].Name.length / 50:Nat):Int)+(l[i].Names.length:Int)+rp)) (by show _<bD (l.map ah);show bD (l[i].Args.map ah)<_;omega) ⟨by show bD (l[i].Args.map ah)<=Gn;unfold Gn;omega,by show -8000000<=most - _;omega,by show most - _<=1000000000;omega⟩) (λr hr=>?_)
  have q1:=hr.lo
  have q2:r<=(bD (l[i].Args.map ah):Int):=hr.hi
  have q3:r<=most - (n+1+((l[i].Name.length / 50:Nat):Int)+(l[i].Names.length:Int)+rp)->(iC l[i].Args:Int)<=r/\(RM l[i].Args:Int)<=r:=hr.sm
  rw[bR (n:=_+r) (by omega) (by omega)]
  refine jn ⟨_,rfl,by omega,by omega,λhm'=>?_⟩
  have:=q3 (by omega)
  have:=p3 (by omega)
  have:=g3 hm
  have:=WJ l[i].Pred
  omega
 ·show iO (λa most=>R (a,most)) l most n i=_
  unfold iO rh
  rw[BA h]
  rfl
 ·obtain⟨i,hi,⟨g1,g2,g3⟩,h⟩:=hr
  have e2:=eg ah l i
  refine⟨g1,by show r<=(bD (l.map ah):Int);omega,λhm=>?_⟩
  have hm:r<=most:=hm
  have:i=l.length:=by
   rcases h with h|h
   ·exact h
   ·exact absurd hm h
  subst this
  rw[vaG]at g3
  exact g3 hm
theorem jV(e:ag):fN (ae e)=1+(e.Name.length+1+(1+(bD (e.Kids.map ae)+1+(bD (e.Params.map aj)+1+(bD (e.Alts.map au)+1+(bD (e.Types.map ah)+1+0)))))):=by
 rw[bz];simp only[fN,pm,sl]
theorem uS(a:az):fN (au a)=a.Con.length+1+(bD (a.Names.map cS)+1+fN (ae a.Body)):=by
 obtain⟨c,ns,b⟩:=a
 rw[au]
 show fN (PVal.str c::sl cS ns::ae b)=_
 simp only[fN,pm,sl];rfl
theorem pq(p:am):fN (aj p)=p.Name.length+1+fN (ah p.Type_):=by
 show fN (PVal.str p.Name::ah p.Type_)=_
 simp only[fN,pm]
theorem Xf(e:ag):1<=fN (ae e):=by rw[jV];omega
theorem YI(a:az):1<=fN (au a):=by rw[uS];omega
theorem N8(p:am):1<=fN (aj p):=by rw[pq];omega
theorem JZ{α:Type}(c:α->List PVal){l:List α}{x:α}(h:x∈l):fN (c x)<=bD (l.map c):=FH (vag.2 ⟨x,h,rfl⟩)
theorem SJ{e x:ag}(h:x∈e.Kids):fN (ae x)<fN (ae e):=by have:=JZ ae h;rw[jV e];omega
theorem Xe{e:ag}{a:az}(h:a∈e.Alts):fN (au a)<fN (ae e):=by have:=JZ au h;rw[jV e];omega
theorem LZ{e:ag}{a:az}(h:a∈e.Alts):fN (ae a.Body)<fN (ae e):=by have:=Xe h;have:=uS a;omega
theorem Rh{e:ag}{p:am}(h:p∈e.Params):fN (aj p)<fN (ae e):=by have:=JZ aj h;rw[jV e];omega
theorem YM{e:ag}{t:al}(h:t∈e.Types):fN (ah t)<fN (ae e):=by have:=JZ ah h;rw[jV e];omega
theorem YJ{e x:ag}(h:x∈d9 e):fN (ae x)<fN (ae e):=by
 rcases vaw.1 h with h|h
 ·exact SJ h
 ·obtain⟨a,ha,rfl⟩:=vag.1 h
  exact LZ ha
theorem YK{e x:ag}(h:x∈gT e):fN (ae x)<=fN (ae e):=by
 revert x
 refine qcd (Q:=λe=>∀{x},x∈gT e->fN (ae x)<=fN (ae e)) (λe ih x h=>?_) e
 rw[HC]at h
 rcases vaB.1 h with rfl|h
 ·exact var _
 ·obtain⟨y,hy,hx⟩:=List.mem_flatMap.1 h
  have:=ih y hy hx
  have:=YJ hy
  omega
mutual
theorem TK:∀(e:ag),nE e<=fN (ae e)
 |⟨o,n,k,ks,ps,as1,ts⟩=>by
  have h1:=WH ks
  have h2:=WG as1
  have h3:=nc aj N8 ps
  have h4:=nc ah Ri ts
  rw[nE,jV]
  show _<=1+(n.length+1+(1+(bD (ks.map ae)+1+(bD (ps.map aj)+1+(bD (as1.map au)+1+(bD (ts.map ah)+1+0))))))
  omega
theorem qci:∀(a:az),nA a<=fN (au a)
 |⟨c,ns,b⟩=>by
  have h1:=TK b
  have h2:=TF ns
  rw[nA,uS]
  show _<=c.length+1+(bD (ns.map cS)+1+fN (ae b))
  omega
theorem WH:∀(l:List ag),qk l<=bD (l.map ae)
 |[]=>by simp[qk]
 |e::l=>by
  have:=TK e
  have:=WH l
  rw[qk]
  simp only[vaz,bD]
  omega
theorem WG:∀(l:List az),sT l<=bD (l.map au)
 |[]=>by simp[sT]
 |a::l=>by
  have:=qci a
  have:=WG l
  rw[sT]
  simp only[vaz,bD]
  omega
end
theorem WX{t:al}(h:fN (ah t)<=d4):Ni t:=⟨vaH (TG t) h,Ta d4 t h⟩
theorem YA(l:List ai)(most:Int)(hl:bD (l.map cS)<=Gn):Gp (Bm l most) (λr=>0<=r/\r<=(bD (l.map cS):Int)):=by
 unfold Bm Ez
 unfold Gn at hl
 have hlen:=TF l
 refine gL (B6 l (by omega) most (λi n=>0<=n/\n<=(bD ((l.take i).map cS):Int)) (λi hi n hI hm=>?_) (λi n _ h=>?_) 0 ⟨by omega,by omega⟩) (λr hr=>jn ?_)
 ·obtain⟨g1,g2⟩:=hI
  have e:=rU cS l i hi
  have e2:=eg cS l (i+1)
  have e3:fN (cS l[i])=l[i].length+1:=by simp only[cS,fN,pm]
  show Gp (iM l most n i) _
  unfold iM ra
  rw[Hd hi hm,bE l i hi]
  simp only[vaa,if_true]
  have hq:=vbQ l[i].length 50
  rw[show(50:Int)=((50:Nat):Int)from rfl,HN _ 50 (by omega) (by omega)]
  simp only[vaa]
  rw[bR (n:=n+1) (by omega) (by omega),bR (n:=n+1+_) (by omega) (by omega)]
  exact jn ⟨_,rfl,by omega,by omega⟩
 ·show iM l most n i=_
  unfold iM ra
  rw[BA h]
  rfl
 ·obtain⟨i,hi,⟨g1,g2⟩,h⟩:=hr
  have e2:=eg cS l i
  exact⟨g1,by omega⟩
theorem qbV(e:ag)(most:Int)(he:fN (ae e)<=Gn)(h1: -4000000<=most)(h2:most<=1000000000):Gp (Ke e most) (λr=>0<=r/\r<=(fN (ae e):Int)):=by
 refine Mj (F:=Dt) (λx=>fN (ae x.1)) (λx=>fN (ae x.1)<=Gn/\-4000000<=x.2/\x.2<=1000000000) (λx r=>0<=r/\r<=(fN (ae x.1):Int)) (λR x hx ih=>?_) (e,most) ⟨he,h1,h2⟩ (mL (vaH he (by decide)))
 obtain⟨e,most⟩:=x
 obtain⟨he,h1,h2⟩:=hx
 have he:fN (ae e)<=Gn:=he
 have h1: -4000000<=most:=h1
 have h2:most<=1000000000:=h2
 have hpm:=jV e
 have l1:=nc aj N8 e.Params
 have l2:=nc ae Xf e.Kids
 have l3:=nc au YI e.Alts
 show Gp (xy (λe most=>R (e,most)) e most) (λr=>0<=r/\r<=(fN (ae e):Int))
 unfold xy
 unfold Gn at he
 have hq:=vbQ e.Name.length 50
 rw[show(50:Int)=((50:Nat):Int)from rfl,HN _ 50 (by omega) (by omega)]
 simp only[vaa]
 refine gL (Ua e.Types most (by unfold Gn;omega) (by omega) h2) (λrt ht=>?_)
 have t1:=ht.lo
 have t2:=ht.hi
 rw[bR (n:=1+_) (by omega) (by omega),bR (n:=1+_+rt) (by omega) (by omega)]
 generalize hb:(1:Int)+((e.Name.length / 50:Nat):Int)+rt=b0
 have b1:0<=b0:=by omega
 have b2:b0<=((1+e.Name.length+bD (e.Types.map ah):Nat):Int):=by omega
 refine gL (R:=λr=>0<=r/\r<=b0+(bD (e.Params.map aj):Int)) ?_ (λr1 hr1=>?_)
 ·unfold H1
  refine(B6 e.Params (by omega) most (λi n=>0<=n/\n<=b0+(bD ((e.Params.take i).map aj):Int)) (λi hi n hI hm=>?_) (λi n _ h=>?_) b0 ⟨b1,by simp[bD]⟩).mono (λr hr=>?_)
  ·obtain⟨g1,g2⟩:=hI
   have e1:=rU aj e.Params i hi
   have e2:=eg aj e.Params (i+1)
   have e3:=pq e.Params[i]
   show Gp (j9 most e n i) _
   unfold j9 uj
   rw[Hd hi hm,bE e.Params i hi]
   simp only[vaa,if_true]
   have hq:=vbQ e.Params[i].Name.length 50
   rw[show(50:Int)=((50:Nat):Int)from rfl,HN _ 50 (by omega) (by omega)]
   simp only[vaa]
   refine gL (Ua [e.Params[i].Type_] most (by unfold Gn;simp only[vaz,vbr,bD];omega) (by omega) h2) (λrp hp=>?_)
   have p1:=hp.lo
   have p2:rp<=((fN (ah e.Params[i].Type_)+0:Nat):Int):=by
    have:=hp.hi
    simp only[vaz,vbr,bD]at this
    exact this
   rw[bR (n:=n+1) (by omega) (by omega),bR (n:=n+1+_) (by omega) (by omega),bR (n:=n+1+_+_) (by omega) (by omega)]
   exact jn ⟨_,rfl,by omega,by omega⟩
  ·show j9 most e n i=_
   unfold j9 uj
   rw[BA h]
   rfl
  ·obtain⟨i,hi,⟨g1,g2⟩,h⟩:=hr
   have e2:=eg aj e.Params i
   exact⟨g1,by omega⟩
 obtain⟨c1,c2⟩:=hr1
 refine gL (R:=λr=>0<=r/\r<=r1+(bD (e.Kids.map ae):Int)) ?_ (λr2 hr2=>?_)
 ·unfold H3
  refine(B6 e.Kids (by omega) most (λi n=>0<=n/\n<=r1+(bD ((e.Kids.take i).map ae):Int)) (λi hi n hI hm=>?_) (λi n _ h=>?_) r1 ⟨c1,by simp[bD]⟩).mono (λr hr=>?_)
  ·obtain⟨g1,g2⟩:=hI
   have e1:=rU ae e.Kids i hi
   have e2:=eg ae e.Kids (i+1)
   have hk:=SJ (vaC hi)
   show Gp (ka (λe most=>R (e,most)) most e n i) _
   unfold ka uk
   rw[Hd hi hm,bE e.Kids i hi]
   simp only[vaa,if_true]
   rw[bR (n:=most - n) (by omega) (by omega)]
   refine gL (ih (e.Kids[i],most - n) hk ⟨by show fN (ae e.Kids[i])<=Gn;unfold Gn;omega,by show -4000000<=most - n;omega,by show most - n<=1000000000;omega⟩) (λr hr=>?_)
   have q1:0<=r:=hr.1
   have q2:r<=(fN (ae e.Kids[i]):Int):=hr.2
   rw[bR (n:=n+r) (by omega) (by omega)]
   exact jn ⟨_,rfl,by omega,by omega⟩
  ·show ka (λe most=>R (e,most)) most e n i=_
   unfold ka uk
   rw[BA h]
   rfl
  ·obtain⟨i,hi,⟨g1,g2⟩,h⟩:=hr
   have e2:=eg ae e.Kids i
   exact⟨g1,by omega⟩
 obtain⟨d1,d2⟩:=hr2
 refine gL (R:=λr=>0<=r/\r<=r2+(bD (e.Alts.map au):Int)) ?_ (λr3 hr3=>jn ⟨hr3.1,by have:=hr3.2;omega⟩)
 unfold H4
 refine(B6 e.Alts (by omega) most (λi n=>0<=n/\n<=r2+(bD ((e.Alts.take i).map au):Int)) (λi hi n hI hm=>?_) (λi n _ h=>?_) r2 ⟨d1,by simp[bD]⟩).mono (λr hr=>?_)
 ·obtain⟨g1,g2⟩:=hI
  have e1:=rU au e.Alts i hi
  have e2:=eg au e.Alts (i+1)
  have e3:=uS e.Alts[i]
  have hk:=LZ (vaC hi)
  show Gp (kb (λe most=>R (e,most)) most e n i) _
  unfold kb ul
  rw[Hd hi hm,bE e.Alts i hi]
  simp only[vaa,if_true]
  have hq:=vbQ e.Alts[i].Con.length 50
  rw[show(50:Int)=((50:Nat):Int)from rfl,HN _ 50 (by omega) (by omega)]
  simp only[vaa]
  refine gL (YA e.Alts[i].Names most (by unfold Gn;omega)) (λrn hn=>?_)
  obtain⟨n1,n2⟩:=hn
  rw[bR (n:=n+1) (by omega) (by omega),bR (n:=n+1+_) (by omega) (by omega),bR (n:=n+1+_+_) (by omega) (by omega),bR (n:=most - _) (by omega) (by omega)]
  refine gL (ih (e.Alts[i].Body,most - (n+1+((e.Alts[i].Con.length / 50:Nat):Int)+rn)) hk ⟨by show fN (ae e.Alts[i].Body)<=Gn;unfold Gn;omega,by show -4000000<=most - _;omega,by show most - _<=1000000000;omega⟩) (λr hr=>?_)
  have q1:0<=r:=hr.1
  have q2:r<=(fN (ae e.Alts[i].Body):Int):=hr.2
  rw[bR (n:=_+r) (by omega) (by omega)]
  exact jn ⟨_,rfl,by omega,by omega⟩
 ·show kb (λe most=>R (e,most)) most e n i=_
  unfold kb ul
  rw[BA h]
  rfl
 ·obtain⟨i,hi,⟨g1,g2⟩,h⟩:=hr
  have e2:=eg au e.Alts i
  exact⟨g1,by omega⟩
theorem Va(e:ag)(he:fN (ae e)<=Gn):Gp (Br e) (λ_=>True):=by
 unfold Br
 exact gL (qbV e 600 he (by omega) (by omega)) (λr _=>jn vzz)
theorem SX{a b:am}:a=b↔a.Name=b.Name/\a.Type_=b.Type_:=by
 obtain⟨n,t⟩:=a
 obtain⟨n',t'⟩:=b
 constructor
 ·rintro h;cases h;exact⟨rfl,rfl⟩
 ·rintro⟨h1,h2⟩;cases h1;cases h2;rfl
theorem XA{a b:az}:a=b↔a.Con=b.Con/\a.Names=b.Names/\a.Body=b.Body:=by
 obtain⟨n,t,e⟩:=a
 obtain⟨n',t',e'⟩:=b
 constructor
 ·rintro h;cases h;exact⟨rfl,rfl,rfl⟩
 ·rintro⟨h1,h2,h3⟩;cases h1;cases h2;cases h3;rfl
theorem rV{a b:ag}:a=b↔a.Op=b.Op/\a.Name=b.Name/\a.N=b.N/\a.Kids=b.Kids/\a.Types=b.Types/\a.Params=b.Params/\a.Alts=b.Alts:=by
 obtain⟨o,n,k,ks,ps,as1,ts⟩:=a
 obtain⟨o',n',k',ks',ps',as1',ts'⟩:=b
 constructor
 ·rintro h;cases h;exact⟨rfl,rfl,rfl,rfl,rfl,rfl,rfl⟩
 ·rintro⟨h1,h2,h3,h4,h5,h6,h7⟩;cases h1;cases h2;cases h3;cases h4;cases h5;cases h6;cases h7;rfl
abbrev Ca(e:ag):Prop:=fN (ae e)<=d4
theorem C8{e:ag}(h:Ca e):nE e<=d4:=vaH (TK e) h
theorem JW{e x:ag}(h:Ca e)(hx:x∈e.Kids):Ca x:=vaH (vbL (SJ hx)) h
theorem BK{e:ag}{a:az}(h:Ca e)(hx:a∈e.Alts):Ca a.Body:=vaH (vbL (LZ hx)) h
theorem WW{e x:ag}(h:Ca e)(hx:x∈gT e):Ca x:=vaH (YK hx) h
theorem LK{e:ag}{t:al}(h:Ca e)(hx:t∈e.Types):Ni t:=WX (vaH (vbL (YM hx)) h)
theorem BL{e:ag}{p:am}(h:Ca e)(hx:p∈e.Params):Ni p.Type_:=WX (by have:=Rh hx;have:=pq p;have:fN (ae e)<=d4:=h;omega)
theorem WV{e:ag}{a:az}(h:Ca e)(hx:a∈e.Alts):a.Names.length<=d4:=vaH (vbL (NB hx)) (C8 h)
theorem SQ{a b:List am}(ha:a.length<=d4)(h:∀x∈a,Ni x.Type_)(h':∀x∈b,Ni x.Type_):nv a b=some (decide (a=b)):=by
 unfold nv ny
 refine Pl ha _ (λi h1 h2=>?_) ?_ rfl rfl
 ·show eP a b (i:Int)=_
  unfold eP nx
  rw[vah (by simpa using h1),bE a i h1]
  simp only[vaa]
  rw[bE b i h2]
  simp only[vaa]
  rw[Oe _ _ (h _ (vaC h1)) (h' _ (vaC h2))]
  simp only[vaa,qaZ]
  have he:=SX (a:=a[i]) (b:=b[i])
  by_cases e1:a[i].Name=b[i].Name<;>by_cases e2:a[i].Type_=b[i].Type_<;>simp[he,e1,e2]
 ·show eP a b (a.length:Int)=_
  unfold eP
  rw[van (by simp)]
theorem Ro(a b:ag)(ha:Ca a)(hb:Ca b):wa a b=some (decide (a=b)):=by
 refine nF (F:=Dv) (λx=>nE x.1) (λx=>Ca x.1/\Ca x.2) (λx=>decide (x.1=x.2)) (λR x hx ih=>?_) (a,b) ⟨ha,hb⟩ (mL (C8 ha))
 obtain⟨u,v⟩:=x
 obtain⟨hu,hv⟩:Ca u/\Ca v:=hx
 have l0:=C8 hu
 have l1:=NR u
 have l2:=Bu u
 have l3:=AH u
 have l4:=SZ u
 show xC (λa a2=>R (a,a2)) u v=some (decide (u=v))
 unfold xC zG zH
 rw[SQ (by omega) (λx hx=>BL hu hx) (λx hx=>BL hv hx),Ob (R:=ll) (a:=u.Types) (b:=v.Types) (by omega) (λx hx y hy=>Oe x y (LK hu hx) (LK hv hy))]
 simp only[vaa,qaZ]
 by_cases h0:(u.Op !=v.Op||(!(u.Name==v.Name)||(u.N !=v.N||(!decide (u.Params=v.Params)||!decide (u.Types=v.Types)))))=true
 ·rw[vah h0]
  congr 1;symm
  rw[vbe,rV]
  rintro⟨e1,e2,e3,e4,e5,e6,e7⟩
  simp[e1,e2,e3,e5,e6]at h0
 ·rw [van h0]
  simp only[va3,vcZ,va0,bne_iff_ne,ne_eq,Decidable.not_not,vdb,vaP,vao]at h0
  obtain⟨e1,e2,e3,e6,e5⟩:=h0
  by_cases hk:u.Kids.length=v.Kids.length
  ·by_cases hal:u.Alts.length=v.Alts.length
   ·rw [van (by simp [hk,hal])]
    unfold zJ
    rw[Av hk (by unfold d4 at l0;omega) (λzz=>ie (λa a2=>R (a,a2)) u v zz) (.inl ()) (.inr ()) (λi h1 h2=>?_) ?_]
    ·by_cases e4:u.Kids=v.Kids
     ·simp only[e4,decide_true,if_true,vaa]
      unfold zL
      rw[Av hal (by unfold d4 at l0;omega) (λzz=>ig (λa a2=>R (a,a2)) u v zz) (.inl ()) (.inr ()) (λi h1 h2=>?_) ?_]
      ·by_cases e7:u.Alts=v.Alts
       ·simp[e7,rV (a:=u) (b:=v),e1,e2,e3,e4,e5,e6]
       ·simp[e7,rV (a:=u) (b:=v)]
      ·show ig (λa a2=>R (a,a2)) u v (u.Alts.length:Int)=_
       unfold ig
       rw[van (by simp)]
      ·show ig (λa a2=>R (a,a2)) u v (i:Int)=_
       unfold ig
       rw[vah (by simpa using h1),bE _ i h1]
       simp only[vaa]
       rw[bE _ i h2]
       simp only[vaa,NL]
       unfold zI
       rw[Oa (WV hu (vaC h1))]
       have hih:=ih (u.Alts[i].Body,v.Alts[i].Body) (xY (vaC h1)) ⟨BK hu (vaC h1),BK hv (vaC h2)⟩
       simp only[NL,vaa,hih,qaZ]
       have he:=XA (a:=u.Alts[i]) (b:=v.Alts[i])
       by_cases f1:u.Alts[i].Con=v.Alts[i].Con<;>by_cases f2:u.Alts[i].Names=v.Alts[i].Names<;>by_cases f3:u.Alts[i].Body=v.Alts[i].Body<;>simp[he,f1,f2,f3]
     ·simp[e4,rV (a:=u) (b:=v)]
    ·show ie (λa a2=>R (a,a2)) u v (u.Kids.length:Int)=_
     unfold ie
     rw[van (by simp)]
    ·show ie (λa a2=>R (a,a2)) u v (i:Int)=_
     unfold ie
     rw[vah (by simpa using h1),bE _ i h1]
     simp only[vaa]
     rw[bE _ i h2]
     simp only[vaa]
     rw[ih (u.Kids[i],v.Kids[i]) (ye (vaC h1)) ⟨JW hu (vaC h1),JW hv (vaC h2)⟩]
     simp only[vaa]
     by_cases he:u.Kids[i]=v.Kids[i]<;>simp[he]
   ·have hx:((u.Alts.length:Int)!=(v.Alts.length:Int))=true:=by simp;omega
    rw[vah (by simp[hx])]
    congr 1;symm
    rw[vbe,rV]
    rintro⟨_,_,_,_,_,_,e7⟩
    exact hal (by rw[e7])
  ·have hx:((u.Kids.length:Int)!=(v.Kids.length:Int))=true:=by simp;omega
   rw[vah (by simp[hx])]
   congr 1;symm
   rw[vbe,rV]
   rintro⟨_,_,_,e4,_⟩
   exact hk (by rw[e4])
end Go.Proofs.YtkdahfeiedaahaaGreatDoor
