/- PROVED: a part of the proof. Conditions: none. -/
import Derived.Test.YtkdahfeiedaahaaGreatDoorPkR15
import Derived.Test.YtkdahfeiedaahaaGreatDoorPkR10
set_option linter.unusedSimpArgs false
set_option linter.unusedVariables false
noncomputable section
namespace Go.Proofs.YtkdahfeiedaahaaGreatDoor
open Go Go.Proofs.Tryz
set_option linter.unusedVariables false
set_option linter.defProp false
set_option maxRecDepth 100000
noncomputable def xZ:Code:=f113.body.getD .skip
theorem MV:ZF Pg [50] 113 f113 xZ:=zf call113 func113 rfl mixed
section
variable(e:ag)
def CE:Option ((Nat×Nat×waE×waC×waD×waB×List ag×List am)):=
 (app [] e.Kids).bind λl1=>
 (app [] e.Params).bind λl2=>
 some (l1.length,l2.length,([]:List ag),([]:List am),([]:List az),([]:List al),l1,l2)
theorem GG:Y9 Pg GE 1000 3 (cA xZ 1) (CE e) (λo=>aO 53 [(1,.bptr 0 0),(2,.bptr 1 0)] [.cells [.int .i64 e.Op,.str e.Name,.int .i64 e.N,.bsl 2 0 o.1,.bsl 3 0 o.2.1,sl au e.Alts,sl ah e.Types] [],.cells [.int .i64 0,.str ([]:ai),.int .i64 0,sl ae o.2.2.1,sl aj o.2.2.2.1,sl au o.2.2.2.2.1,sl ah o.2.2.2.2.2.1] [(3,28),(4,85),(5,89),(6,60)],.cells (aV ae o.2.2.2.2.2.2.1) [],.cells (aV aj o.2.2.2.2.2.2.2) []] []) (aO 53 [(0,.agg (ae e))] [] []):=MV.cut<|
 tb λl1 bl1=>tb λl2 bl2=>T9 (dn e) rfl<|tx rH<|tv (cR.mk' (v:=ly) dR ([]:List ag) 0 (by kernel_rfl))<|ts<|qeb 2 28 (cR.apR bl1)<|ts<|tv (er.mk' (v:=xr) th ([]:List am) 0 (by kernel_rfl))<|ts<|qeb 3 85 (er.apR bl2)<|ts<|tE
end
section
variable(m:Int)(m2:ai)(m3:Int)(n:Nat)(n2:Nat)(m4:waD)(m5:waB)(m6:waE)(m7:waC)(m8:waD)(m9:waB)(w2:List ag)(w3:List am)
def CF:Option ((Nat×List dD)):=
 (qch m4.length).bind λn4=>
 some (n4,List.replicate n4 zB)
theorem GH:OJ 1000 (cA xZ 30) (CF m4) .normal (λo=>aO 53 [(1,.bptr 0 0),(2,.bptr 1 0),(3,.bsl 4 0 o.1)] [.cells [.int .i64 m,.str m2,.int .i64 m3,.bsl 2 0 n,.bsl 3 0 n2,sl au m4,sl ah m5] [],.cells [.int .i64 0,.str ([]:ai),.int .i64 0,sl ae m6,sl aj m7,sl au m8,sl ah m9] [(3,28),(4,85),(5,89),(6,60)],.cells (aV ae w2) [],.cells (aV aj w3) [],.cells (aV bp o.2) []] []) (aO 53 [(1,.bptr 0 0),(2,.bptr 1 0)] [.cells [.int .i64 m,.str m2,.int .i64 m3,.bsl 2 0 n,.bsl 3 0 n2,sl au m4,sl ah m5] [],.cells [.int .i64 0,.str ([]:ai),.int .i64 0,sl ae m6,sl aj m7,sl au m8,sl ah m9] [(3,28),(4,85),(5,89),(6,60)],.cells (aV ae w2) [],.cells (aV aj w3) []] []):=MV.j<|
 tb λn4 bn4=>ts<|ct (dc.ln m4)<|ti (.ar 4 89 n4 (aV bp (List.replicate n4 zB))) (Yx bn4)<|tE
end
section
variable(n:Nat)(m:Int)(m2:ai)(m3:Int)(n2:Nat)(n3:Nat)(m4:waD)(m5:waB)(m6:waE)(m7:waC)(m8:waD)(m9:waB)(w2:List ag)(w3:List am)(w4:List dD)
def MM:Option Unit:=
 some ()
theorem GI:OU 1000 (cA xZ 124) MM .normal (λo=>[(4,.int .i64 0)]) (aO 53 [(1,.bptr 0 0),(2,.bptr 1 0),(3,.bsl 4 0 n)] [.cells [.int .i64 m,.str m2,.int .i64 m3,.bsl 2 0 n2,.bsl 3 0 n3,sl au m4,sl ah m5] [],.cells [.int .i64 0,.str ([]:ai),.int .i64 0,sl ae m6,sl aj m7,sl au m8,sl ah m9] [(3,28),(4,85),(5,89),(6,60)],.cells (aV ae w2) [],.cells (aV aj w3) [],.cells (aV bp w4) []] []):=MV.j<|
 tE
end
section
variable(n:Nat)(i:Int)(m:Int)(m2:ai)(m3:Int)(n2:Nat)(n3:Nat)(m4:waD)(m5:waB)(m6:waE)(m7:waC)(m8:waD)(m9:waB)(w2:List ag)(w3:List am)(w4:List dD)
def yI(o:Unit⊕(Unit)):Exit:=match o with
 |(.inl _)=>.normal
 |(.inr _)=>.exit 0
def I8(o:Unit⊕(Unit)):aB:=match o with
 |(.inl o)=>aO 53 [(1,.bptr 0 0),(2,.bptr 1 0),(3,.bsl 4 0 n),(4,.int .i64 i)] [.cells [.int .i64 m,.str m2,.int .i64 m3,.bsl 2 0 n2,.bsl 3 0 n3,sl au m4,sl ah m5] [],.cells [.int .i64 0,.str ([]:ai),.int .i64 0,sl ae m6,sl aj m7,sl au m8,sl ah m9] [(3,28),(4,85),(5,89),(6,60)],.cells (aV ae w2) [],.cells (aV aj w3) [],.cells (aV bp w4) []] []
 |(.inr o)=>aO 53 [(1,.bptr 0 0),(2,.bptr 1 0),(3,.bsl 4 0 n)] [.cells [.int .i64 m,.str m2,.int .i64 m3,.bsl 2 0 n2,.bsl 3 0 n3,sl au m4,sl ah m5] [],.cells [.int .i64 0,.str ([]:ai),.int .i64 0,sl ae m6,sl aj m7,sl au m8,sl ah m9] [(3,28),(4,85),(5,89),(6,60)],.cells (aV ae w2) [],.cells (aV aj w3) [],.cells (aV bp w4) []] []
def vL:Option (Unit⊕(Unit)):=
 if decide (i<(m4.length:Int))=true then
  some (.inl ())
 else
  some (.inr ())
theorem wc:OK 1000 (cA xZ 1006) (vL i m4) yI (I8 n i m m2 m3 n2 n3 m4 m5 m6 m7 m8 m9 w2 w3 w4) (aO 53 [(1,.bptr 0 0),(2,.bptr 1 0),(3,.bsl 4 0 n),(4,.int .i64 i)] [.cells [.int .i64 m,.str m2,.int .i64 m3,.bsl 2 0 n2,.bsl 3 0 n3,sl au m4,sl ah m5] [],.cells [.int .i64 0,.str ([]:ai),.int .i64 0,sl ae m6,sl aj m7,sl au m8,sl ah m9] [(3,28),(4,85),(5,89),(6,60)],.cells (aV ae w2) [],.cells (aV aj w3) [],.cells (aV bp w4) []] []):=MV.k<|
 ts<|ct (dc.ln m4)<|tF tE<|tE
end
section
variable(n:Nat)(i:Int)(m:Int)(m2:ai)(m3:Int)(n2:Nat)(n3:Nat)(m4:waD)(m5:waB)(m6:waE)(m7:waC)(m8:waD)(m9:waB)(w2:List ag)(w3:List am)(w4:List dD)
def CG:Option ((List dD×List ai)):=
 (ey m4 i).bind λx9=>
 (ey m4 i).bind λx10=>
 (app [] x10.Names).bind λl11=>
 (ey m4 i).bind λx12=>
 (pn n w4 i).bind λx13=>
 (IJ w4 i (⟨x9.Con,.bsl 5 0 l11.length,x12.Body⟩:dD)).bind λl14=>
 some (l14,l11)
theorem GJ:OJ 1000 (cA xZ 2014) (CG n i m4 w4) .normal (λo=>aO 53 [(1,.bptr 0 0),(2,.bptr 1 0),(3,.bsl 4 0 n),(4,.int .i64 i)] [.cells [.int .i64 m,.str m2,.int .i64 m3,.bsl 2 0 n2,.bsl 3 0 n3,sl au m4,sl ah m5] [],.cells [.int .i64 0,.str ([]:ai),.int .i64 0,sl ae m6,sl aj m7,sl au m8,sl ah m9] [(3,28),(4,85),(5,89),(6,60)],.cells (aV ae w2) [],.cells (aV aj w3) [],.cells (aV bp o.1) [],.cells (aV cS o.2) []] []) (aO 53 [(1,.bptr 0 0),(2,.bptr 1 0),(3,.bsl 4 0 n),(4,.int .i64 i)] [.cells [.int .i64 m,.str m2,.int .i64 m3,.bsl 2 0 n2,.bsl 3 0 n3,sl au m4,sl ah m5] [],.cells [.int .i64 0,.str ([]:ai),.int .i64 0,sl ae m6,sl aj m7,sl au m8,sl ah m9] [(3,28),(4,85),(5,89),(6,60)],.cells (aV ae w2) [],.cells (aV aj w3) [],.cells (aV bp w4) []] []):=MV.j<|
 tb λx9 bx9=>tb λx10 bx10=>tb λl11 bl11=>tb λx12 bx12=>tb λx13 bx13=>tb λl14 bl14=>RL (.dx [0,0,0,4,0,28,60,124,0,0,512,0,3584,7680,15872,32512,0,65536,0,458752,983040,2031616,4194300,8388607,16777215] [.cells (aV cS l11) []] [(15,5)] [8])<|ts<|tv (dc.ia (k:=.i64) bx9)<|tw (lm x9)<|tv (gD [] 0 rfl)<|ts<|tv (dc.ia (k:=.i64) bx10)<|tw (eK x10)<|qeb 5 9 (b8.apR bl11)<|ts<|tv (dc.ia (k:=.i64) bx12)<|tw (fT x12)<|tv (Ya x9.Con 5 l11.length x12.Body)<|tv (gj.iaN 4 (k:=.i64) bx13)<|SY (gj.stR (WY rfl) bl14)<|tE
end
section
variable(n:Nat)(i:Int)(m:Int)(m2:ai)(m3:Int)(n2:Nat)(n3:Nat)(m4:waD)(m5:waB)(m6:waE)(m7:waC)(m8:waD)(m9:waB)(w2:List ag)(w3:List am)(w4:List dD)
def MN:Option Unit:=
 some ()
theorem GK:OU 1000 (cA xZ 2015) MN .normal (λo=>[(4,.int .i64 (dp (i+1)))]) (aO 53 [(1,.bptr 0 0),(2,.bptr 1 0),(3,.bsl 4 0 n),(4,.int .i64 i)] [.cells [.int .i64 m,.str m2,.int .i64 m3,.bsl 2 0 n2,.bsl 3 0 n3,sl au m4,sl ah m5] [],.cells [.int .i64 0,.str ([]:ai),.int .i64 0,sl ae m6,sl aj m7,sl au m8,sl ah m9] [(3,28),(4,85),(5,89),(6,60)],.cells (aV ae w2) [],.cells (aV aj w3) [],.cells (aV bp w4) []] []):=MV.j<|
 tE
end
section
variable(n:Nat)(m:Int)(m2:ai)(m3:Int)(n2:Nat)(n3:Nat)(m4:waD)(m5:waB)(m6:waE)(m7:waC)(m8:waD)(m9:waB)(w2:List ag)(w3:List am)(w4:List dD)
def MO:Option Unit:=
 some ()
theorem GL:OJ 1000 (cA xZ 63) MO .ret (λo=>aO 53 [(2,.bptr 1 0)] [.cells [.int .i64 m,.str m2,.int .i64 m3,.bsl 2 0 n2,.bsl 3 0 n3,.bsl 4 0 n,sl ah m5] [],.cells [.int .i64 m,.str m2,.int .i64 m3,.bsl 2 0 n2,.bsl 3 0 n3,.bsl 4 0 n,sl ah m5] [],.cells (aV ae w2) [],.cells (aV aj w3) [],.cells (aV bp w4) []] []) (aO 53 [(1,.bptr 0 0),(2,.bptr 1 0),(3,.bsl 4 0 n)] [.cells [.int .i64 m,.str m2,.int .i64 m3,.bsl 2 0 n2,.bsl 3 0 n3,sl au m4,sl ah m5] [],.cells [.int .i64 0,.str ([]:ai),.int .i64 0,sl ae m6,sl aj m7,sl au m8,sl ah m9] [(3,28),(4,85),(5,89),(6,60)],.cells (aV ae w2) [],.cells (aV aj w3) [],.cells (aV bp w4) []] []):=MV.j<|
 ts<|tv (show aY Pg 28 [.int .i64 m,.str m2,.int .i64 m3,.bsl 2 0 n2,.bsl 3 0 n3,.bsl 4 0 n,sl ah m5]=some (.agg [.int .i64 m,.str m2,.int .i64 m3,.bsl 2 0 n2,.bsl 3 0 n3,.bsl 4 0 n,sl ah m5]) by kernel_rfl)<|tx (Zl [.int .i64 m,.str m2,.int .i64 m3,.bsl 2 0 n2,.bsl 3 0 n3,.bsl 4 0 n,sl ah m5])<|tE
end
open Go
mutual
theorem BJ(i:Nat):∀(p:PVal),p.cl i->p.no i
 |.undef,_=>by simp[PVal.no]
 |.int _ _,_=>by simp[PVal.no]
 |.bool _,_=>by simp[PVal.no]
 |.str _,_=>by simp[PVal.no]
 |.val _,_=>by simp[PVal.no]
 |.agg cs,h=>by simp only[PVal.cl]at h;simp only[PVal.no];exact fm i cs h
 |.tuple cs,h=>by simp only[PVal.cl]at h;simp only[PVal.no];exact fm i cs h
 |.slice es,h=>by simp only[PVal.cl]at h;simp only[PVal.no];exact Ip i es h
 |.eptr cs,h=>by simp only[PVal.cl]at h;simp only[PVal.no];exact fm i cs h
 |.bptr j _,h=>by simp only[PVal.cl]at h;simp only[PVal.no];omega
 |.bsl j _ _,h=>by simp only[PVal.cl]at h;simp only[PVal.no];omega
 |.mapr j,h=>by simp only[PVal.cl]at h;simp only[PVal.no];omega
 |.nptr j _,h=>by simp only[PVal.cl]at h;simp only[PVal.no];omega
 |.func _ f c,h=>by simp only[PVal.cl]at h;simp only[PVal.no];exact⟨fm i f h.1,fm i c h.2⟩
theorem fm(i:Nat):∀(l:List PVal),gZ i l->BI i l
 |[],_=>by simp[BI]
 |p::l,h=>by simp only[gZ]at h;simp only[BI];exact⟨BJ i p h.1,fm i l h.2⟩
theorem Ip(i:Nat):∀(l:List (List PVal)),rm i l->DV i l
 |[],_=>by simp[DV]
 |p::l,h=>by simp only[rm]at h;simp only[DV];exact⟨fm i p h.1,Ip i l h.2⟩
end
theorem TM{z:Nat}{B:aA}(h:Wb z B):AF z B:=by
 cases B with
 |cells cs own=>exact fm z cs h
 |map l=>exact λx hx=>⟨BJ z _ (h x hx).1,BJ z _ (h x hx).2⟩
 |dead=>trivial
theorem Zk{z:Nat}:∀{H:List aA} (i:Nat) B,E6 z H->H[i]? =some B->AF z B
 |[],i,B,_,h=>by simp at h
 |C::H,0,B,hc,h=>by simp at h;subst h;exact TM hc.1
 |C::H,i+1,B,hc,h=>Zk i B hc.2 (by simpa using h)
theorem UI{z r:Nat}:∀{H:List aA} {k:Nat},E6 z (H.set (r - k) .dead)->k<=r->∀(i:Nat) B,k+i≠r->H[i]? =some B->AF z B
 |[],_,_,_,i,B,_,h=>by simp at h
 |C::H,k,hc,hk,0,B,hi,h=>by
  simp at h;subst h
  have:r - k=(r - (k+1))+1:=by omega
  rw[this,List.set_cons_succ]at hc
  exact TM hc.1
 | C :: H,k,hc,hk,i + 1,B,hi,h => by
  by_cases hr:r=k
  ·subst hr
   rw[vbp,List.set_cons_zero]at hc
   exact Zk i B hc.2 (by simpa using h)
  ·have e:r - k=(r - (k+1))+1:=by omega
   rw[e,List.set_cons_succ]at hc
   exact UI (H:=H) (k:=k+1) hc.2 (by omega) i B (by omega) (by simpa using h)
section
variable{P:Program}{GE:List (Nat×List PVal)}{m m':Nat}{st st':aB}{N:Mv}{c x y:Code}{Q:Exit->aB->Mv->Prop}
theorem cy.block{id:Nat}(h:cy P GE m c (λe st' N'=>match e with|.exit id'=>if id'=id then Q .normal st' N' else Q (.exit id') st' N'|e=>Q e st' N') st N):cy P GE m (.block id c) Q st N:=by
 intro ro E bs0 a w hE hb hR
 refine Hf (ek (h ro E bs0 a w hE hb hR) λe a' w' hq=>?_)
 obtain⟨hd,st',N',hR',hq⟩:=hq
 cases e with
 | exit id' =>
  simp only at hq
  simp only[Exit.inBlock]
  split at hq
  ·rename_i hid;rw[vah hid];exact⟨hd,st',N',hR',hq⟩
  ·rename_i hid;rw[van hid];exact⟨hd,st',N',hR',hq⟩
 |normal=>exact⟨hd,st',N',hR',hq⟩
 |goto l=>exact⟨hd,st',N',hR',hq⟩
 |ret=>exact⟨hd,st',N',hR',hq⟩
 |panic c=>exact⟨hd,st',N',hR',hq⟩
 |outgrown=>exact⟨hd,st',N',hR',hq⟩
theorem cy.loopI{I:Nat->aB->Mv->Prop}(hb:∀k st N,I k st N->cy P GE m c (λe st' N'=>(e=.normal/\∃k',k'<k/\I k' st' N')\/(e≠.normal/\Q e st' N')) st N){k:Nat}(h:I k st N):cy P GE m (.loop c) Q st N:=by
 intro ro E bs0 a w hE hb0 hR
 refine sJ (λk a' w'=>a'.defers=a.defers/\∃st N,iI P E bs0 st N a' w'/\I k st N) k ⟨rfl,st,N,hR,h⟩ ?_
 intro k a1 w1 hI
 obtain⟨hd1,s1,N1,hR1,hl⟩:=hI
 refine ek (hb k s1 N1 hl ro E bs0 a1 w1 hE hb0 hR1) λe a' w' hq=>?_
 obtain⟨hd,st',N',hR',hq⟩:=hq
 have hd':=hd.trans hd1
 rcases hq with⟨rfl,k',hlt,hI⟩|⟨hne,hq⟩
 ·exact⟨k',hlt,hd',st',N',hR',hI⟩
 ·cases e with
  |normal=>exact absurd rfl hne
  |exit id=>exact⟨hd',_,_,hR',hq⟩
  |goto l=>exact⟨hd',_,_,hR',hq⟩
  |ret=>exact⟨hd',_,_,hR',hq⟩
  |panic c=>exact⟨hd',_,_,hR',hq⟩
  |outgrown=>exact⟨hd',_,_,hR',hq⟩
theorem cy.piece{X:Type}{o:Option X}{e:Exit}{so:X->aB}{r:X}(h:qaS P GE m' c o e so st)(ho:o=some r)(hm:m'≠0)(hmm:m' % 1000=m % 1000)(hq:Q e (so r) N):cy P GE m c Q st N:=
 (cy.frame (m:=m) (N:=N) (h r ho) hm hmm).mono λe' st' N' hx=>by
  obtain⟨⟨rfl,rfl⟩,rfl⟩:=hx
  exact hq
theorem cy.pieceK{X:Type}{o:Option X}{ex:X->Exit}{so:X->aB}{r:X}(h:qcw P GE m' c o ex so st)(ho:o=some r)(hm:m'≠0)(hmm:m' % 1000=m % 1000)(hq:Q (ex r) (so r) N):cy P GE m c Q st N:=
 (cy.frame (m:=m) (N:=N) (h r ho) hm hmm).mono λe' st' N' hx=>by
  obtain⟨⟨rfl,rfl⟩,rfl⟩:=hx
  exact hq
theorem cy.body{σ X:Type}{o:Option (σ⊕X)}{S:σ->aB}{ex:X->Exit}{so:X->aB}{r:σ⊕X}(h:qaT P GE m' c o S ex so st)(ho:o=some r)(hm:m'≠0)(hmm:m' % 1000=m % 1000)(hq:∀e st',LQ S ex so r e st'->Q e st' N):cy P GE m c Q st N:=
 (cy.frame (m:=m) (N:=N) (h r ho) hm hmm).mono λe' st' N' hx=>by
  obtain⟨hx,rfl⟩:=hx
  exact hq _ _ hx
theorem cy.preE{α:Type}{sf:α->aB}{Nf:α->Mv}(h:∀v,cy P GE m c Q (sf v) (Nf v))(hq:∀(E:lh) (bs0:be) (x:Act) (w:World),bs0.length=m % 1000->iI P E bs0 st N x w->∃v,iI P E bs0 (sf v) (Nf v) x w):cy P GE m c Q st N:=λro E bs0 a w hE hb hR=>by
 obtain⟨v,hv⟩:=hq E bs0 a w hb hR
 exact h v ro E bs0 a w hE hb hv
theorem cy.sat(h:cy P GE m c Q st []):d8 P GE m c (λe st'=>∃N,Q e st' N) st:=λro E bs0 a w hE hb hR=>by
 obtain⟨Γ,bs,ow,h',hk⟩:=hR
 refine ek (h ro E bs0 a w hE hb ⟨Γ,bs,ow,h',hk,.nil⟩) λe a' w' hq=>?_
 obtain⟨hd,st',N',⟨Γ',bs',ow',h1,h2,_⟩,hQ⟩:=hq
 exact⟨hd,st',⟨Γ',bs',ow',h1,h2⟩,N',hQ⟩
end
section
variable{P:Program}{E:lh}{Γ:aP}{bs bs0:be}{ow:Nat->Option iL}{w:World}{a:Array Value}{st:aB}{N:Mv}{x:Act}
theorem iI.shelve{H:List aA}{tm:List PVal}{ow0:List ((Nat×Nat)×TypeId)}{r j t n:Nat}{ns:List ai}{cs:List PVal}(h:iI P E bs0 ⟨tm,H++[.cells (aV cS ns) []],ow0⟩ N x w)(hr:H[r]? =some (.cells cs []))(hj:cs[j]? =some (.bsl H.length 0 ns.length))
  (hs:tm[t]? =some (.bsl r 0 n)) (hn:n≠0) (hnt:BI H.length tm) (hnb:∀(i:Nat) B,i≠r->H[i]? =some B->AF H.length B) (hnr:∀(k:Nat) p,k≠j->cs[k]? =some p->p.no H.length) (hb0:bs0.length<=H.length):
  ∃v,iI P E bs0 ⟨tm,H.set r (.cells (cs.set j (.val v)) []),ow0⟩ (N++[(v,ns)]) x w:=by
 obtain⟨Γ,bs,ow,h,hk,hp⟩:=h
 have hlen:bs.length=H.length+1:=by rw[h.bl];simp
 have hrl:r<H.length:=aq hr
 obtain⟨b4,hb4⟩:∃b,bs[r]? =some (some b):=by
  have ht:t<x.tmps.size:=by rw[h.sz];exact aq hs
  have:=h.tm t _ _ hs (vaE ht)
  generalize x.tmps[t]=u at this
  cases this with
  |bsl _ _ _ _ _ _ _ hx=>rcases hx with h0|⟨b,_,hb⟩;exact absurd h0 hn;exact⟨b,hb⟩
 have hHr:(H++[aA.cells (aV cS ns) []])[r]? =some (.cells cs []):=by rw[vac hrl];exact hr
 have hHz:(H++[aA.cells (aV cS ns) []])[H.length]? =some (.cells (aV cS ns) []):=by rw[vaf (var _),vbp];rfl
 obtain⟨q1,q2,c4,t4,q3,q4,q5,q6⟩:=h.bx r b4 _ hb4 hHr
 have hjl:j<c4.size:=vaM (aq hj) q4
 have hv0:=q5 j _ _ hj (vaE hjl)
 generalize hv:c4[j]=v at hv0
 have hsub:∀(i b:Nat),i≠H.length->bs[i]? =some (some b)->(bs.take H.length)[i]? =some (some b):=λi b hi hb=>by
  have:i<bs.length:=aq hb
  rw[vap (by omega)];exact hb
 have hback:∀{i b:Nat},(bs.take H.length)[i]? =some (some b)->i<H.length/\bs[i]? =some (some b):=λ{i b} hb=>by
  have hi:i<H.length:=by have:=aq hb;rw[vaQ]at this;omega
  rw[vap hi]at hb
  exact⟨hi,hb⟩
 have hbox:∀{i:Nat} {B:aA},(H.set r (.cells (cs.set j (.val v)) []))[i]? =some B->(i=r/\B=.cells (cs.set j (.val v)) [])\/(i≠r/\H[i]? =some B):=λ{i B} hB=>by
  by_cases hir:i=r
  ·subst hir
   rw[vae hrl]at hB
   exact .inl ⟨rfl,(vbb hB).symm⟩
  ·rw[vai (λe=>hir e.symm)]at hB
   exact .inr ⟨hir,hB⟩
 have happ:∀{i:Nat} {B:aA},H[i]? =some B->(H++[aA.cells (aV cS ns) []])[i]? =some B:=λ{i B} hB=>by rw[vac (aq hB)];exact hB
 have hvs:Y8 w v ns/\∀b,Zj (v,ns)=some b->bs[H.length]? =some (some b):=by
  cases hv0 with
  | bsl _ _ _ ad cap hcap hnil hx =>
   cases ns with
   |nil=>exact⟨⟨ad,cap,rfl,hcap,hnil,.inl rfl⟩,λb hb=>by cases ad<;>cases hb⟩
   | cons s ns =>
    rcases hx with h0|⟨b,rfl,hb⟩
    ·cases h0
    ·obtain⟨k1,k2,c5,t5,k3,k4,k5,k6⟩:=h.bx H.length b _ hb hHz
     refine⟨⟨_,cap,rfl,hcap,hnil,.inr ⟨b,c5,t5,rfl,k3,by rw[Tx]at k4;exact k4,λj s' hs'=>?_⟩⟩,λb' hb'=>?_⟩
     ·have hfl:(aV cS (s::ns))[j]? =some (.str s'):=by
       clear k4 k5
       have:∀(l:List ai) (j:Nat),l[j]? =some s'->(aV cS l)[j]? =some (.str s'):=by
        intro l
        induction l with
        |nil=>intro j h;simp at h
        |cons y l ih=>
         intro j h
         rw[show aV cS (y::l)=.str y::aV cS l from rfl]
         cases j with
         |zero=>simp at h;subst h;rfl
         |succ j=>simp only[List.getElem?_cons_succ]at h ⊢;exact ih j h
       exact this _ j hs'
      have hj5:j<c5.size:=vaM (aq hfl) k4
      have hx:=k5 j _ _ hfl (vaE hj5)
      rw[vaE hj5]
      generalize c5[j]=u at hx
      cases hx;rfl
     ·cases hb';exact hb
 have hbz:∀b,Zj (v,ns)=some b->Γ b=none/\b<w.heap.size:=λb hb=>by
  obtain⟨k1,k2,_⟩:=h.bx H.length b _ (hvs.2 b hb) hHz
  exact⟨k1,k2⟩
 let ow':Nat->Option iL:=λb=>if Zj (v,ns)=some b then none else ow b
 have how:∀{b L},ow' b=some L->ow b=some L:=λ{b L} hL=>by
  simp only[ow']at hL
  split at hL
  ·cases hL
  ·exact hL
 have how2:∀{v':Value} {e:TypeId} {L:iL},fR P Γ w v' e->(∀b,v'.ownBlock=some b->ow b=some L)->∀b,v'.ownBlock=some b->ow' b=some L:=λ{v' e L} ho hL b hb=>by
  simp only[ow']
  split
  ·rename_i hx
   obtain⟨_,_,_,hg⟩:=ho
   have:=hg b hb
   rw[(hbz b hx).1]at this;cases this
  ·exact hL b hb
 refine⟨v,Γ,bs.take H.length,ow',?_,λi hi=>?_,?_⟩
 ·exact{
   wi:=h.wi
   sz:=h.sz
   tm:=λt p u hp hu=>(h.tm t p u hp hu).noi (gQ hnt hp) hsub
   bl:=by simp[hlen]
   bx:=λi b B hb hB=>by
    obtain⟨hi,hb⟩:=hback hb
    rcases hbox hB with⟨rfl,rfl⟩|⟨hir,hB⟩
    ·rw[hb4]at hb
     cases hb
     refine⟨q1,q2,c4,t4,q3,by simpa using q4,λq p u hp hu=>?_,λq i2 T2 hq=>?_⟩
     ·rw[vbc]at hp
      by_cases hqj:j=q
      ·subst hqj
       rw[vah rfl,vah (aq hj)]at hp
       cases hp
       rw[vaE hjl]at hu
       cases hu
       rw[hv]
       exact .val v
      ·rw[van hqj]at hp
       exact(q5 q p u hp hu).noi (hnr q p (λe=>hqj e.symm) hp) hsub
     ·rw[vbc]at hq
      by_cases hqj:j=q
      ·subst hqj
       rw[vah rfl,vah (aq hj)]at hq
       cases hq
      ·rw[van hqj]at hq
       have:=q6 q i2 T2 hq
       exact⟨this.1,by simpa using this.2⟩
    ·obtain⟨k1,k2,k3⟩:=h.bx i b B hb (happ hB)
     exact⟨k1,k2,k3.noi (hnb i B hir hB) hsub⟩
   inj:=λi k b hi hk=>h.inj i k b (hback hi).2 (hback hk).2
   bn:=λi b hb=>h.bn i b (hback hb).2
   on:=λb L hL=>h.on b L (how hL)
   ot:=λt k e he=>by
    obtain⟨u,v',h1,h2,h3,h4⟩:=h.ot t k e he
    exact⟨u,v',h1,h2,h3,how2 h3 h4⟩
   ob:=λi q e cs' own b hB hm hb=>by
    obtain⟨hi,hb⟩:=hback hb
    rcases hbox hB with⟨rfl,hx⟩|⟨hir,hB⟩
    ·cases hx;cases hm
    ·obtain⟨v',h1,h2,h3⟩:=h.ob i q e cs' own b (happ hB) hm hb
     exact⟨v',h1,h2,how2 h2 h3⟩
   gl:=λg cs hg=>(h.gl g cs hg).clo (by simp only[PVal.cl];exact h.gc g cs hg)
   gc:=h.gc
   gx:=h.gx
   step:=h.step}
 ·rw[vap (by omega)];exact hk i hi
 ·have hnot:∀{b},¬aN bs ow b->¬aN (bs.take H.length) ow' b:=λ{b} hb ht=>by
   rcases ht with⟨i,hi⟩|ht
   ·exact hb (.inl ⟨i,(hback hi).2⟩)
   ·refine hb (.inr λe=>ht ?_)
    simp only[ow',e,ite_self]
  refine⟨λy hy=>?_,λy hy b hb=>?_,?_⟩
  ·rcases vaw.1 hy with hy|hy
   ·exact hp.nm y hy
   ·rw[va4.1 hy];exact hvs.1
  ·rcases vaw.1 hy with hy|hy
   ·obtain⟨k1,k2,k3,k4⟩:=hp.off y hy b hb
    exact⟨k1,k2,hnot k3,k4⟩
   ·rw[va4.1 hy]at hb
    have hbb:=hvs.2 b hb
    refine⟨(hbz b hb).1,(hbz b hb).2,λht=>?_,h.bn _ _ hbb⟩
    rcases ht with⟨i,hi⟩|ht
    ·obtain⟨h1,h2⟩:=hback hi
     have:=h.inj i H.length b h2 hbb
     omega
    ·exact ht (by simp only[ow',hb,if_true])
  ·rw[List.filterMap_append,vcb]
   refine⟨hp.dis,?_,λb hb b' hb'=>?_⟩
   ·rw[List.filterMap_cons]
    cases hx:Zj (v,ns)<;>simp
   ·obtain⟨y,hy,hyb⟩:=vbA.1 hb
    obtain⟨y',hy',hyb'⟩:=vbA.1 hb'
    rw[va4.1 hy']at hyb'
    rintro rfl
    exact(hp.off y hy b hyb).2.2.1 (.inl ⟨_,hvs.2 b hyb'⟩)
theorem iI.open{z:Nat}(h:iI P E bs0 st N x w)(hz:st.boxes[z]? =some .dead)(hbz:bs0.length<=z)(hnt:BI z st.tmps)(hnb:∀(i:Nat) B,st.boxes[i]? =some B->AF z B):iI P E bs0 ⟨st.tmps,st.boxes.set z (.cells [] []),st.own⟩ N x w:=by
 obtain⟨Γ,bs,ow,h,hk,hp⟩:=h
 have hzl:z<bs.length:=by rw[h.bl];exact aq hz
 have hsub:∀(i b:Nat),i≠z->bs[i]? =some (some b)->(bs.set z none)[i]? =some (some b):=λi b hi hb=>by rw[vai (λe=>hi e.symm)];exact hb
 have hback:∀{i b:Nat},(bs.set z none)[i]? =some (some b)->i≠z/\bs[i]? =some (some b):=λ{i b} hb=>by
  by_cases hi:i=z
  ·subst hi
   rw[vae hzl]at hb;cases hb
  ·rw[vai (λe=>hi e.symm)]at hb
   exact⟨hi,hb⟩
 have hbox:∀{i:Nat} {B:aA},i≠z->(st.boxes.set z (.cells [] []))[i]? =some B->st.boxes[i]? =some B:=λ{i B} hi hB=>by
  rw[vai (λe=>hi e.symm)]at hB;exact hB
 refine⟨Γ,bs.set z none,ow,?_,λi hi=>?_,hp.nm,λy hy b hb=>?_,hp.dis⟩
 ·exact{h with
   tm:=λt p u hp hu=>(h.tm t p u hp hu).noi (gQ hnt hp) hsub
   bl:=by simp[h.bl]
   bx:=λi b B hb hB=>by
    obtain⟨hi,hb⟩:=hback hb
    obtain⟨k1,k2,k3⟩:=h.bx i b B hb (hbox hi hB)
    exact⟨k1,k2,k3.noi (hnb i B (hbox hi hB)) hsub⟩
   inj:=λi k b hi hk=>h.inj i k b (hback hi).2 (hback hk).2
   bn:=λi b hb=>h.bn i b (hback hb).2
   ob:=λi q e cs' own b hB hm hb=>by
    obtain⟨hi,hb⟩:=hback hb
    exact h.ob i q e cs' own b (hbox hi hB) hm hb
   gl:=λg cs hg=>(h.gl g cs hg).clo (by simp only[PVal.cl];exact h.gc g cs hg)}
 ·rw[vai (by omega)];exact hk i hi
 ·obtain⟨k1,k2,k3,k4⟩:=hp.off y hy b hb
  refine⟨k1,k2,λht=>?_,k4⟩
  rcases ht with⟨i,hi⟩|ht
  ·exact k3 (.inl ⟨i,(hback hi).2⟩)
  ·exact k3 (.inr ht)
theorem iI.close{z:Nat}(h:iI P E bs0 st N x w)(hz:z<st.boxes.length):iI P E bs0 ⟨st.tmps,st.boxes.set z .dead,st.own⟩ N x w:=by
 obtain⟨Γ,bs,ow,h,hk,hp⟩:=h
 refine⟨Γ,bs,ow,?_,hk,hp⟩
 have hbox:∀{i:Nat} {B:aA},(st.boxes.set z .dead)[i]? =some B->(i=z/\B=.dead)\/st.boxes[i]? =some B:=λ{i B} hB=>by
  by_cases hi:i=z
  ·subst hi
   rw[vae hz]at hB
   exact .inl ⟨rfl,(vbb hB).symm⟩
  ·rw[vai (λe=>hi e.symm)]at hB
   exact .inr hB
 exact{h with
  bl:=by simp[h.bl]
  bx:=λi b B hb hB=>by
   rcases hbox hB with⟨rfl,rfl⟩|hB
   ·have hi:i<st.boxes.length:=hz
    obtain⟨k1,k2,_⟩:=h.bx i b _ hb (vab hi)
    exact⟨k1,k2,vzz⟩
   ·exact h.bx i b B hb hB
  ob:=λi q e cs' own b hB hm hb=>by
   rcases hbox hB with⟨_,hx⟩|hB
   ·cases hx
   ·exact h.ob i q e cs' own b hB hm hb}
theorem iI.extend(h:iI P E bs0 st N x w)(X:List aA):iI P E bs0 {st with boxes:=st.boxes++X} N x w:=by
 obtain⟨Γ,bs,ow,h,hk,hp⟩:=h
 refine⟨Γ,_,ow,h.extend X,λi hi=>?_,hp.nm,λy hy b hb=>?_,hp.dis⟩
 ·have:=hk i hi
  by_cases hlt:i<bs.length
  ·rw[vac hlt];exact this
  ·rw[vaK (by omega)]at this
   have hx:=vab hi
   rw[hx]at this;cases this
 ·obtain⟨k1,k2,k3,k4⟩:=hp.off y hy b hb
  refine⟨k1,k2,λht=>k3 ?_,k4⟩
  rcases ht with⟨i,hi⟩|ht
  ·refine .inl ⟨i,?_⟩
   by_cases hlt:i<bs.length
   ·rwa[vac hlt]at hi
   ·rw[vaf (by omega),vaW]at hi
    split at hi<;>cases hi
  ·exact .inr ht
theorem iI.forgetT{tm:List PVal}(h:iI P E bs0 st N x w)(hf:Mr st.tmps tm=tm):iI P E bs0 {st with tmps:=tm} N x w:=by
 obtain⟨Γ,bs,ow,h,hk,hp⟩:=h
 exact⟨Γ,bs,ow,h.forgetT hf,hk,hp⟩
def CX(P:Program)(GE:List (Nat×List PVal))(f:FuncId)(args:List PVal)(r:PVal)(ns:List (List ai))(H':List Value->List aA):Prop:=
 (∀vs w,(callFunc f vs).run P w=.ok (.enter f vs) w)/\
 ∀(Γ:aP) (w:World) (vs:Array Value),SR P ⟨GE,Γ,w,aN [] λ_=>none⟩ Γ [] (λ_=>none) w vs ⟨args,[],[]⟩->
  Calls P f vs w λe w'=>∃v Γ' bs' ow' vals,e=.returned v/\vals.length=ns.length/\SR P ⟨GE,Γ,w,aN [] λ_=>none⟩ Γ' bs' ow' w' #[v] ⟨[r],H' vals,[]⟩/\Vy ⟨GE,Γ,w,aN [] λ_=>none⟩ Γ' bs' ow' w' (vals.zip ns)
theorem Vy.joinN(h:SR P E Γ bs ow w a st){Γ':aP}{bs':be}{owC:Nat->Option iL}{w':World}{d n:Nat}{rc:List PVal}{H':List aA}{v:Array Value}{o:List ((Nat×Nat)×TypeId)}(hS:SR P ⟨E.GE,Γ,w,aN [] λ_=>none⟩ Γ' bs' owC w' v ⟨rc,H',o⟩)(hp:Vy ⟨E.GE,Γ,w,aN [] λ_=>none⟩ Γ' bs' owC w' N):Vy E Γ' (bs++bs') (AD d n owC ow) w' N where
 nm:=hp.nm
 off:=λy hy b hb=>by
  obtain⟨k1,k2,k3,k4⟩:=hp.off y hy b hb
  have hT:¬aN [] (λ_=>none) b:=λhb=>by
   rcases hb with⟨i,hi⟩|hb
   ·simp at hi
   ·exact hb rfl
  have hge:w.heap.size<=b:=k4.resolve_left hT
  refine⟨k1,k2,λht=>?_,.inr (vaH h.step.size hge)⟩
  rcases ht with⟨i,hi⟩|ht
  ·by_cases hlt:i<bs.length
   ·rw[vac hlt]at hi
    have hi2:i<st.boxes.length:=by rw[<-h.bl];exact hlt
    have:=(h.bx i b _ hi (vab hi2)).2.1
    omega
   ·rw[vaf (by omega)]at hi
    exact k3 (.inl ⟨_,hi⟩)
  ·unfold AD at ht
   cases hc:owC b with
   |none=>
    rw[hc]at ht
    cases hL:ow b with
    |none=>exact ht hL
    |some L=>have:=(h.on b L hL).1;omega
   |some L=>exact k3 (.inr (by rw[hc];simp))
 dis:=hp.dis
theorem SR.pick(h:SR P E Γ bs ow w a st){k n:Nat}{H':List aA}{v:Value}{r:PVal}(hn:H'.length=n)(hk:k+n<=st.boxes.length)(hH:∀(i:Nat) B,H'[i]? =some B->∃cs own,B=.cells cs []/\st.boxes[k+i]? =some (.cells cs own)/\gZ 0 cs)(hv:VR Γ ((bs.drop k).take n) w r v):SR P E Γ ((bs.drop k).take n) (λ_=>none) w #[v] ⟨[r],H',[]⟩:=by
 have hget:∀{i b:Nat},((bs.drop k).take n)[i]? =some (some b)->bs[k+i]? =some (some b):=λ{i b} hb=>by
  have hi:i<n:=by have:=aq hb;rw[vaQ]at this;omega
  rw[vap hi,vbg]at hb
  exact hb
 exact{
  wi:=h.wi
  sz:=rfl
  tm:=λt p u hp hu=>by
   cases t with
   |zero=>simp at hp hu;subst hp;subst hu;exact hv
   |succ t=>simp at hp
  bl:=by simp only[vaQ,vbC,h.bl];omega
  bx:=λi b B hb hB=>by
   obtain⟨cs,own,rfl,h1,h2⟩:=hH i B hB
   obtain⟨k1,k2,c,t,k3,k4,k5,k6⟩:=h.bx (k+i) b _ (hget hb) h1
   exact⟨k1,k2,c,t,k3,k4,λj p u hp hu=>(k5 j p u hp hu).clo (kr h2 hp),k6⟩
  inj:=λi j b hi hj=>by have:=h.inj _ _ b (hget hi) (hget hj);omega
  bn:=λi b hb=>h.bn _ b (hget hb)
  on:=λb L hL=>by cases hL
  ot:=λt k e he=>by cases he
  ob:=λi j e cs own b hB hm hb=>by
   obtain⟨cs',own',e1,_⟩:=hH i _ hB
   cases e1;cases hm
  gl:=λg cs hg=>(h.gl g cs hg).clo (by simp only[PVal.cl];exact h.gc g cs hg)
  gc:=h.gc
  gx:=h.gx
  step:=h.step}
theorem CX.ofSatX{GE:List (Nat×List PVal)}{f:FuncId}{fn:Func}{c:Code}{args:List PVal}{r r0:PVal}{ns:List (List ai)}{H':List Value->List aA}{so:List Value->aB}(hcall:∀vs w,(callFunc f vs).run P w=.ok (.enter f vs) w)(hfn:P.funcs[f]? =some fn)(hb:fn.body=some c)
  (hp:cy P GE 0 c (λe st N=>e=.ret/\∃vals:List Value,vals.length=ns.length/\N=vals.zip ns/\st=so vals) ⟨args++List.replicate (fn.ntmps - args.length) .undef,[],[]⟩ []) (k n:Nat) (hres:∀vals,yo P (so vals) fn.results.toList=some r0)
  (hn:∀vals,(H' vals).length=n/\k+n<=(so vals).boxes.length) (hH:∀vals (i:Nat) B,(H' vals)[i]? =some B->∃cs own,B=.cells cs []/\(so vals).boxes[k+i]? =some (.cells cs own)/\gZ 0 cs)
  (hr:∀{Γ bs w v},VR Γ bs w r0 v->VR Γ ((bs.drop k).take n) w r v):CX P GE f args r ns H':=by
 refine⟨hcall,λΓ w vs h=>calls_of_wp hfn hb ?_⟩
 have hT:∀b,¬aN [] (λ_=>none) b:=λb hb=>by
  rcases hb with⟨i,hi⟩|hb
  ·simp at hi
  ·exact hb rfl
 have h0:SR P ⟨GE,Γ,w,aN [] λ_=>none⟩ Γ [] (λ_=>none) w (vs++Array.replicate (fn.ntmps - vs.size) undef) ⟨args++List.replicate (fn.ntmps - args.length) .undef,[],[]⟩:=by
  have hsz:vs.size=args.length:=h.sz
  exact{h with
   sz:=by simp[hsz]
   tm:=λt p v hp hv=>by
    simp only at hp
    by_cases ht:t<args.length
    ·rw[vac ht]at hp
     rw[vaX (by omega)]at hv
     exact h.tm t p v hp hv
    ·rw[vaf (by omega),vaW]at hp
     split at hp<;>cases hp
     exact .undef v
   ot:=λt k e he=>by simp at he}
 have hE:nj GE 0 ⟨GE,Γ,w,aN [] λ_=>none⟩:={
  ge:=rfl
  low:=λb n hb=>h.lt_of_ghost hb
  nt:=λ_=>hT
  gl:=λg cs hg=>(h.gl g cs hg).clo (by simp only[PVal.cl];exact h.gc g cs hg)}
 refine wp_mono (hp none ⟨GE,Γ,w,aN [] λ_=>none⟩ [] ⟨vs++Array.replicate (fn.ntmps - vs.size) undef,[]⟩ w hE rfl ⟨Γ,[],λ_=>none,h0,λi _=>rfl,.nil⟩) λe a w' hq=>?_
 obtain⟨hd,st,N,⟨Γ1,bs1,ow1,hS,hk,hP⟩,rfl,vals,hl,rfl,rfl⟩:=hq
 obtain⟨v,e1,e2,_⟩:=nW hS (hres vals)
 refine⟨hd,v,e1,v,Γ1,(bs1.drop k).take n,λ_=>none,vals,rfl,hl,hS.pick (hn vals).1 (hn vals).2 (hH vals) (hr e2),hP.nm,λy hy b hb=>?_,hP.dis⟩
 obtain⟨k1,k2,k3,k4⟩:=hP.off y hy b hb
 refine⟨k1,k2,λht=>?_,k4⟩
 rcases ht with⟨i,hi⟩|ht
 ·have hi':i<n:=by have:=aq hi;rw[vaQ]at this;omega
  rw[vap hi',vbg]at hi
  exact k3 (.inl ⟨_,hi⟩)
 ·exact ht rfl
end
end Go.Proofs.YtkdahfeiedaahaaGreatDoor
namespace Go.Proofs.YtkdahfeiedaahaaGreatDoor
open Go
set_option linter.unusedVariables false
def uf(x:pQ):dD:=⟨x.Con,.val x.NV,x.Body⟩
def rX(x:az):dD:=⟨x.Con,sl cS x.Names,x.Body⟩
def lS(A:List az)(vs:List Value):List pQ:=List.zipWith (λa v=>⟨a.Con,v,a.Body⟩) A vs
theorem QJ:∀l:List pQ,aV bp (l.map uf)=aV cQ l
 |[]=>rfl
 |x::l=>by
  rw[vaz,show ∀(y:dD) r,aV bp (y::r)=bp y++aV bp r from λ_ _=>rfl,show ∀(y:pQ) r,aV cQ (y::r)=cQ y++aV cQ r from λ_ _=>rfl,QJ l]
  rfl
theorem qbX(a:az):bp (rX a)=au a:=by
 rw[gO]
 show PVal.str a.Con::sl cS a.Names::ae a.Body=_
 rw[bz]
theorem Tv:∀l:List az,aV bp (l.map rX)=aV au l
 |[]=>rfl
 |x::l=>by
  rw[vaz,show ∀(y:dD) r,aV bp (y::r)=bp y++aV bp r from λ_ _=>rfl,show ∀(y:az) r,aV au (y::r)=au y++aV au r from λ_ _=>rfl,Tv l,qbX]
theorem Ld(y:dD)(r:List dD):aV bp (y::r)=.str y.Con::y.NV::(ae y.Body++aV bp r):=rfl
theorem Ps(l r:List dD):aV bp (l++r)=aV bp l++aV bp r:=by unfold aV;rw[va5,List.flatten_append]
theorem JQ(l:List dD):(aV bp l).length=l.length * 9:=by
 induction l with
 |nil=>rfl
 |cons x l ih=>rw[show aV bp (x::l)=bp x++aV bp l from rfl,vam,ih,BE,vau];omega
theorem DL(L R:List dD)(y:dD):(aV bp (L++y::R))[L.length * 9+1]? =some y.NV:=by
 rw[Ps,vaf (by rw[JQ];omega),JQ,Ld,show L.length * 9+1 - L.length * 9=1 by omega]
 rfl
theorem uG(L R:List dD)(y:dD)(p:PVal):(aV bp (L++y::R)).set (L.length * 9+1) p=aV bp (L++⟨y.Con,p,y.Body⟩::R):=by
 rw[Ps,Ps,vcf _ _ (by rw[JQ];omega),JQ,Ld,show L.length * 9+1 - L.length * 9=1 by omega]
 rfl
theorem WP{z:Nat}:∀{l:List PVal},(∀p∈l,p.no z)->BI z l
 |[],_=>trivial
 |p::l,h=>⟨h p (by simp),WP λq hq=>h q (by simp[hq])⟩
theorem TN{z:Nat}{l:List PVal}(h:BI z l){p:PVal}(hp:p∈l):p.no z:=by
 obtain⟨i,hi⟩:=List.getElem?_of_mem hp
 exact gQ h hi
theorem Hg{z:Nat}{l:List dD}(h:∀x∈l,x.NV.no z):BI z (aV bp l):=by
 induction l with
 |nil=>trivial
 | cons x l ih =>
  rw[Ld]
  refine⟨vzz,h x (by simp),WP λp hp=>?_⟩
  rcases vaw.1 hp with hp|hp
  ·exact TN (lq z _ (a8 x.Body)) hp
  ·exact TN (ih λy hy=>h y (by simp[hy])) hp
theorem JR{z:Nat}{L R:List dD}{y:dD}(hL:∀x∈L,x.NV.no z)(hR:∀x∈R,x.NV.no z)(k:Nat)(p:PVal)(hk:k≠L.length * 9+1)(hp:(aV bp (L++y::R))[k]? =some p):p.no z:=by
 have h1:((aV bp (L++y::R)).set (L.length * 9+1) .undef)[k]? =some p:=by rw[vai (λe=>hk e.symm)];exact hp
 rw[uG]at h1
 refine gQ (Hg λx hx=>?_) h1
 rcases vaw.1 hx with hx|hx
 ·exact hL x hx
 ·rcases vaB.1 hx with rfl|hx
  ·trivial
  ·exact hR x hx
def qcD(a:az):Bool:=decide (a.Names.length<=bo)
def Yh(e:ag):Bool:=decide (e.Kids.length<=bo)&&decide (e.Params.length<=bo)&&decide (e.Alts.length<=bo)&&e.Alts.all qcD
theorem ZV{α:Type}{l:List α}(h:l.length<=bo):app [] l=some l:=by
 unfold app
 rw[vah (by simpa using h)]
 rfl
theorem QZ:∀{A:List az} {vs:List Value} {x:az} {v:Value},A[vs.length]? =some x->lS A (vs++[v])=lS A vs++[⟨x.Con,v,x.Body⟩]/\(vs++[v]).zip (A.map (·.Names))=vs.zip (A.map (·.Names))++[(v,x.Names)]
 |[],[],_,_,h=>by simp at h
 |[],_::_,_,_,h=>by simp at h
 |a::A,[],x,v,h=>by simp at h;subst h;exact⟨by simp[lS],by simp⟩
 |a::A,u::vs,x,v,h=>by
  obtain⟨h1,h2⟩:=QZ (A:=A) (vs:=vs) (x:=x) (v:=v) (by simpa using h)
  unfold lS at h1 ⊢
  exact⟨by simpa using h1,by simpa using h2⟩
theorem qee{i:Nat}(h:i<=bo):dp ((i:Int)+1)=((i+1:Nat):Int):=by
 unfold bo at h
 exact(S5 (by omega) (by omega)).trans (by omega)
theorem K2{e:ag}(h:Yh e=true):CX Pg GE 113 [.agg (ae e)] (.agg [.int .i64 e.Op,.str e.Name,.int .i64 e.N,.bsl 0 0 e.Kids.length,.bsl 1 0 e.Params.length,.bsl 2 0 e.Alts.length,sl ah e.Types]) (e.Alts.map (·.Names))
  (λvs=>[.cells (aV ae e.Kids) [],.cells (aV aj e.Params) [],.cells (aV cQ (lS e.Alts vs)) []]):=by
 simp only[Yh,vad,vao,vas]at h
 obtain⟨⟨⟨hk,hp⟩,ha⟩,hn⟩:=h
 refine CX.ofSatX (r0:=.agg [.int .i64 e.Op,.str e.Name,.int .i64 e.N,.bsl 2 0 e.Kids.length,.bsl 3 0 e.Params.length,.bsl 4 0 e.Alts.length,sl ah e.Types])
  (so:=λvs=>aO 53 [(2,.bptr 1 0)] [.cells [.int .i64 e.Op,.str e.Name,.int .i64 e.N,.bsl 2 0 e.Kids.length,.bsl 3 0 e.Params.length,.bsl 4 0 e.Alts.length,sl ah e.Types] [],.cells [.int .i64 e.Op,.str e.Name,.int .i64 e.N,.bsl 2 0 e.Kids.length,.bsl 3 0 e.Params.length,.bsl 4 0 e.Alts.length,sl ah e.Types] [],.cells (aV ae e.Kids) [],.cells (aV aj e.Params) [],.cells (aV cQ (lS e.Alts vs)) []] [])
  MV.1 MV.2.1 MV.2.2.1 ?_ 2 3 (λvs=>by kernel_rfl) (λvs=>⟨rfl,by show 5<=5;exact var _⟩) (λvs i B hB=>?_) (λ{Γ bs w v} hv=>?_)
 ·
  show cy Pg GE 0 xZ _ (aO 53 [(0,.agg (ae e))] [] []) []
  have hroot:xZ=cA xZ 1:=by kernel_rfl
  rw[hroot]
  refine(GG e).x (x:=(e.Kids.length,e.Params.length,[],[],[],[],e.Kids,e.Params)) (by unfold CE;rw[ZV hk,ZV hp];rfl) (by decide) (by decide) ?_
  have e1:Ib 3 (cA xZ 1)=.seq (cA xZ 30) (.seq (.seq (cA xZ 124) (.block 0 (.loop (.seq (cA xZ 1006) (.seq (cA xZ 2014) (cA xZ 2015)))))) (cA xZ 63)):=by kernel_rfl
  rw[e1]
  have hmk:qch e.Alts.length=some e.Alts.length:=by unfold qch;rw[vah ha]
  refine cy.seq (cy.piece (r:=(e.Alts.length,List.replicate e.Alts.length zB)) (GH e.Op e.Name e.N e.Kids.length e.Params.length e.Alts e.Types [] [] [] [] e.Kids e.Params) (by unfold CF;rw[hmk];rfl) (by decide) (by decide) ?_)
  refine cy.seq (cy.seq (cy.piece (r:=()) (GI e.Alts.length e.Op e.Name e.N e.Kids.length e.Params.length e.Alts e.Types [] [] [] [] e.Kids e.Params (List.replicate e.Alts.length zB)) rfl (by decide) (by decide) ?_))
  refine cy.block ?_
  let S:Nat->List Value->aB:=λi vs=>aO 53 [(1,.bptr 0 0),(2,.bptr 1 0),(3,.bsl 4 0 e.Alts.length),(4,.int .i64 (i:Int))] [.cells [.int .i64 e.Op,.str e.Name,.int .i64 e.N,.bsl 2 0 e.Kids.length,.bsl 3 0 e.Params.length,sl au e.Alts,sl ah e.Types] [],.cells [.int .i64 0,.str ([]:ai),.int .i64 0,sl ae [],sl aj [],sl au [],sl ah []] [(3,28),(4,85),(5,89),(6,60)],.cells (aV ae e.Kids) [],.cells (aV aj e.Params) [],.cells (aV bp ((lS e.Alts vs).map uf++List.replicate (e.Alts.length - i) zB)) []] []
  refine cy.loopI (I:=λk st N=>∃i vs,k=e.Alts.length - i/\i<=e.Alts.length/\vs.length=i/\st=S i vs/\N=vs.zip (e.Alts.map (·.Names))) ?_ (k:=e.Alts.length) ⟨0,[],rfl,vaN _,rfl,?_,rfl⟩
  ·rintro k _ _ ⟨i,vs,rfl,hi,hvl,rfl,rfl⟩
   have hml:(lS e.Alts vs).length=i:=by unfold lS;rw[vb7];omega
   by_cases hlt:i<e.Alts.length
   ·
    obtain⟨x,hx⟩:∃x,e.Alts[i]? =some x:=⟨_,vab hlt⟩
    have hidx:ey e.Alts (i:Int)=some x:=by unfold ey;rw[vah (by omega)];simpa using hx
    have hnx:x.Names.length<=bo:=by have:=hn x (vaA hx);unfold qcD at this;simpa using this
    have hrep:List.replicate (e.Alts.length - i) zB=zB::List.replicate (e.Alts.length - (i+1)) zB:=by
     rw[show e.Alts.length - i=(e.Alts.length - (i+1))+1 by omega,List.replicate_succ]
    have hwl:((lS e.Alts vs).map uf).length=i:=by rw[vaO,hml]
    refine cy.seq (cy.pieceK (r:=.inl ()) (wc e.Alts.length (i:Int) e.Op e.Name e.N e.Kids.length e.Params.length e.Alts e.Types [] [] [] [] e.Kids e.Params ((lS e.Alts vs).map uf++List.replicate (e.Alts.length - i) zB)) (by unfold vL;rw[vah (by simpa using hlt)]) (by decide) (by decide) ?_)
    have hw4:pn e.Alts.length ((lS e.Alts vs).map uf++List.replicate (e.Alts.length - i) zB) (i:Int)=some zB:=by
     unfold pn
     rw[vah ⟨by omega,by simpa using hlt⟩]
     show(_:List dD)[(i:Int).toNat]? =some zB
     rw[Int.toNat_natCast,vaf (by omega),hwl,vbp,hrep]
     rfl
    have hup:IJ ((lS e.Alts vs).map uf++List.replicate (e.Alts.length - i) zB) (i:Int) (⟨x.Con,.bsl 5 0 x.Names.length,x.Body⟩:dD)=some ((lS e.Alts vs).map uf++⟨x.Con,.bsl 5 0 x.Names.length,x.Body⟩::List.replicate (e.Alts.length - (i+1)) zB):=by
     unfold IJ
     rw[vah ⟨by omega,by rw[Int.toNat_natCast,vam,hwl,List.length_replicate];omega⟩,Int.toNat_natCast,vcf _ _ (by omega),hwl,vbp,hrep]
     rfl
    refine cy.seq (cy.piece (r:=((lS e.Alts vs).map uf++⟨x.Con,.bsl 5 0 x.Names.length,x.Body⟩::List.replicate (e.Alts.length - (i+1)) zB,x.Names)) (GJ e.Alts.length (i:Int) e.Op e.Name e.N e.Kids.length e.Params.length e.Alts e.Types [] [] [] [] e.Kids e.Params ((lS e.Alts vs).map uf++List.replicate (e.Alts.length - i) zB)) (by unfold CG;rw[hidx,vaa,vaa,ZV hnx,vaa,vaa,hw4,vaa,hup];rfl) (by decide) (by decide) ?_)
    have hsn:∀v,lS e.Alts (vs++[v])=lS e.Alts vs++[⟨x.Con,v,x.Body⟩]/\(vs++[v]).zip (e.Alts.map (·.Names))=vs.zip (e.Alts.map (·.Names))++[(v,x.Names)]:=λv=>QZ (by rw[hvl];exact hx)
    refine cy.preE (sf:=λv=>S i (vs++[v])|>λst=>⟨st.tmps,[.cells [.int .i64 e.Op,.str e.Name,.int .i64 e.N,.bsl 2 0 e.Kids.length,.bsl 3 0 e.Params.length,sl au e.Alts,sl ah e.Types] [],.cells [.int .i64 0,.str ([]:ai),.int .i64 0,sl ae [],sl aj [],sl au [],sl ah []] [(3,28),(4,85),(5,89),(6,60)],.cells (aV ae e.Kids) [],.cells (aV aj e.Params) [],.cells (aV bp ((lS e.Alts (vs++[v])).map uf++List.replicate (e.Alts.length - (i+1)) zB)) []],[]⟩) (Nf:=λv=>(vs++[v]).zip (e.Alts.map (·.Names))) (λv=>?_) (λE bs0 x' w hb0 hR=>?_)
    ·refine cy.piece (r:=()) (GK e.Alts.length (i:Int) e.Op e.Name e.N e.Kids.length e.Params.length e.Alts e.Types [] [] [] [] e.Kids e.Params ((lS e.Alts (vs++[v])).map uf++List.replicate (e.Alts.length - (i+1)) zB)) rfl (by decide) (by decide) ?_
     refine .inl ⟨rfl,e.Alts.length - (i+1),by omega,i+1,vs++[v],rfl,hlt,by simp[hvl],?_,rfl⟩
     rw[qee (by omega)]
     rfl
    ·have hL:∀y∈(lS e.Alts vs).map uf,y.NV.no 5:=λy hy=>by obtain⟨q,_,rfl⟩:=vag.1 hy;trivial
     have hR':∀y∈List.replicate (e.Alts.length - (i+1)) zB,y.NV.no 5:=λy hy=>by rw[vcF hy];exact td _ _ (aH uB [])
     obtain⟨v,hv⟩:=hR.shelve (H:=[.cells [.int .i64 e.Op,.str e.Name,.int .i64 e.N,.bsl 2 0 e.Kids.length,.bsl 3 0 e.Params.length,sl au e.Alts,sl ah e.Types] [],.cells [.int .i64 0,.str ([]:ai),.int .i64 0,sl ae [],sl aj [],sl au [],sl ah []] [(3,28),(4,85),(5,89),(6,60)],.cells (aV ae e.Kids) [],.cells (aV aj e.Params) [],.cells (aV bp ((lS e.Alts vs).map uf++⟨x.Con,.bsl 5 0 x.Names.length,x.Body⟩::List.replicate (e.Alts.length - (i+1)) zB)) []])
      (r:=4) (j:=((lS e.Alts vs).map uf).length * 9+1) (t:=3) (n:=e.Alts.length) (ns:=x.Names) rfl (DL _ _ _) (by kernel_rfl) (by omega) (fm 5 _ (yL (KTm.h))) (UI (r:=4) (k:=0) (KCs.h (n:=5) (H:=[_,_,_,_,.dead])) (vaN _)|>λh i B hi hB=>h i B (by simpa using hi) hB) (JR hL hR') (by rw[hb0];exact vaN _)
     refine⟨v,?_⟩
     rw[uG]at hv
     rw[(hsn v).1,(hsn v).2]
     simp only[va5,vaz,vbr,vaL,List.singleton_append,List.set_cons_succ,List.set_cons_zero]at hv ⊢
     exact hv
   ·
    have hin:i=e.Alts.length:=by omega
    refine cy.seq (cy.pieceK (r:=.inr ()) (wc e.Alts.length (i:Int) e.Op e.Name e.N e.Kids.length e.Params.length e.Alts e.Types [] [] [] [] e.Kids e.Params ((lS e.Alts vs).map uf++List.replicate (e.Alts.length - i) zB)) (by unfold vL;rw[van (by simpa using hlt)]) (by decide) (by decide) ?_)
    refine .inr ⟨by simp[yI],?_⟩
    show cy Pg GE 0 (cA xZ 63) _ _ _
    refine cy.piece (r:=()) (GL e.Alts.length e.Op e.Name e.N e.Kids.length e.Params.length e.Alts e.Types [] [] [] [] e.Kids e.Params ((lS e.Alts vs).map uf++List.replicate (e.Alts.length - i) zB)) rfl (by decide) (by decide) ?_
    refine⟨rfl,vs,by rw[hvl,vaO,hin],rfl,?_⟩
    rw[hin,vbp,List.replicate_zero,va6,QJ]
  ·show _=S 0 []
   simp only[S,show lS e.Alts []=[]from List.zipWith_nil_right,vbr,vaR,Nat.sub_zero]
   rfl
 ·match i with
  |0=>simp at hB;subst hB;exact⟨_,_,rfl,rfl,Sb 0 a8 _⟩
  |1=>simp at hB;subst hB;exact⟨_,_,rfl,rfl,Sb 0 bH _⟩
  |2=>simp at hB;subst hB;exact⟨_,_,rfl,rfl,Sb 0 Bz _⟩
  |i+3=>simp at hB
 ·have hat:∀{i b:Nat},i<3->bs[2+i]? =some (some b)->((bs.drop 2).take 3)[i]? =some (some b):=λ{i b} hi hb=>by
   rw[vap hi,vbg];exact hb
  cases hv with
  | agg _ us hl hx =>
   refine .agg _ us hl λi p u hp hu=>?_
   have hb:∀{j k:Nat},j<3->VR Γ bs w (.bsl (2+j) 0 k) u->VR Γ ((bs.drop 2).take 3) w (.bsl j 0 k) u:=λ{j k} hj h=>by
    cases h with
    |bsl _ _ _ y cap hcap hnil hq=>exact .bsl _ _ _ y cap hcap hnil (hq.imp_right λ⟨b,e,hb⟩=>⟨b,e,hat hj hb⟩)
   match i with
   |0=>simp at hp;subst hp;exact(hx 0 _ u rfl hu).clo vzz
   |1=>simp at hp;subst hp;exact(hx 1 _ u rfl hu).clo vzz
   |2=>simp at hp;subst hp;exact(hx 2 _ u rfl hu).clo vzz
   |3=>simp at hp;subst hp;exact hb (j:=0) (by decide) (hx 3 _ u rfl hu)
   |4=>simp at hp;subst hp;exact hb (j:=1) (by decide) (hx 4 _ u rfl hu)
   |5=>simp at hp;subst hp;exact hb (j:=2) (by decide) (hx 5 _ u rfl hu)
   |6=>simp at hp;subst hp;exact(hx 6 _ u rfl hu).clo (aH bU _)
   |i+7=>simp at hp
theorem iI.freezeAll{E:lh}{w:World}{x:Act}{tm:List PVal}{k0 k1:aA}(h3:BI 3 tm)(hk0:AF 3 k0)(hk1:AF 3 k1):∀(A:List az) (vs:List Value) (D:List az),vs.length=A.length->iI Pg E [] ⟨tm,[k0,k1,.cells (aV bp (D.map rX++(lS A vs).map uf)) [],.dead],[]⟩ (vs.zip (A.map (·.Names))) x w->
  iI Pg E [] ⟨tm,[k0,k1,.cells (aV bp ((D++A).map rX)) [],.dead],[]⟩ [] x w
 |[],[],D,_,h=>by simpa[lS]using h
 | a :: A,u :: vs,D,hl,h => by
  have hD:∀y∈D.map rX,y.NV.no 3:=λy hy=>by obtain⟨q,_,rfl⟩:=vag.1 hy;exact td _ _ (aH uB _)
  have hR:∀y∈(lS A vs).map uf,y.NV.no 3:=λy hy=>by obtain⟨q,_,rfl⟩:=vag.1 hy;trivial
  have h:iI Pg E [] ⟨tm,[k0,k1,.cells (aV bp (D.map rX++⟨a.Con,.val u,a.Body⟩::(lS A vs).map uf)) [],.dead],[]⟩ ((u,a.Names)::vs.zip (A.map (·.Names))) x w:=h
  have hb:∀{C:aA},AF 3 C->∀(i:Nat) B,[k0,k1,C,.dead][i]? =some B->AF 3 B:=λ{C} hC i B hB=>by
   match i with
   |0=>simp at hB;subst hB;exact hk0
   |1=>simp at hB;subst hB;exact hk1
   |2=>simp at hB;subst hB;exact hC
   |3=>simp at hB;subst hB;trivial
   |i+4=>simp at hB
  have t1:=h.thaw (z:=3) (r:=2) (j:=(D.map rX).length * 9+1) rfl (vaN _) (by decide) rfl (DL _ _ _) h3 (hb (Hg λy hy=>by
   rcases vaw.1 hy with hy|hy
   ·exact hD y hy
   ·rcases vaB.1 hy with rfl|hy
    ·trivial
    ·exact hR y hy))
  rw[uG]at t1
  have t2:=t1.freeze (z:=3) (r:=2) (j:=(D.map rX).length * 9+1) (ns:=a.Names) rfl (vaN _) (by decide) (by decide) rfl (DL _ _ _) (JR hD hR) h3 (λi B hi hz hB=>by
   match i with
   |0=>simp at hB;subst hB;exact hk0
   |1=>simp at hB;subst hB;exact hk1
   |2=>exact absurd rfl hi
   |3=>exact absurd rfl hz
   |i+4=>simp at hB)
  rw[uG]at t2
  have t3:=iI.freezeAll h3 hk0 hk1 A vs (D++[a]) (by simpa using hl) (by
   rw[va5,vaL]
   exact t2)
  rw[vaL]at t3
  exact t3
 |[],_::_,_,h,_=>by cases h
 |_::_,[],_,h,_=>by cases h
def nU(e:ag):Option ag:=if Yh e=true then some e else none
theorem Jw{e r:ag}(h:nU e=some r):CN Pg GE 113 [.agg (ae e)] (.agg [.int .i64 r.Op,.str r.Name,.int .i64 r.N,.bsl 0 0 r.Kids.length,.bsl 1 0 r.Params.length,.bsl 2 0 r.Alts.length,sl ah r.Types]) [] [.cells (aV ae r.Kids) [],.cells (aV aj r.Params) [],.cells (aV au r.Alts) []]:=by
 unfold nU at h
 split at h
 case isFalse=>cases h
 rename_i hok
 cases h
 obtain⟨h1,h2⟩:=K2 hok
 refine⟨h1,λΓ w vs hS=>(h2 Γ w vs hS).mono λe' w' he=>?_⟩
 obtain⟨v,Γ',bs',ow',vals,rfl,hl,hS',hP⟩:=he
 have hx:=SR.extend (a:=⟨#[v],[]⟩) hS' [.dead]
 have h0:iI Pg ⟨GE,Γ,w,aN [] λ_=>none⟩ [] ⟨[.agg [.int .i64 e.Op,.str e.Name,.int .i64 e.N,.bsl 0 0 e.Kids.length,.bsl 1 0 e.Params.length,.bsl 2 0 e.Alts.length,sl ah e.Types]],[.cells (aV ae e.Kids) [],.cells (aV aj e.Params) [],.cells (aV bp (([]:List az).map rX++(lS e.Alts vals).map uf)) [],.dead],[]⟩ (vals.zip (e.Alts.map (·.Names))) ⟨#[v],[]⟩ w':=by
  refine⟨Γ',bs'++List.replicate 1 none,ow',?_,λi hi=>absurd hi (vaS _),hP.nm,λy hy b hb=>?_,hP.dis⟩
  ·rw[vbr,vaR,QJ];exact hx
  ·obtain⟨k1,k2,k3,k4⟩:=hP.off y hy b hb
   refine⟨k1,k2,λht=>k3 ?_,k4⟩
   rcases ht with⟨i,hi⟩|ht
   ·refine .inl ⟨i,?_⟩
    by_cases hlt:i<bs'.length
    ·rwa[vac hlt]at hi
    ·rw[vaf (by omega),vaW]at hi
     split at hi<;>cases hi
   ·exact .inr ht
 have hrc:(PVal.agg [.int .i64 e.Op,.str e.Name,.int .i64 e.N,.bsl 0 0 e.Kids.length,.bsl 1 0 e.Params.length,.bsl 2 0 e.Alts.length,sl ah e.Types]).cl 3:=(inferInstance:KC 3 (PVal.agg [.int .i64 e.Op,.str e.Name,.int .i64 e.N,.bsl 0 0 e.Kids.length,.bsl 1 0 e.Params.length,.bsl 2 0 e.Alts.length,sl ah e.Types])).h
 have h3:BI 3 [PVal.agg [.int .i64 e.Op,.str e.Name,.int .i64 e.N,.bsl 0 0 e.Kids.length,.bsl 1 0 e.Params.length,.bsl 2 0 e.Alts.length,sl ah e.Types]]:=⟨BJ 3 _ hrc,vzz⟩
 obtain⟨Γ2,bs2,ow2,g1,_,_⟩:=h0.freezeAll h3 (show AF 3 (.cells (aV ae e.Kids) [])from WO 3 a8 e.Kids) (show AF 3 (.cells (aV aj e.Params) [])from WO 3 bH e.Params) e.Alts vals [] (by rw[hl,vaO])
 have hr:VR Γ2 bs2 w' (.agg [.int .i64 e.Op,.str e.Name,.int .i64 e.N,.bsl 0 0 e.Kids.length,.bsl 1 0 e.Params.length,.bsl 2 0 e.Alts.length,sl ah e.Types]) v:=g1.tm 0 _ v rfl rfl
 refine⟨v,Γ2,(bs2.drop 0).take 3,λ_=>none,rfl,g1.pick rfl (by show 0+3<=4;decide) (λi B hB=>?_) (hr.restrict (n:=3) hrc λi b hi hb=>by rw[vbF,vap hi];exact hb)⟩
 match i with
 |0=>simp at hB;subst hB;exact⟨_,_,rfl,rfl,Sb 0 a8 _⟩
 |1=>simp at hB;subst hB;exact⟨_,_,rfl,rfl,Sb 0 bH _⟩
 |2=>simp at hB;subst hB;exact⟨_,_,rfl,by rw[<-Tv];rfl,Sb 0 dm _⟩
 |i+3=>simp at hB
theorem T8{α:Type}:∀{l:List α} {i:Nat} {x:α},l[i]? =some x->l.set i x=l
 |[],_,_,h=>by simp at h
 |y::l,0,x,h=>by simp at h;subst h;rfl
 |y::l,i+1,x,h=>by rw[List.set_cons_succ,T8 (by simpa using h)]
theorem cy.copied{m:Nat}{c:Code}{p t0 t1:Nat}{tm:List PVal}{B1:aA}{ow0:List ((Nat×Nat)×TypeId)}{e:ag}{Q:Exit->aB->Mv->Prop}(hok:Yh e=true)(hc:c=.region (qeE c) (rF c) false)(hsz:(rF c).size=3)(hd:(rF c).toList.all ee=true)
  (h0:(rF c)[0]? =some (JY c 0)) (h1:(rF c)[1]? =some (JY c 1)) (h2:(rF c)[2]? =some (JY c 2)) (g0:(JY c 0).guard=none) (g1:(JY c 1).guard=none) (g2:(JY c 2).guard=none)
  (p0:(JY c 0).op=.load 28 (.tmp p)) (d0:(JY c 0).dst=some t0) (p1:(JY c 1).op=.call {callee:=.value (.func 113),args:=#[.tmp t0],argTypes:=qct (JY c 1)}) (d1:(JY c 1).dst=some t1) (p2:(JY c 2).op=.store 28 (.tmp p) (.tmp t1)) (d2:(JY c 2).dst=none)
  (hp:tm[p]? =some (.bptr 0 0)) (ht0:tm[t0]? =some .undef) (ht1:tm[t1]? =some .undef) (hpt:p≠t1) (hm:m % 1000<=2) (ho0:bu t0 ow0=ow0) (ho1:bu t1 ow0=ow0) (hfg:∀r,Mr (tm.set t1 r) tm=tm)
  (hq:∀vals:List Value,vals.length=e.Alts.length->Q .normal ⟨tm,[.cells [.int .i64 e.Op,.str e.Name,.int .i64 e.N,.bsl 2 0 e.Kids.length,.bsl 3 0 e.Params.length,.bsl 4 0 e.Alts.length,sl ah e.Types] [],B1,.cells (aV ae e.Kids) [],.cells (aV aj e.Params) [],.cells (aV cQ (lS e.Alts vals)) [],.dead],ow0⟩ (vals.zip (e.Alts.map (·.Names)))):
  cy Pg GE m c Q ⟨tm,[.cells [.int .i64 e.Op,.str e.Name,.int .i64 e.N,sl ae e.Kids,sl aj e.Params,sl au e.Alts,sl ah e.Types] [],B1],ow0⟩ []:=by
 rintro ro ⟨GE0,Γ0,w0,T0⟩ bs0 a w hE hb ⟨Γ,bs,ow,h,hk,_⟩
 obtain rfl:GE0=GE:=hE.ge
 rw[hc]
 refine ek (sK (Q:=λe' a' w'=>e'=.normal/\(a'.defers=a.defers/\∃st' N',iI Pg ⟨GE,Γ0,w0,T0⟩ bs0 st' N' a' w'/\Q .normal st' N')) hd (by rintro⟨_,_,h,_⟩;cases h) ?_) (λe' a' w' hq=>by obtain⟨rfl,hq⟩:=hq;exact hq)
 rw[hsz,show List.range 3=[0,1,2]from rfl]
 generalize hQ':(λ(e':Exit) (a':Act) (w':World)=>e'=.normal/\(a'.defers=a.defers/\∃st' N',iI Pg ⟨GE,Γ0,w0,T0⟩ bs0 st' N' a' w'/\Q .normal st' N'))=Q'
 have step:∀{k:Nat} {o:Oper} {K:Act->World->Prop} {a:Act} {w:World},(rF c)[k]? =some o->o.guard=none->o.wp Pg a w K Q'->wpOp Pg (rF c) Q' k K a w:=λ{k o K a w} ho hg hw=>by
  unfold wpOp
  rw[ho]
  simp only[Region.wanted,hg,if_true]
  exact .inl hw
 have hpg:tm.getD p .undef=.bptr 0 0:=by rw[vaq,hp];rfl
 have hpev:oT Pg (JY c 0).op 0 (opv GE tm) [.cells [.int .i64 e.Op,.str e.Name,.int .i64 e.N,sl ae e.Kids,sl aj e.Params,sl au e.Alts,sl ah e.Types] [],B1]=some (.agg (ae e),[.cells [.int .i64 e.Op,.str e.Name,.int .i64 e.N,sl ae e.Kids,sl aj e.Params,sl au e.Alts,sl ah e.Types] [],B1]):=by
  have e1:∀H:List aA,oT Pg (.load 28 (.tmp p)) 0 (opv GE tm) H=(jx Pg 28 (tm.getD p .undef) H).map λq=>(q,H):=λH=>by kernel_rfl
  have e2:jx Pg 28 (.bptr 0 0) [.cells [.int .i64 e.Op,.str e.Name,.int .i64 e.N,sl ae e.Kids,sl aj e.Params,sl au e.Alts,sl ah e.Types] [],B1]=aY Pg 28 [.int .i64 e.Op,.str e.Name,.int .i64 e.N,sl ae e.Kids,sl aj e.Params,sl au e.Alts,sl ah e.Types]:=by kernel_rfl
  have e3:=aK e []
  rw[va6]at e3
  rw[p0,e1,hpg,e2,e3]
  rfl
 obtain⟨r,v,w1,Γ1,bs1,hrun,hr,hS,hv,hle,hbs,_⟩:=N6 h a.defers (o:=JY c 0) (id:=0) (λhx=>by rw[p0]at hx;cases hx) hpev
 obtain rfl:bs1=bs:=by
  rcases hbs with h|⟨hx,_⟩
  ·exact h
  ·rw[p0]at hx;cases hx
 have hx:=hS.set (d:=t0) (p:=.undef) (.undef v)
 simp only[T8 ht0,ho0]at hx
 have hsz1:t0<a.tmps.size:=by rw[h.sz];exact aq ht0
 have cont:wpOps Pg (rF c) Q' [1,2] (a.put (JY c 0).dst v) w1:=by
  rw[d0]
  have he0:(a.put (some t0) v).eval (.tmp t0)=v:=dA (by show(a.tmps.setIfInBounds t0 v)[t0]? =_;rw[vb0 hsz1])
  rw[wpOps_cons]
  refine step h1 g1 ?_
  have hrun2:(execOp (a.put (some t0) v).eval (JY c 1)).run Pg w1=.ok (.enter 113 #[v]) w1:=by
   simp[execOp,p1,resolve,show(a.put (some t0) v).eval (.func 113)=.func (.func 113) #[] #[]from rfl,Deferred.ofValue,invoke,(K2 hok).1,he0]
  unfold Oper.wp
  rw[hrun2,Oper.upon_enter]
  refine((K2 hok).2 Γ1 w1 #[v] (SR.callN (a:=a.tmps.setIfInBounds t0 v) hx rfl (λi q u hq hu=>?_) ⟨a8 e,vzz⟩)).mono λe' w2 he=>?_
  ·cases i with
   |zero=>simp at hq hu;subst hq;subst hu;exact hv
   |succ i=>simp at hq
  obtain⟨v2,Γ2,bs2,owC,vals,rfl,hl,hS2,hP2⟩:=he
  have hbl:bs1.length=2:=h.bl
  obtain⟨j1,_⟩:=SR.joinN (d:=t1) (ro:=[]) (r:=.agg [.int .i64 e.Op,.str e.Name,.int .i64 e.N,.bsl 2 0 e.Kids.length,.bsl 3 0 e.Params.length,.bsl 4 0 e.Alts.length,sl ah e.Types]) (New:=[.cells (aV ae e.Kids) [],.cells (aV aj e.Params) [],.cells (aV cQ (lS e.Alts vals)) []]) hx (by rw[hx.sz];exact aq ht1) hS2 rfl (λi B Bc hB hBc=>by
   have hcl:∀{cs:List PVal},gZ 0 cs->gh (List.range' 2 3) (.cells cs []) (.cells cs []):=λ{cs} hcs=>⟨rfl,rfl,λi p q hp hq=>by rw[hp]at hq;cases hq;exact .refl p (kr hcs hp)⟩
   match i with
   |0=>simp at hB hBc;subst hB;subst hBc;exact hcl (Sb 0 a8 _)
   |1=>simp at hB hBc;subst hB;subst hBc;exact hcl (Sb 0 bH _)
   |2=>simp at hB hBc;subst hB;subst hBc;exact hcl (Sb 0 Bz _)
   |i+3=>simp at hB) ((inferInstance:RXc [2,3,4] (.agg [.int .i64 e.Op,.str e.Name,.int .i64 e.N,.bsl 0 0 e.Kids.length,.bsl 1 0 e.Params.length,.bsl 2 0 e.Alts.length,sl ah e.Types]) (.agg [.int .i64 e.Op,.str e.Name,.int .i64 e.N,.bsl 2 0 e.Kids.length,.bsl 3 0 e.Params.length,.bsl 4 0 e.Alts.length,sl ah e.Types])).h)
  have hP3:=Vy.joinN (d:=t1) (n:=2) hx hS2 hP2
  show wpOps Pg (rF c) Q' [2] ((a.put (some t0) v).put (JY c 1).dst v2) w2
  rw[d1,wpOps_cons]
  refine step h2 g2 ?_
  generalize ha2:(a.put (some t0) v).put (some t1) v2=a2
  have hat:a2.tmps=(a.tmps.setIfInBounds t0 v).setIfInBounds t1 v2:=by rw[<-ha2];rfl
  have had:a2.defers=a.defers:=by rw[<-ha2];rfl
  rw[<-hat]at j1
  have hvp:=j1.opv a2.defers (.tmp p)
  have hv1:=j1.opv a2.defers (.tmp t1)
  have e1:opv GE (tm.set t1 (.agg [.int .i64 e.Op,.str e.Name,.int .i64 e.N,.bsl 2 0 e.Kids.length,.bsl 3 0 e.Params.length,.bsl 4 0 e.Alts.length,sl ah e.Types])) (.tmp p)=.bptr 0 0:=by
   show(tm.set t1 _).getD p .undef=_
   rw[vaq,vai (λe=>hpt e.symm),hp];rfl
  have e2:opv GE (tm.set t1 (.agg [.int .i64 e.Op,.str e.Name,.int .i64 e.N,.bsl 2 0 e.Kids.length,.bsl 3 0 e.Params.length,.bsl 4 0 e.Alts.length,sl ah e.Types])) (.tmp t1)=.agg [.int .i64 e.Op,.str e.Name,.int .i64 e.N,.bsl 2 0 e.Kids.length,.bsl 3 0 e.Params.length,.bsl 4 0 e.Alts.length,sl ah e.Types]:=by
   show(tm.set t1 _).getD t1 .undef=_
   rw[vaq,vae (aq ht1)];rfl
  change VR Γ2 _ w2 (opv GE _ (.tmp p)) _ at hvp
  change VR Γ2 _ w2 (opv GE _ (.tmp t1)) _ at hv1
  rw[e1]at hvp
  rw[e2]at hv1
  obtain⟨w3,r1,r2,_,_⟩:=uT (t:=28) j1.rebase hvp hv1 (H:=[.cells [.int .i64 e.Op,.str e.Name,.int .i64 e.N,.bsl 2 0 e.Kids.length,.bsl 3 0 e.Params.length,.bsl 4 0 e.Alts.length,sl ah e.Types] [],B1,.cells (aV ae e.Kids) [],.cells (aV aj e.Params) [],.cells (aV cQ (lS e.Alts vals)) []]) (by kernel_rfl)
  have hrun3:(execOp a2.eval (JY c 2)).run Pg w2=.ok .skip w3:=by
   simp only[execOp,p2]
   simp[r1]
  unfold Oper.wp
  rw[hrun3,Oper.upon_skip,d2]
  subst hQ'
  refine⟨rfl,had,_,_,?_,hq vals (by rw[hl,vaO])⟩
  have R1:iI Pg ⟨GE,Γ0,w0,T0⟩ bs0 ⟨tm.set t1 (.agg [.int .i64 e.Op,.str e.Name,.int .i64 e.N,.bsl 2 0 e.Kids.length,.bsl 3 0 e.Params.length,.bsl 4 0 e.Alts.length,sl ah e.Types]),[.cells [.int .i64 e.Op,.str e.Name,.int .i64 e.N,.bsl 2 0 e.Kids.length,.bsl 3 0 e.Params.length,.bsl 4 0 e.Alts.length,sl ah e.Types] [],B1,.cells (aV ae e.Kids) [],.cells (aV aj e.Params) [],.cells (aV cQ (lS e.Alts vals)) []],ow0⟩ (vals.zip (e.Alts.map (·.Names))) a2 w3:=by
   refine⟨Γ2,_,_,?_,λi hi=>?_,hP3.go j1 r2⟩
   ·have:=j1.unbase r2
    simp only[vbr,vaR,ho1]at this
    exact this
   ·rw[vac (by rw[hbl];omega)];exact hk i hi
  exact(R1.forgetT (hfg _)).extend [.dead]
 rw[wpOps_cons]
 refine step h0 g0 ?_
 unfold Oper.wp
 rcases hr with rfl|⟨rfl,rfl⟩
 ·rw[hrun,Oper.upon_value];exact cont
 ·rw[hrun];exact cont
open Go Go.Proofs.Tryz
set_option linter.defProp false
set_option maxRecDepth 100000
noncomputable def Gm:Code:=f60.body.getD .skip
theorem Qb:ZF Pg [35,69,103,112,142] 60 f60 Gm:=zf call60 func60 rfl mixed
section
variable(e:ag)(name:ai)(v:ai)(bound:Bool)
def OC:Option ((waE×waC×waD×waB)):=
 some (([]:List ag),([]:List am),([]:List az),([]:List al))
theorem IW:Y9 Pg GE 1000 1 (cA Gm 1) OC (λo=>aO 160 [(1,.str name),(2,.str v),(3,.bool bound),(4,.bptr 0 0),(8,.bptr 1 0)] [.cells [.int .i64 e.Op,.str e.Name,.int .i64 e.N,sl ae e.Kids,sl aj e.Params,sl au e.Alts,sl ah e.Types] [],.cells [.int .i64 0,.str ([]:ai),.int .i64 0,sl ae o.1,sl aj o.2.1,sl au o.2.2.1,sl ah o.2.2.2] [(3,28),(4,85),(5,89),(6,60)]] []) (aO 160 [(0,.agg (ae e)),(1,.str name),(2,.str v),(3,.bool bound)] [] []):=Qb.cut<|
 T9 (dn e) rfl<|tx rH<|tE
end
section
variable(name:ai)(v:ai)(bound:Bool)(m:Int)(m2:ai)(m3:Int)(n:Nat)(n2:Nat)(n3:Nat)(m4:waB)(m5:waE)(m6:waC)(m7:waD)(m8:waB)(w2:List ag)(w3:List am)(w4:List pQ)
def xI:Option Bool:=
 if bound=true then
  if(m==3)=true then
   some (m2==name)
  else if(m==5)=true then
   some (m2==name)
  else
   some false
 else
  some false
theorem IZ:OU 1000 (cA Gm 28) (xI name bound m m2) .normal (λo=>[(34,.bool o)]) (aO 160 [(1,.str name),(2,.str v),(3,.bool bound),(4,.bptr 0 0),(8,.bptr 1 0)] [.cells [.int .i64 m,.str m2,.int .i64 m3,.bsl 2 0 n,.bsl 3 0 n2,.bsl 4 0 n3,sl ah m4] [],.cells [.int .i64 0,.str ([]:ai),.int .i64 0,sl ae m5,sl aj m6,sl au m7,sl ah m8] [(3,28),(4,85),(5,89),(6,60)],.cells (aV ae w2) [],.cells (aV aj w3) [],.cells (aV cQ w4) [],.dead] []):=Qb.j<|
 tf (λc2=>have pp4:=λ{X Y Z} (r:PV _ X Y Z)=>tg 2 c2<|ts<|r;tf (λc3=>pp4<|tg 6 c3<|ts<|tE) λc3=>have pp6:=λ{X Y Z} (r:PV _ X Y Z)=>pp4<|tg 6 c3<|ts<|r;tf (λc5=>pp6<|tg 12 c5<|ts<|tE) λc5=>pp6<|tg 12 c5<|tE) λc2=>tg 2 c2<|tE
end
section
variable(name:ai)(v:ai)(bound:Bool)(m:Int)(m2:ai)(m3:Int)(n:Nat)(n2:Nat)(n3:Nat)(m4:waB)(m5:waE)(m6:waC)(m7:waD)(m8:waB)(w2:List ag)(w3:List am)(w4:List pQ)
def qX:Option ai:=
 (xI name bound m m2).bind λo7=>
 if o7=true then
  some v
 else
  some m2
theorem IY:OJ 1000 (cA Gm 14) (qX name v bound m m2) .normal (λo=>aO 160 [(1,.str name),(2,.str v),(3,.bool bound),(4,.bptr 0 0),(8,.bptr 1 0)] [.cells [.int .i64 m,.str o,.int .i64 m3,.bsl 2 0 n,.bsl 3 0 n2,.bsl 4 0 n3,sl ah m4] [],.cells [.int .i64 0,.str ([]:ai),.int .i64 0,sl ae m5,sl aj m6,sl au m7,sl ah m8] [(3,28),(4,85),(5,89),(6,60)],.cells (aV ae w2) [],.cells (aV aj w3) [],.cells (aV cQ w4) [],.dead] []) (aO 160 [(1,.str name),(2,.str v),(3,.bool bound),(4,.bptr 0 0),(8,.bptr 1 0)] [.cells [.int .i64 m,.str m2,.int .i64 m3,.bsl 2 0 n,.bsl 3 0 n2,.bsl 4 0 n3,sl ah m4] [],.cells [.int .i64 0,.str ([]:ai),.int .i64 0,sl ae m5,sl aj m6,sl au m7,sl ah m8] [(3,28),(4,85),(5,89),(6,60)],.cells (aV ae w2) [],.cells (aV aj w3) [],.cells (aV cQ w4) [],.dead] []):=Qb.j<|
 tb λo7 bo7=>jo 0<|cD (IZ name v bound m m2 m3 n n2 n3 m4 m5 m6 m7 m8 w2 w3 w4 _ bo7)<|tF (ts<|tE)<|tE
end
section
variable(name:ai)(v:ai)(bound:Bool)(m:Int)(m2:ai)(m3:Int)(n:Nat)(n2:Nat)(n3:Nat)(m4:waB)(m5:waE)(m6:waC)(m7:waD)(m8:waB)(w2:List ag)(w3:List am)(w4:List pQ)
def qY:Option Bool:=
 if(m==7)=true then
  some (m2==name)
 else
  some false
theorem I0:OU 1000 (cA Gm 30) (qY name m m2) .normal (λo=>[(9,.bool o)]) (aO 160 [(1,.str name),(2,.str v),(3,.bool bound),(4,.bptr 0 0),(8,.bptr 1 0)] [.cells [.int .i64 m,.str m2,.int .i64 m3,.bsl 2 0 n,.bsl 3 0 n2,.bsl 4 0 n3,sl ah m4] [],.cells [.int .i64 0,.str ([]:ai),.int .i64 0,sl ae m5,sl aj m6,sl au m7,sl ah m8] [(3,28),(4,85),(5,89),(6,60)],.cells (aV ae w2) [],.cells (aV aj w3) [],.cells (aV cQ w4) [],.dead] []):=Qb.j<|
 tf (λc10=>ts<|tg 4 c10<|ts<|tE) λc10=>ts<|tg 4 c10<|tE
end
section
variable(name:ai)(v:ai)(bound:Bool)(v2:Bool)(lam:Bool)(i:Int)(m:Int)(m2:ai)(m3:Int)(n:Nat)(n2:Nat)(n3:Nat)(m4:waB)(m5:waE)(m6:waC)(m7:waD)(m8:waB)(w2:List ag)(w3:List am)(w4:List pQ)
def nq:Option Bool:=
 if decide (i<(n2:Int))=true then
  some (m==6)
 else
  some false
theorem I1:OU 1000 (cA Gm 4060) (nq i m n2) .normal (λo=>[(55,.bool o)]) (aO 160 [(1,.str name),(2,.str v),(3,.bool bound),(4,.bptr 0 0),(8,.bptr 1 0),(9,.bool v2),(10,.bool lam),(11,.int .i64 i)] [.cells [.int .i64 m,.str m2,.int .i64 m3,.bsl 2 0 n,.bsl 3 0 n2,.bsl 4 0 n3,sl ah m4] [],.cells [.int .i64 0,.str ([]:ai),.int .i64 0,sl ae m5,sl aj m6,sl au m7,sl ah m8] [(3,28),(4,85),(5,89),(6,60)],.cells (aV ae w2) [],.cells (aV aj w3) [],.cells (aV cQ w4) [],.dead] []):=Qb.j<|
 have pp13:=λ{X Y Z} (r:PV _ X Y Z)=>ts<|ct (er.lnR 3 0 n2)<|r;tf (λc12=>pp13<|tg 6 c12<|ts<|tE) λc12=>pp13<|tg 6 c12<|tE
end
section
variable(name:ai)(v:ai)(bound:Bool)(v2:Bool)(lam:Bool)(i:Int)(m:Int)(m2:ai)(m3:Int)(n:Nat)(n2:Nat)(n3:Nat)(m4:waB)(m5:waE)(m6:waC)(m7:waD)(m8:waB)(w2:List ag)(w3:List am)(w4:List pQ)
def xJ:Option ((Bool×List am)):=
 (pn n2 w3 i).bind λx16=>
 if(x16.Name==name)=true then
  (pn n2 w3 i).bind λx18=>
  (IJ w3 i (⟨v,x18.Type_⟩:am)).bind λl19=>
  some (true,l19)
 else
  some (lam,w3)
theorem I2:OJ 1000 (cA Gm 4062) (xJ name v lam i n2 w3) .normal (λo=>aO 160 [(1,.str name),(2,.str v),(3,.bool bound),(4,.bptr 0 0),(8,.bptr 1 0),(9,.bool v2),(10,.bool o.1),(11,.int .i64 i)] [.cells [.int .i64 m,.str m2,.int .i64 m3,.bsl 2 0 n,.bsl 3 0 n2,.bsl 4 0 n3,sl ah m4] [],.cells [.int .i64 0,.str ([]:ai),.int .i64 0,sl ae m5,sl aj m6,sl au m7,sl ah m8] [(3,28),(4,85),(5,89),(6,60)],.cells (aV ae w2) [],.cells (aV aj o.2) [],.cells (aV cQ w4) [],.dead] []) (aO 160 [(1,.str name),(2,.str v),(3,.bool bound),(4,.bptr 0 0),(8,.bptr 1 0),(9,.bool v2),(10,.bool lam),(11,.int .i64 i)] [.cells [.int .i64 m,.str m2,.int .i64 m3,.bsl 2 0 n,.bsl 3 0 n2,.bsl 4 0 n3,sl ah m4] [],.cells [.int .i64 0,.str ([]:ai),.int .i64 0,sl ae m5,sl aj m6,sl au m7,sl ah m8] [(3,28),(4,85),(5,89),(6,60)],.cells (aV ae w2) [],.cells (aV aj w3) [],.cells (aV cQ w4) [],.dead] []):=Qb.j<|
 tb λx16 bx16=>ts<|tv (er.iaN 3 (k:=.i64) bx16)<|tv (er.ldF (yf x16) (sR x16) bx16)<|tF (tb λx18 bx18=>tb λl19 bl19=>ts<|tv (er.iaN 3 (k:=.i64) bx18)<|SY (er.stG (AR x18 v) bx18 bl19)<|tE)<|tE
end
section
variable(name:ai)(v:ai)(bound:Bool)(v2:Bool)(m:Int)(m2:ai)(m3:Int)(n:Nat)(n2:Nat)(n3:Nat)(m4:waB)(m5:waE)(m6:waC)(m7:waD)(m8:waB)(w2:List ag)(w4:List pQ)(lam:Bool)(i:Int)(w3:List am)
def zN:aB:=aO 160 [(1,.str name),(2,.str v),(3,.bool bound),(4,.bptr 0 0),(8,.bptr 1 0),(9,.bool v2),(10,.bool lam),(11,.int .i64 i)] [.cells [.int .i64 m,.str m2,.int .i64 m3,.bsl 2 0 n,.bsl 3 0 n2,.bsl 4 0 n3,sl ah m4] [],.cells [.int .i64 0,.str ([]:ai),.int .i64 0,sl ae m5,sl aj m6,sl au m7,sl ah m8] [(3,28),(4,85),(5,89),(6,60)],.cells (aV ae w2) [],.cells (aV aj w3) [],.cells (aV cQ w4) [],.dead] []
def Kr(o:Bool×List am):aB:=aO 160 [(1,.str name),(2,.str v),(3,.bool bound),(4,.bptr 0 0),(8,.bptr 1 0),(9,.bool v2),(10,.bool o.1)] [.cells [.int .i64 m,.str m2,.int .i64 m3,.bsl 2 0 n,.bsl 3 0 n2,.bsl 4 0 n3,sl ah m4] [],.cells [.int .i64 0,.str ([]:ai),.int .i64 0,sl ae m5,sl aj m6,sl au m7,sl ah m8] [(3,28),(4,85),(5,89),(6,60)],.cells (aV ae w2) [],.cells (aV aj o.2) [],.cells (aV cQ w4) [],.dead] []
def gw:Option ((Bool×Int×List am)⊕((Bool×List am))):=
 (nq i m n2).bind λo14=>
 if o14=true then
  (xJ name v lam i n2 w3).bind λo20=>
  some (.inl (o20.1,dp (i+1),o20.2))
 else
  some (.inr (lam,w3))
def xK:Option ((Bool×List am)):=loop (λ(zz:Bool×Int×List am)=>gw name v m n2 zz.1 zz.2.1 zz.2.2) (lam,i,w3)
theorem GB:OL 1000 (cA Gm 1015) (gw name v m n2 lam i w3) (λ(zz:Bool×Int×List am)=>zN name v bound v2 m m2 m3 n n2 n3 m4 m5 m6 m7 m8 w2 w4 zz.1 zz.2.1 zz.2.2) (λ_=>.exit 0) (Kr name v bound v2 m m2 m3 n n2 n3 m4 m5 m6 m7 m8 w2 w4) (zN name v bound v2 m m2 m3 n n2 n3 m4 m5 m6 m7 m8 w2 w4 lam i w3):=Qb.l<|
 tb λo14 bo14=>jo 1<|cD (I1 name v bound v2 lam i m m2 m3 n n2 n3 m4 m5 m6 m7 m8 w2 w3 w4 _ bo14)<|tF (tb λo20 bo20=>jo 0<|cD (I2 name v bound v2 lam i m m2 m3 n n2 n3 m4 m5 m6 m7 m8 w2 w3 w4 _ bo20)<|tE)<|tE
def I5:=rE (s:=(lam,i,w3)) λzz=>GB name v bound v2 m m2 m3 n n2 n3 m4 m5 m6 m7 m8 w2 w4 zz.1 zz.2.1 zz.2.2
end
section
variable(R103:jt)(name:ai)(v:ai)(bound:Bool)(v2:Bool)(lam:Bool)(i:Int)(m:Int)(m2:ai)(m3:Int)(n:Nat)(m4:waC)(n2:Nat)(m5:waB)(m6:waE)(m7:waC)(m8:waD)(m9:waB)(w2:List ag)(w4:List pQ)
def vI:Option waE:=
 (pn n w2 i).bind λx24=>
 if bound=true then
  (R103 x24 name v true).bind λr26=>
  (pn n w2 i).bind λx27=>
  (IJ w2 i r26).bind λl28=>
  some l28
 else if lam=true then
  (R103 x24 name v true).bind λr30=>
  (pn n w2 i).bind λx31=>
  (IJ w2 i r30).bind λl32=>
  some l32
 else if v2=true then
  (R103 x24 name v (decide (i>0))).bind λr34=>
  (pn n w2 i).bind λx35=>
  (IJ w2 i r34).bind λl36=>
  some l36
 else
  (R103 x24 name v false).bind λr37=>
  (pn n w2 i).bind λx38=>
  (IJ w2 i r37).bind λl39=>
  some l39
theorem Gw(hR103:mQ R103):OJ 1000 (cA Gm 8158) (vI R103 name v bound v2 lam i n w2) .normal (λo=>aO 160 [(1,.str name),(2,.str v),(3,.bool bound),(4,.bptr 0 0),(8,.bptr 1 0),(9,.bool v2),(10,.bool lam),(12,.int .i64 i)] [.cells [.int .i64 m,.str m2,.int .i64 m3,.bsl 2 0 n,sl aj m4,.bsl 4 0 n2,sl ah m5] [],.cells [.int .i64 0,.str ([]:ai),.int .i64 0,sl ae m6,sl aj m7,sl au m8,sl ah m9] [(3,28),(4,85),(5,89),(6,60)],.cells (aV ae o) [],.dead,.cells (aV cQ w4) [],.dead] []) (aO 160 [(1,.str name),(2,.str v),(3,.bool bound),(4,.bptr 0 0),(8,.bptr 1 0),(9,.bool v2),(10,.bool lam),(12,.int .i64 i)] [.cells [.int .i64 m,.str m2,.int .i64 m3,.bsl 2 0 n,sl aj m4,.bsl 4 0 n2,sl ah m5] [],.cells [.int .i64 0,.str ([]:ai),.int .i64 0,sl ae m6,sl aj m7,sl au m8,sl ah m9] [(3,28),(4,85),(5,89),(6,60)],.cells (aV ae w2) [],.dead,.cells (aV cQ w4) [],.dead] []):=Qb.j<|
 tb λx24 bx24=>tf (λc25=>tb λr26 br26=>tb λx27 bx27=>tb λl28 bl28=>RL (.dx [0,1,0,0,8,0,56,120,0,0,0,1024,3072,7168,15360,31744,64512,130048,261120,523264,1047552,2097144,4194303,8388607] [] [] [4])<|ts<|ts<|tv (cR.iaN 2 (k:=.i64) bx24)<|tv (cR.ldN (mW x24) bx24)<|tg 12 c25<|bM (hR103 _ _ _ _ _ br26)<|tv (cR.iaN 2 (k:=.i64) bx27)<|SY (cR.stR (dR r26) bl28)<|tE) λc25=>tf (λc29=>tb λr30 br30=>tb λx31 bx31=>tb λl32 bl32=>RL (.dx [0,1,0,0,8,0,56,120,0,0,0,1024,3072,7168,15360,31744,64512,130048,261120,523264,1047552,2097144,4194303,8388607] [] [] [4])<|ts<|ts<|tv (cR.iaN 2 (k:=.i64) bx24)<|tv (cR.ldN (mW x24) bx24)<|tg 12 c25<|tg 15 c29<|bM (hR103 _ _ _ _ _ br30)<|tv (cR.iaN 2 (k:=.i64) bx31)<|SY (cR.stR (dR r30) bl32)<|tE) λc29=>tf (λc33=>tb λr34 br34=>tb λx35 bx35=>tb λl36 bl36=>RL (.dx [0,1,0,0,8,0,56,120,0,0,0,1024,3072,7168,15360,31744,64512,130048,261120,523264,1047552,2097144,4194303,8388607] [] [] [4])<|ts<|ts<|tv (cR.iaN 2 (k:=.i64) bx24)<|tv (cR.ldN (mW x24) bx24)<|tg 12 c25<|tg 15 c29<|tg 17 c33<|bM (hR103 _ _ _ _ _ br34)<|tv (cR.iaN 2 (k:=.i64) bx35)<|SY (cR.stR (dR r34) bl36)<|tE) λc33=>tb λr37 br37=>tb λx38 bx38=>tb λl39 bl39=>RL (.dx [0,1,0,0,8,0,56,120,0,0,0,1024,3072,7168,15360,31744,64512,130048,261120,523264,1047552,2097144,4194303,8388607] [] [] [4])<|ts<|ts<|tv (cR.iaN 2 (k:=.i64) bx24)<|tv (cR.ldN (mW x24) bx24)<|tg 12 c25<|tg 15 c29<|tg 17 c33<|bM (hR103 _ _ _ _ _ br37)<|tv (cR.iaN 2 (k:=.i64) bx38)<|SY (cR.stR (dR r37) bl39)<|tE
end
section
variable(R103:jt)(name:ai)(v:ai)(bound:Bool)(v2:Bool)(lam:Bool)(m:Int)(m2:ai)(m3:Int)(n:Nat)(m4:waC)(n2:Nat)(m5:waB)(m6:waE)(m7:waC)(m8:waD)(m9:waB)(w4:List pQ)(i:Int)(w2:List ag)
def zO:aB:=aO 160 [(1,.str name),(2,.str v),(3,.bool bound),(4,.bptr 0 0),(8,.bptr 1 0),(9,.bool v2),(10,.bool lam),(12,.int .i64 i)] [.cells [.int .i64 m,.str m2,.int .i64 m3,.bsl 2 0 n,sl aj m4,.bsl 4 0 n2,sl ah m5] [],.cells [.int .i64 0,.str ([]:ai),.int .i64 0,sl ae m6,sl aj m7,sl au m8,sl ah m9] [(3,28),(4,85),(5,89),(6,60)],.cells (aV ae w2) [],.dead,.cells (aV cQ w4) [],.dead] []
def Ks(o:List ag):aB:=aO 160 [(1,.str name),(2,.str v),(3,.bool bound),(4,.bptr 0 0),(8,.bptr 1 0),(9,.bool v2)] [.cells [.int .i64 m,.str m2,.int .i64 m3,.bsl 2 0 n,sl aj m4,.bsl 4 0 n2,sl ah m5] [],.cells [.int .i64 0,.str ([]:ai),.int .i64 0,sl ae m6,sl aj m7,sl au m8,sl ah m9] [(3,28),(4,85),(5,89),(6,60)],.cells (aV ae o) [],.dead,.cells (aV cQ w4) [],.dead] []
def kL:Option ((Int×List ag)⊕(waE)):=
 if decide (i<(n:Int))=true then
  (vI R103 name v bound v2 lam i n w2).bind λo40=>
  some (.inl (dp (i+1),o40))
 else
  some (.inr w2)
def xL:Option waE:=loop (λ(zz:Int×List ag)=>kL R103 name v bound v2 lam n zz.1 zz.2) (i,w2)
theorem GD(hR103:mQ R103):OL 1000 (cA Gm 2039) (kL R103 name v bound v2 lam n i w2) (λ(zz:Int×List ag)=>zO name v bound v2 lam m m2 m3 n m4 n2 m5 m6 m7 m8 m9 w4 zz.1 zz.2) (λ_=>.exit 2) (Ks name v bound v2 m m2 m3 n m4 n2 m5 m6 m7 m8 m9 w4) (zO name v bound v2 lam m m2 m3 n m4 n2 m5 m6 m7 m8 m9 w4 i w2):=Qb.l<|
 ts<|ct (cR.lnR 2 0 n)<|tF (tb λo40 bo40=>jo 0<|cD (Gw R103 name v bound v2 lam i m m2 m3 n m4 n2 m5 m6 m7 m8 m9 w2 w4 hR103 _ bo40)<|tE)<|tE
def I6(hR103:mQ R103):=rE (s:=(i,w2)) λzz=>GD R103 name v bound v2 lam m m2 m3 n m4 n2 m5 m6 m7 m8 m9 w4 zz.1 zz.2 hR103
end
section
variable(R103:jt)(name:ai)(v:ai)(bound:Bool)(m:Int)(m2:ai)(m3:Int)(n:Nat)(n2:Nat)(n3:Nat)(m4:waB)(m5:waE)(m6:waC)(m7:waD)(m8:waB)(w2:List ag)(w3:List am)(w4:List pQ)
def xH:Option ((ai×waE×waC)):=
 (qX name v bound m m2).bind λo9=>
 (qY name m o9).bind λo11=>
 (xK name v m n2 false 0 w3).bind λo21=>
 (RK n2 o21.2).bind λl22=>
 (xL R103 name v bound o11 o21.1 n 0 w2).bind λo41=>
 (RK n o41).bind λl42=>
 if o11=true then
  some (v,l42,l22)
 else
  some (o9,l42,l22)
theorem IX(hR103:mQ R103):Y9 Pg GE 1000 6 (cA Gm 7) (xH R103 name v bound m m2 n n2 w2 w3) (λo=>aO 160 [(1,.str name),(2,.str v),(3,.bool bound),(4,.bptr 0 0),(8,.bptr 1 0)] [.cells [.int .i64 m,.str o.1,.int .i64 m3,sl ae o.2.1,sl aj o.2.2,.bsl 4 0 n3,sl ah m4] [],.cells [.int .i64 0,.str ([]:ai),.int .i64 0,sl ae m5,sl aj m6,sl au m7,sl ah m8] [(3,28),(4,85),(5,89),(6,60)],.dead,.dead,.cells (aV cQ w4) [],.dead] []) (aO 160 [(1,.str name),(2,.str v),(3,.bool bound),(4,.bptr 0 0),(8,.bptr 1 0)] [.cells [.int .i64 m,.str m2,.int .i64 m3,.bsl 2 0 n,.bsl 3 0 n2,.bsl 4 0 n3,sl ah m4] [],.cells [.int .i64 0,.str ([]:ai),.int .i64 0,sl ae m5,sl aj m6,sl au m7,sl ah m8] [(3,28),(4,85),(5,89),(6,60)],.cells (aV ae w2) [],.cells (aV aj w3) [],.cells (aV cQ w4) [],.dead] []):=Qb.cut<|
 tb λo9 bo9=>tb λo11 bo11=>tb λo21 bo21=>tb λl22 bl22=>tb λo41 bo41=>tb λl42 bl42=>jo 0<|cD (IY name v bound m m2 m3 n n2 n3 m4 m5 m6 m7 m8 w2 w3 w4 _ bo9)<|jo 0<|cD (I0 name v bound m o9 m3 n n2 n3 m4 m5 m6 m7 m8 w2 w3 w4 _ bo11)<|cD (I5 name v bound o11 m o9 m3 n n2 n3 m4 m5 m6 m7 m8 w2 w4 false 0 w3 _ bo21)<|Vt 3 (l22.map aj) [1,2,3,4,8,9,10] [2,4] (er.fz1 (m:=1000) (b:=3) rfl l22) (er.fz2 3 l22) (Yo aj bl22)<|tq (Yp aj bl22)<|tq (iD 3 (p:=sl ah m4) (aH bU m4))<|tq (iD 3 (p:=sl ae m5) (aH a8 m5))<|tq (iD 3 (p:=sl aj m6) (aH bH m6))<|tq (iD 3 (p:=sl au m7) (aH dm m7))<|tq (iD 3 (p:=sl ah m8) (aH bU m8))<|tq (WO 3 a8 w2)<|tq (WO 3 Bz w4)<|cD (I6 R103 name v bound o11 o21.1 m o9 m3 n l22 n3 m4 m5 m6 m7 m8 w4 0 w2 hR103 _ bo41)<|Vt 2 (l42.map ae) [1,2,3,4,8,9] [4] (cR.fz1 (m:=1000) (b:=2) rfl l42) (cR.fz2 2 l42) (Yo ae bl42)<|tq (Yp ae bl42)<|tq (iD 2 (p:=sl aj l22) (aH bH l22))<|tq (iD 2 (p:=sl ah m4) (aH bU m4))<|tq (iD 2 (p:=sl ae m5) (aH a8 m5))<|tq (iD 2 (p:=sl aj m6) (aH bH m6))<|tq (iD 2 (p:=sl au m7) (aH dm m7))<|tq (iD 2 (p:=sl ah m8) (aH bU m8))<|tq (WO 2 Bz w4)<|tF (ts<|tE)<|tE
end
section
variable(name:ai)(v:ai)(bound:Bool)(m:Int)(m2:ai)(m3:Int)(m4:waE)(m5:waC)(n:Nat)(m6:waB)(m7:waE)(m8:waC)(m9:waD)(m10:waB)(w4:List pQ)
def MK:Option Unit:=
 some ()
theorem Gx:OU 1000 (cA Gm 2044) MK .normal (λo=>[(13,.int .i64 0)]) (aO 160 [(1,.str name),(2,.str v),(3,.bool bound),(4,.bptr 0 0),(8,.bptr 1 0)] [.cells [.int .i64 m,.str m2,.int .i64 m3,sl ae m4,sl aj m5,.bsl 4 0 n,sl ah m6] [],.cells [.int .i64 0,.str ([]:ai),.int .i64 0,sl ae m7,sl aj m8,sl au m9,sl ah m10] [(3,28),(4,85),(5,89),(6,60)],.dead,.dead,.cells (aV cQ w4) [],.dead] []):=Qb.j<|
 tE
end
section
variable(name:ai)(v:ai)(bound:Bool)(i:Int)(inner:Bool)(k:Int)(m:Int)(m2:ai)(m3:Int)(m4:waE)(m5:waC)(n:Nat)(m6:waB)(m7:waE)(m8:waC)(m9:waD)(m10:waB)(w4:List dD)(w5:List ai)
def vJ:Option ((Bool×List ai)):=
 (pn n w4 i).bind λx50=>
 (Vo 5 x50.NV).bind λn51=>
 (pn n51 w5 k).bind λx52=>
 if(x52==name)=true then
  (pn n w4 i).bind λx54=>
  (Vo 5 x54.NV).bind λn55=>
  (pn n55 w5 k).bind λx56=>
  (IJ w5 k v).bind λl57=>
  some (true,l57)
 else
  some (inner,w5)
theorem Gy:OJ 1000 (cA Gm 8380126) (vJ name v i inner k n w4 w5) .normal (λo=>aO 160 [(1,.str name),(2,.str v),(3,.bool bound),(4,.bptr 0 0),(8,.bptr 1 0),(13,.int .i64 i),(14,.bool o.1),(15,.int .i64 k)] [.cells [.int .i64 m,.str m2,.int .i64 m3,sl ae m4,sl aj m5,.bsl 4 0 n,sl ah m6] [],.cells [.int .i64 0,.str ([]:ai),.int .i64 0,sl ae m7,sl aj m8,sl au m9,sl ah m10] [(3,28),(4,85),(5,89),(6,60)],.dead,.dead,.cells (aV bp w4) [],.cells (aV cS o.2) []] []) (aO 160 [(1,.str name),(2,.str v),(3,.bool bound),(4,.bptr 0 0),(8,.bptr 1 0),(13,.int .i64 i),(14,.bool inner),(15,.int .i64 k)] [.cells [.int .i64 m,.str m2,.int .i64 m3,sl ae m4,sl aj m5,.bsl 4 0 n,sl ah m6] [],.cells [.int .i64 0,.str ([]:ai),.int .i64 0,sl ae m7,sl aj m8,sl au m9,sl ah m10] [(3,28),(4,85),(5,89),(6,60)],.dead,.dead,.cells (aV bp w4) [],.cells (aV cS w5) []] []):=Qb.j<|
 tb λx50 bx50=>tb λn51 bn51=>tb λx52 bx52=>ts<|tv (gj.iaN 4 (k:=.i64) bx50)<|tv (gj.ldF (mK x50) (Sx bn51) bx50)<|tv (b8.iaN 5 (k:=.i64) bx52)<|tv (b8.ldN (λr=>cw BZ (.str x52) r) bx52)<|tF (tb λx54 bx54=>tb λn55 bn55=>tb λx56 bx56=>tb λl57 bl57=>ts<|tv (gj.iaN 4 (k:=.i64) bx54)<|tv (gj.ldF (mK x54) (Sx bn55) bx54)<|tv (b8.iaN 5 (k:=.i64) bx56)<|SY (b8.stR (qaF v) bl57)<|tE)<|tE
end
section
variable(name:ai)(v:ai)(bound:Bool)(i:Int)(m:Int)(m2:ai)(m3:Int)(m4:waE)(m5:waC)(n:Nat)(m6:waB)(m7:waE)(m8:waC)(m9:waD)(m10:waB)(w4:List dD)(inner:Bool)(k:Int)(w5:List ai)
def yG:aB:=aO 160 [(1,.str name),(2,.str v),(3,.bool bound),(4,.bptr 0 0),(8,.bptr 1 0),(13,.int .i64 i),(14,.bool inner),(15,.int .i64 k)] [.cells [.int .i64 m,.str m2,.int .i64 m3,sl ae m4,sl aj m5,.bsl 4 0 n,sl ah m6] [],.cells [.int .i64 0,.str ([]:ai),.int .i64 0,sl ae m7,sl aj m8,sl au m9,sl ah m10] [(3,28),(4,85),(5,89),(6,60)],.dead,.dead,.cells (aV bp w4) [],.cells (aV cS w5) []] []
def I4(o:Bool×List ai):aB:=aO 160 [(1,.str name),(2,.str v),(3,.bool bound),(4,.bptr 0 0),(8,.bptr 1 0),(13,.int .i64 i),(14,.bool o.1)] [.cells [.int .i64 m,.str m2,.int .i64 m3,sl ae m4,sl aj m5,.bsl 4 0 n,sl ah m6] [],.cells [.int .i64 0,.str ([]:ai),.int .i64 0,sl ae m7,sl aj m8,sl au m9,sl ah m10] [(3,28),(4,85),(5,89),(6,60)],.dead,.dead,.cells (aV bp w4) [],.cells (aV cS o.2) []] []
def jR:Option ((Bool×Int×List ai)⊕((Bool×List ai))):=
 (pn n w4 i).bind λx47=>
 (Vo 5 x47.NV).bind λn48=>
 if decide (k<(n48:Int))=true then
  (vJ name v i inner k n w4 w5).bind λo58=>
  some (.inl (o58.1,dp (k+1),o58.2))
 else
  some (.inr (inner,w5))
def vK:Option ((Bool×List ai)):=loop (λ(zz:Bool×Int×List ai)=>jR name v i n w4 zz.1 zz.2.1 zz.2.2) (inner,k,w5)
theorem Ex:OL 1000 (cA Gm 2095031) (jR name v i n w4 inner k w5) (λ(zz:Bool×Int×List ai)=>yG name v bound i m m2 m3 m4 m5 n m6 m7 m8 m9 m10 w4 zz.1 zz.2.1 zz.2.2) (λ_=>.exit 6) (I4 name v bound i m m2 m3 m4 m5 n m6 m7 m8 m9 m10 w4) (yG name v bound i m m2 m3 m4 m5 n m6 m7 m8 m9 m10 w4 inner k w5):=Qb.l<|
 tb λx47 bx47=>tb λn48 bn48=>ts<|tv (gj.iaN 4 (k:=.i64) bx47)<|tv (gj.ldF (mK x47) (Sx bn48) bx47)<|ct (b8.lnR 5 0 n48)<|tF (tb λo58 bo58=>jo 0<|cD (Gy name v bound i inner k m m2 m3 m4 m5 n m6 m7 m8 m9 m10 w4 w5 _ bo58)<|tE)<|tE
def GA:=rE (s:=(inner,k,w5)) λzz=>Ex name v bound i m m2 m3 m4 m5 n m6 m7 m8 m9 m10 w4 zz.1 zz.2.1 zz.2.2
end
section
variable(R103:jt)(name:ai)(v:ai)(bound:Bool)(m:Int)(m2:ai)(m3:Int)(m4:waE)(m5:waC)(n:Nat)(m6:waB)(m7:waE)(m8:waC)(m9:waD)(m10:waB)(i:Int)(w4:List dD)(w5:List ai)
def yF:aB:=aO 160 [(1,.str name),(2,.str v),(3,.bool bound),(4,.bptr 0 0),(8,.bptr 1 0),(13,.int .i64 i)] [.cells [.int .i64 m,.str m2,.int .i64 m3,sl ae m4,sl aj m5,.bsl 4 0 n,sl ah m6] [],.cells [.int .i64 0,.str ([]:ai),.int .i64 0,sl ae m7,sl aj m8,sl au m9,sl ah m10] [(3,28),(4,85),(5,89),(6,60)],.dead,.dead,.cells (aV bp w4) [],.cells (aV cS w5) []] []
def I3(o:List dD×List ai):aB:=aO 160 [(4,.bptr 0 0),(8,.bptr 1 0)] [.cells [.int .i64 m,.str m2,.int .i64 m3,sl ae m4,sl aj m5,.bsl 4 0 n,sl ah m6] [],.cells [.int .i64 0,.str ([]:ai),.int .i64 0,sl ae m7,sl aj m8,sl au m9,sl ah m10] [(3,28),(4,85),(5,89),(6,60)],.dead,.dead,.cells (aV bp o.1) [],.cells (aV cS o.2) []] []
def qg:Option ((Int×List dD×List ai)⊕((List dD×List ai))):=
 if decide (i<(n:Int))=true then
  (vK name v i n w4 bound 0 w5).bind λo59=>
  (pn n w4 i).bind λx60=>
  (R103 x60.Body name v o59.1).bind λr61=>
  (pn n w4 i).bind λx62=>
  (IJ w4 i (⟨x62.Con,x62.NV,r61⟩:dD)).bind λl63=>
  some (.inl (dp (i+1),l63,o59.2))
 else
  some (.inr (w4,w5))
theorem uq(hR103:mQ R103):OL 1000 (cA Gm 8183) (qg R103 name v bound n i w4 w5) (λ(zz:Int×List dD×List ai)=>yF name v bound m m2 m3 m4 m5 n m6 m7 m8 m9 m10 zz.1 zz.2.1 zz.2.2) (λ_=>.exit 4) (I3 m m2 m3 m4 m5 n m6 m7 m8 m9 m10) (yF name v bound m m2 m3 m4 m5 n m6 m7 m8 m9 m10 i w4 w5):=Qb.l<|
 ts<|ct (dc.lnR 4 0 n)<|tF (tb λo59 bo59=>tb λx60 bx60=>tb λr61 br61=>tb λx62 bx62=>tb λl63 bl63=>cD (GA name v bound i m m2 m3 m4 m5 n m6 m7 m8 m9 m10 w4 bound 0 w5 _ bo59)<|RL (.dx [0,1,0,0,8,0,56,120,248,0,0,0,4088,8191,16383,32767] [] [] [8])<|ts<|ts<|tv (gj.iaN 4 (k:=.i64) bx60)<|tv (gj.ldF (Lw x60) (CU x60) bx60)<|bM (hR103 _ _ _ _ _ br61)<|tv (gj.iaN 4 (k:=.i64) bx62)<|SY (gj.stG (Dd x62 r61) bx62 bl63)<|tE)<|tE
end
section
variable(m:Int)(m2:ai)(m3:Int)(m4:waE)(m5:waC)(n:Nat)(m6:waB)(m7:waE)(m8:waC)(m9:waD)(m10:waB)(w4:List az)
def CD:Option ((waD×waD)):=
 (RK n w4).bind λl65=>
 some (l65,l65)
theorem Gz:OJ 1000 (cA Gm 1023) (CD n w4) .ret (λo=>aO 160 [(8,.bptr 1 0)] [.cells [.int .i64 m,.str m2,.int .i64 m3,sl ae m4,sl aj m5,sl au o.1,sl ah m6] [],.cells [.int .i64 m,.str m2,.int .i64 m3,sl ae m4,sl aj m5,sl au o.2,sl ah m6] [],.dead,.dead,.dead,.dead] []) (aO 160 [(4,.bptr 0 0),(8,.bptr 1 0)] [.cells [.int .i64 m,.str m2,.int .i64 m3,sl ae m4,sl aj m5,.bsl 4 0 n,sl ah m6] [],.cells [.int .i64 0,.str ([]:ai),.int .i64 0,sl ae m7,sl aj m8,sl au m9,sl ah m10] [(3,28),(4,85),(5,89),(6,60)],.dead,.dead,.cells (aV au w4) [],.dead] []):=Qb.jf<|
 tb λl65 bl65=>Vt 4 (l65.map au) [4,8] [] (dc.fz1 (m:=1000) (b:=4) rfl l65) (dc.fz2 4 l65) (Yo au bl65)<|tq (iD 4 (p:=sl ae m4) (aH a8 m4))<|tq (iD 4 (p:=sl aj m5) (aH bH m5))<|tq (Yp au bl65)<|tq (iD 4 (p:=sl ah m6) (aH bU m6))<|tq (iD 4 (p:=sl ae m7) (aH a8 m7))<|tq (iD 4 (p:=sl aj m8) (aH bH m8))<|tq (iD 4 (p:=sl au m9) (aH dm m9))<|tq (iD 4 (p:=sl ah m10) (aH bU m10))<|tv (aK (⟨m,m2,m3,m4,m5,l65,m6⟩:ag) [])<|tx (dn (⟨m,m2,m3,m4,m5,l65,m6⟩:ag))<|tE
end
def Bx(n y s:ai):ai:=if(s==n)=true then y else s
def Qs(n y:ai)(t:Bool)(ps:List am):List am:=if t=true then ps.map (λp=>⟨Bx n y p.Name,p.Type_⟩)else ps
def XG(n y:ai)(o:Int)(m:ai)(b:Bool):ai:=if((o==7||b&&(o==3||o==5))&&m==n)=true then y else m
def lN(n:ai)(o:Int)(ps:List am):Bool:=o==6&&ps.any λp=>p.Name==n
def qj(n:ai)(o:Int)(m:ai):Bool:=o==7&&m==n
mutual
def JI(n y:ai):ag->Bool->ag
 |⟨o,m,k,ks,ps,as1,ts⟩,b=>⟨o,XG n y o m b,k,NE n y ks (b||lN n o ps) (b||lN n o ps||qj n o m),Qs n y (o==6) ps,Vp n y as1 b,ts⟩
def By(n y:ai):az->Bool->az
 |⟨c,ns,e⟩,b=>⟨c,ns.map (Bx n y),JI n y e (b||ns.any λs=>s==n)⟩
def NE(n y:ai):List ag->Bool->Bool->List ag
 |[],_,_=>[]
 |e::l,b0,b1=>JI n y e b0::NE n y l b1 b1
def Vp(n y:ai):List az->Bool->List az
 |[],_=>[]
 |x::l,b=>By n y x b::Vp n y l b
end
def U7(n y:ai)(o:Int)(m:ai):ai:=if((o==3||o==5)&&m==n)=true then y else m
mutual
def Xt(n y:ai):ag->ag
 |⟨o,m,k,ks,ps,as1,ts⟩=>⟨o,U7 n y o m,k,Rv n y ks (lN n o ps) (lN n o ps||qj n o m),ps,T4 n y as1,ts⟩
def qa0(n y:ai):az->az
 |⟨c,ns,e⟩=>⟨c,ns,if(ns.any λs=>s==n)=true then e else Xt n y e⟩
def Rv(n y:ai):List ag->Bool->Bool->List ag
 |[],_,_=>[]
 |e::l,b0,b1=>(if b0=true then e else Xt n y e)::Rv n y l b1 b1
def T4(n y:ai):List az->List az
 |[]=>[]
 |x::l=>qa0 n y x::T4 n y l
end
theorem WD{σ X:Type}(n:Nat)(body:σ->Option (σ⊕X))(S:Nat->σ)(e:X)(hin:∀i,i<n->body (S i)=some (.inl (S (i+1))))(hend:body (S n)=some (.inr e)):loop body (S 0)=some e:=by
 have key:∀k i,k+i=n->loop body (S i)=some e:=by
  intro k
  induction k with
  |zero=>
   intro i hi
   have:i=n:=by omega
   subst this
   rw[gP,hend]
  |succ k ih=>
   intro i hi
   rw[gP,hin i (by omega)]
   exact ih (i+1) (by omega)
 exact key n 0 (by omega)
theorem pK{α:Type}{A B:List α}{x:α}{n:Nat}(h:A.length<n):pn n (A++x::B) (A.length:Int)=some x:=by
 unfold pn
 rw[vah ⟨by omega,by simpa using h⟩,Int.toNat_natCast,vaf (var _),vbp]
 rfl
theorem mG{α:Type}{A B:List α}{x y:α}:IJ (A++x::B) (A.length:Int) y=some (A++y::B):=by
 unfold IJ
 rw[vah ⟨by omega,by simp⟩,Int.toNat_natCast,vcf _ _ (var _),vbp]
 rfl
theorem Fg{α τ X:Type}(l l':List α)(hl:l'.length=l.length)(mk:Nat->List α->τ)(body:τ->Option (τ⊕X))(e:X)
  (hin:∀(A B:List α) (x x':α),l[A.length]? =some x->l'[A.length]? =some x'->body (mk A.length (A++x::B))=some (.inl (mk (A.length+1) (A++x'::B)))) (hend:body (mk l.length l')=some (.inr e)):loop body (mk 0 l)=some e:=by
 have:=WD (X:=X) l.length body (λi=>mk i (l'.take i++l.drop i)) e (λi hi=>?_) (by rw[vcM,va6,<-hl,vaG,hl];exact hend)
 ·simpa using this
 ·have hi':i<l'.length:=by omega
  have h1:l.drop i=l[i]::l.drop (i+1):=vbx hi
  have h2:l'.take (i+1)=l'.take i++[l'[i]]:=(vb8 hi').symm
  have h3:(l'.take i).length=i:=by rw[vaQ];omega
  have:=hin (l'.take i) (l.drop (i+1)) l[i] l'[i] (by rw[h3];exact vab hi) (by rw[h3];exact vab hi')
  rw[h3]at this
  rw[h1,h2,vaL]
  exact this
theorem nG{α:Type}{l:List α}{n:Nat}(h:n=l.length):RK n l=some l:=by unfold RK;rw[vah h]
theorem Nv{i:Nat}(h:i<9223372036854775807):dp ((i:Int)+1)=((i+1:Nat):Int):=(S5 (by omega) (by omega)).trans (by omega)
end Go.Proofs.YtkdahfeiedaahaaGreatDoor
