/- PROVED: a part of the proof. Conditions: none. -/
import Derived.Test.YtkdahfeiedaahaaGreatDoorPkR16
set_option linter.unusedSimpArgs false
set_option linter.unusedVariables false
noncomputable section
namespace Go.Proofs.YtkdahfeiedaahaaGreatDoor
open Go Go.Proofs.Tryz
set_option linter.unusedVariables false
mutual
def RJ:ag->Bool
 |⟨o,m,k,ks,ps,as1,ts⟩=>Yh ⟨o,m,k,ks,ps,as1,ts⟩&&qay ks&&qaz as1
def qay:List ag->Bool
 |[]=>true
 |e::l=>RJ e&&qay l
def qaz:List az->Bool
 |[]=>true
 |a::l=>qcE a&&qaz l
def qcE:az->Bool
 |⟨_,_,e⟩=>RJ e
end
theorem Tl:∀{l:List ag},qay l=true->∀x∈l,RJ x=true
 |[],_,x,hx=>by cases hx
 | e :: l,h,x,hx => by
  rw[qay,vad]at h
  rcases vaB.1 hx with rfl|hx
  ·exact h.1
  ·exact Tl h.2 x hx
theorem Tm:∀{l:List az},qaz l=true->∀x∈l,RJ x.Body=true
 |[],_,x,hx=>by cases hx
 | e :: l,h,x,hx => by
  rw[qaz,vad]at h
  rcases vaB.1 hx with rfl|hx
  ·obtain⟨c,ns,b⟩:=x
   have:=h.1
   rw[qcE]at this
   exact this
  ·exact Tm h.2 x hx
theorem Ph{o:Int}{m:ai}{k:Int}{ks:List ag}{ps:List am}{as1:List az}{ts:List al}(h:RJ ⟨o,m,k,ks,ps,as1,ts⟩=true):Yh ⟨o,m,k,ks,ps,as1,ts⟩=true/\(∀x∈ks,RJ x=true)/\∀a∈as1,RJ a.Body=true:=by
 rw[RJ,vad,vad]at h
 exact⟨h.1.1,Tl h.1.2,Tm h.2⟩
theorem Xz{o:Int}{m:ai}{k:Int}{ks:List ag}{ps:List am}{as1:List az}{ts:List al}{x:ag}(hx:x∈ks):SizeOf.sizeOf x<SizeOf.sizeOf (ag.mk o m k ks ps as1 ts):=by
 have:=vcV hx
 simp only[ag.mk.sizeOf_spec]
 omega
theorem Xy{o:Int}{m:ai}{k:Int}{ks:List ag}{ps:List am}{as1:List az}{ts:List al}{a:az}(ha:a∈as1):SizeOf.sizeOf a.Body<SizeOf.sizeOf (ag.mk o m k ks ps as1 ts):=by
 have:=vcV ha
 obtain⟨c,ns,b⟩:=a
 simp only[ag.mk.sizeOf_spec,az.mk.sizeOf_spec,az.Body]at this ⊢
 omega
theorem Tk{o:Int}{m:ai}{k:Int}{ks:List ag}{ps:List am}{as1:List az}{ts:List al}(h:Yh ⟨o,m,k,ks,ps,as1,ts⟩=true):ks.length<=bo/\ps.length<=bo/\as1.length<=bo/\∀a∈as1,a.Names.length<=bo:=by
 unfold Yh at h
 rw[vad,vad,vad]at h
 exact⟨va7 h.1.1.1,va7 h.1.1.2,va7 h.1.2,λa ha=>va7 (vas.1 h.2 a ha)⟩
section
variable{n y:ai}
theorem qbB(b:Bool)(o:Int)(m:ai):qX n y b o m=some (if(b&&(o==3||o==5)&&m==n)=true then y else m):=by
 unfold qX xI
 cases b<;>cases(o==3)<;>cases(o==5)<;>cases(m==n)<;>rfl
theorem qbC(o:Int)(m:ai):qY n o m=some (o==7&&m==n):=by
 unfold qY
 cases(o==7)<;>rfl
theorem qbD(o:Int)(ps:List am)(hp:ps.length<=bo):xK n y o ps.length false 0 ps=some (lN n o ps,Qs n y (o==6) ps):=by
 have hq:ps.length<9223372036854775807:=by unfold bo at hp;omega
 unfold xK
 cases ho:(o==6)with
 | false =>
  rw[gP]
  have hb:gw n y o ps.length false 0 ps=some (.inr (false,ps)):=by
   unfold gw nq
   rw[ho]
   split<;>rfl
  rw[hb]
  unfold lN Qs
  rw[ho]
  rfl
 | true =>
  have hl:lN n o ps=ps.any λp=>p.Name==n:=by unfold lN;rw[ho];rfl
  have ha:Qs n y true ps=ps.map λp=>⟨Bx n y p.Name,p.Type_⟩:=rfl
  rw[hl,ha]
  refine Fg ps (ps.map λp=>⟨Bx n y p.Name,p.Type_⟩) (by simp) (λi w=>((ps.take i).any (λp=>p.Name==n),(i:Int),w)) (λzz=>gw n y o ps.length zz.1 zz.2.1 zz.2.2) _ (λA B x x' hx hx'=>?_) ?_
  ·have hlt:A.length<ps.length:=aq hx
   rw[vav,hx]at hx'
   simp only[vak,vax]at hx'
   subst hx'
   have htk:ps.take (A.length+1)=ps.take A.length++[x]:=by
    rw[<-vb8 hlt]
    rw[vab hlt]at hx
    rw[vbb hx]
   simp only[htk,vcq,List.any_cons,List.any_nil,vck]
   unfold gw nq xJ
   rw[vah (by simpa using hlt),ho,vaa,vah rfl,pK hlt]
   simp only[vaa]
   rw[Nv (by omega)]
   cases hn:(x.Name==n)with
   |true=>
    simp only[if_true,mG,vaa,Bool.or_true,Bx,hn]
   |false=>
    simp only[vaD,if_false,vaa,vck,Bx,hn]
  ·simp only[vaG]
   unfold gw nq
   rw[van (by simp)]
   rfl
theorem Th:∀{ks:List ag} {b0 b1:Bool} {i:Nat},(NE n y ks b0 b1)[i]? =(ks[i]?).map λx=>JI n y x (if i=0 then b0 else b1)
 |[],b0,b1,i=>by rw[NE];simp
 |e::l,b0,b1,0=>by rw[NE];simp
 |e::l,b0,b1,i+1=>by
  rw[NE,List.getElem?_cons_succ,List.getElem?_cons_succ,Th]
  simp
theorem O4:∀(ks:List ag) (b0 b1:Bool),(NE n y ks b0 b1).length=ks.length
 |[],b0,b1=>by rw[NE]
 |e::l,b0,b1=>by rw[NE,vau,vau,O4 l]
theorem qbE{R:jt}(b lt lam:Bool)(ks:List ag)(hk:ks.length<=bo)(hR:∀x∈ks,∀b',R x n y b'=some (JI n y x b')):xL R n y b lt lam ks.length 0 ks=some (NE n y ks (b||lam) (b||lam||lt)):=by
 have hq:ks.length<9223372036854775807:=by unfold bo at hk;omega
 unfold xL
 refine Fg ks (NE n y ks (b||lam) (b||lam||lt)) (O4 ks _ _) (λi w=>((i:Int),w)) (λzz=>kL R n y b lt lam ks.length zz.1 zz.2) _ (λA B x x' hx hx'=>?_) ?_
 ·have hlt:A.length<ks.length:=aq hx
  rw[Th,hx]at hx'
  simp only[vak,vax]at hx'
  subst hx'
  have hr:=hR x (vaA hx)
  unfold kL vI
  simp only
  rw[vah (by simpa using hlt),pK hlt]
  simp only[vaa,hr,mG]
  rw[Nv (by omega)]
  have hz:decide ((A.length:Int)>0)=decide (¬A.length=0):=by rw[decide_eq_decide];omega
  cases b with
  |true=>simp
  | false =>
   cases lam with
   |true=>simp
   | false =>
    cases lt with
    |true=>
     simp only[vaD,if_false,if_true,hz,vck,vb3]
     by_cases h0:A.length=0<;>simp[h0]
    |false=>simp
 ·unfold kL
  simp only
  rw[van (by simp)]
theorem qbA{R:jt}{b:Bool}{o:Int}{m:ai}{ks:List ag}{ps:List am}(hk:ks.length<=bo)(hp:ps.length<=bo)(hR:∀x∈ks,∀b',R x n y b'=some (JI n y x b')):xH R n y b o m ks.length ps.length ks ps=some (XG n y o m b,NE n y ks (b||lN n o ps) (b||lN n o ps||qj n o m),Qs n y (o==6) ps):=by
 unfold xH
 rw[qbB,vaa,qbC,vaa,qbD o ps hp,vaa]
 have hpl:(Qs n y (o==6) ps).length=ps.length:=by unfold Qs;split<;>simp
 have hlt:(o==7&&(if(b&&(o==3||o==5)&&m==n)=true then y else m)==n)=qj n o m:=by
  unfold qj
  cases h7:(o==7)with
  |false=>rfl
  |true=>
   have:o=7:=by simpa using h7
   subst this
   simp
 simp only
 rw[hlt,nG hpl.symm,vaa,qbE b _ _ ks hk hR,vaa,nG (O4 ks _ _).symm,vaa]
 unfold XG
 cases h7:(o==7)with
 |false=>
  have:qj n o m=false:=by unfold qj;rw[h7];rfl
  rw[this]
  simp only[vaD,if_false,vb3]
 |true=>
  have:o=7:=by simpa using h7
  subst this
  unfold qj
  cases hm:(m==n)<;>simp
theorem ZY{i:Int}{n0:Nat}{w4:List dD}{x:dD}{ns:List ai}(b:Bool)(hx:pn n0 w4 i=some x)(hv:Vo 5 x.NV=some ns.length)(hl:ns.length<=bo):vK n y i n0 w4 b 0 ns=some (b||ns.any (λs=>s==n),ns.map (Bx n y)):=by
 have hq:ns.length<9223372036854775807:=by unfold bo at hl;omega
 unfold vK
 refine Eq.trans ?_ (Fg ns (ns.map (Bx n y)) (by simp) (λi w=>(b||(ns.take i).any (λs=>s==n),(i:Int),w)) (λzz=>jR n y i n0 w4 zz.1 zz.2.1 zz.2.2) (b||ns.any (λs=>s==n),ns.map (Bx n y)) (λA B x1 x' hx1 hx'=>?_) ?_)
 ·simp
 ·have hlt:A.length<ns.length:=aq hx1
  rw[vav,hx1]at hx'
  simp only[vak,vax]at hx'
  subst hx'
  have htk:ns.take (A.length+1)=ns.take A.length++[x1]:=by
   rw[<-vb8 hlt]
   rw[vab hlt]at hx1
   rw[vbb hx1]
  simp only[htk,vcq,List.any_cons,List.any_nil,vck]
  unfold jR vJ
  simp only[hx,vaa,hv]
  rw[vah (by simpa using hlt),pK hlt]
  simp only[vaa]
  rw[Nv (by omega)]
  cases hn:(x1==n)with
  |true=>simp only[if_true,mG,vaa,Bool.or_true,Bx,hn]
  |false=>simp only[vaD,if_false,vaa,vck,Bx,hn]
 ·simp only[vaG]
  unfold jR
  simp only[hx,vaa,hv]
  rw[van (by simp)]
end
abbrev O5(n y:ai)(b:Bool)(o:Int)(m:ai)(k:Int)(ks:List ag)(ps:List am)(nA:Nat)(ts:List al)(i:Nat)(w4:List dD)(B5:aA):aB:=
 aO 160 [(1,.str n),(2,.str y),(3,.bool b),(4,.bptr 0 0),(8,.bptr 1 0),(13,.int .i64 (i:Int))] [.cells [.int .i64 o,.str m,.int .i64 k,sl ae ks,sl aj ps,.bsl 4 0 nA,sl ah ts] [],.cells [.int .i64 0,.str ([]:ai),.int .i64 0,sl ae [],sl aj [],sl au [],sl ah []] [(3,28),(4,85),(5,89),(6,60)],.dead,.dead,.cells (aV bp w4) [],B5] []
def Zc(n y:ai)(b:Bool)(P A:List az)(vs:List Value):List dD:=(P.map λa=>By n y a b).map rX++(lS A vs).map uf
theorem Qt:∀(k:Nat) (e:ag),SizeOf.sizeOf e<k->RJ e=true->∀(n y:ai) (b:Bool),CC Pg GE 60 [.agg (ae e),.str n,.str y,.bool b] (.agg (ae (JI n y e b))) []
 |0,e,hk,_,_,_,_=>absurd hk (vaS _)
 | K + 1,⟨o,m,k,ks,ps,as1,ts⟩,hk,hok,n,y,b => by
  let R:jt:=λe' n' y' b'=>if RJ e'=true/\SizeOf.sizeOf e'<K then some (JI n' y' e' b')else none
  have hR:mQ R:=λe' n' y' b' r h=>by
   simp only[R]at h
   split at h
   ·rename_i hh;cases h;exact Qt K e' hh.2 hh.1 n' y' b'
   ·cases h
  obtain⟨h1,h2,h3⟩:=Ph hok
  obtain⟨c1,c2,c3,c4⟩:=Tk h1
  have hRk:∀x∈ks,∀b',R x n y b'=some (JI n y x b'):=λx hx b'=>by
   have:=Xz (o:=o) (m:=m) (k:=k) (ps:=ps) (as1:=as1) (ts:=ts) hx
   simp only[R]
   rw[vah ⟨h2 x hx,by omega⟩]
  have hRa:∀a∈as1,∀b',R a.Body n y b'=some (JI n y a.Body b'):=λa ha b'=>by
   have:=Xy (o:=o) (m:=m) (k:=k) (ks:=ks) (ps:=ps) (ts:=ts) ha
   simp only[R]
   rw[vah ⟨h3 a ha,by omega⟩]
  have hav:JI n y ⟨o,m,k,ks,ps,as1,ts⟩ b=⟨o,XG n y o m b,k,NE n y ks (b||lN n o ps) (b||lN n o ps||qj n o m),Qs n y (o==6) ps,as1.map λa=>By n y a b,ts⟩:=by
   rw[JI]
   have:∀l:List az,Vp n y l b=l.map λa=>By n y a b:=λl=>by
    induction l with
    |nil=>rw[Vp];rfl
    |cons a l ih=>rw[Vp,ih];rfl
   rw[this]
  rw[hav]
  generalize hm':XG n y o m b=m'
  generalize hks':NE n y ks (b||lN n o ps) (b||lN n o ps||qj n o m)=ks'
  generalize hps':Qs n y (o==6) ps=ps'
  refine⟨⟨a8 _,vzz,vzz,vzz,vzz⟩,C.ofSat Qb.1 Qb.2.1 Qb.2.2.1 ((cy.sat (Q:=λe' st _=>e'=.ret/\st=aO 160 [(8,.bptr 1 0)] [.cells [.int .i64 o,.str m',.int .i64 k,sl ae ks',sl aj ps',sl au (as1.map λa=>By n y a b),sl ah ts] [],.cells [.int .i64 o,.str m',.int .i64 k,sl ae ks',sl aj ps',sl au (as1.map λa=>By n y a b),sl ah ts] [],.dead,.dead,.dead,.dead] []) ?_).imp λe' st hx=>?_)⟩
  ·show cy Pg GE 0 Gm _ (aO 160 [(0,.agg (ae ⟨o,m,k,ks,ps,as1,ts⟩)),(1,.str n),(2,.str y),(3,.bool b)] [] []) []
   have hroot:Gm=cA Gm 1:=by kernel_rfl
   rw[hroot]
   refine(IW ⟨o,m,k,ks,ps,as1,ts⟩ n y b).x (x:=([],[],[],[])) rfl (by decide) (by decide) ?_
   have e1:Ib 1 (cA Gm 1)=.seq (cA Gm 6) (cA Gm 7):=by kernel_rfl
   rw[e1]
   refine cy.seq (cy.copied (e:=⟨o,m,k,ks,ps,as1,ts⟩) (p:=4) (t0:=16) (t1:=17) h1 (by kernel_rfl) (by kernel_rfl) (by kernel_rfl) (by kernel_rfl) (by kernel_rfl) (by kernel_rfl) (by kernel_rfl) (by kernel_rfl) (by kernel_rfl) (by kernel_rfl) (by kernel_rfl) (by kernel_rfl) (by kernel_rfl) (by kernel_rfl) (by kernel_rfl)
    (by kernel_rfl) (by kernel_rfl) (by kernel_rfl) (by decide) (by decide) rfl rfl (λr=>by kernel_rfl) (λvals hl=>?_))
   show cy Pg GE 0 (cA Gm 7) _ _ _
   refine(IX R n y b o m k ks.length ps.length as1.length ts [] [] [] [] ks ps (lS as1 vals) hR).x (x:=(m',ks',ps')) (by rw[qbA c1 c2 hRk,hm',hks',hps']) (by decide) (by decide) ?_
   have e2:Ib 6 (cA Gm 7)=.seq (.seq (cA Gm 2044) (.block 4 (.loop (cA Gm 8183)))) (cA Gm 1023):=by kernel_rfl
   rw[e2]
   refine cy.seq (cy.seq (cy.piece (r:=()) (Gx n y b o m' k ks' ps' as1.length ts [] [] [] [] (lS as1 vals)) rfl (by decide) (by decide) ?_))
   refine cy.block (cy.loopI (I:=λkk st N=>∃P A vs,as1=P++A/\kk=A.length/\vs.length=A.length/\st=O5 n y b o m' k ks' ps' as1.length ts P.length (Zc n y b P A vs) .dead/\N=vs.zip (A.map (·.Names))) ?_ (k:=as1.length) ⟨[],as1,vals,rfl,rfl,hl,?_,rfl⟩)
   ·rintro kk _ _ ⟨P,A,vs,has,rfl,hvl,rfl,rfl⟩
    have hcl:∀w4:List dD,E6 5 ([.cells [.int .i64 o,.str m',.int .i64 k,sl ae ks',sl aj ps',.bsl 4 0 as1.length,sl ah ts] [],.cells [.int .i64 0,.str ([]:ai),.int .i64 0,sl ae [],sl aj [],sl au [],sl ah []] [(3,28),(4,85),(5,89),(6,60)],.dead,.dead,.dead,.dead]:List aA):=λ_=>KCs.h
    have htm:∀(w4:List dD) (B5:aA),BI 5 (O5 n y b o m' k ks' ps' as1.length ts P.length w4 B5).tmps:=λ_ _=>fm 5 _ (yL (KTm.h))
    have hD:∀x∈(P.map λa=>By n y a b).map rX,x.NV.no 5:=λx hx=>by obtain⟨q,_,rfl⟩:=vag.1 hx;exact td _ _ (aH uB _)
    have hDl:((P.map λa=>By n y a b).map rX).length=P.length:=by simp
    have hbx:∀(w4:List dD),BI 5 (aV bp w4)->∀(i:Nat) B,(O5 n y b o m' k ks' ps' as1.length ts P.length w4 .dead).boxes[i]? =some B->AF 5 B:=λw4 hw i B hB=>by
     by_cases h4:i=4
     ·subst h4
      have hB:some (aA.cells (aV bp w4) [])=some B:=hB
      cases hB;exact hw
     ·exact UI (z:=5) (r:=4) (k:=0) (H:=(O5 n y b o m' k ks' ps' as1.length ts P.length w4 .dead).boxes) (hcl w4) (vaN _) i B (by omega) hB
    cases A with
    |nil=>
     obtain rfl:vs=[]:=vat hvl
     obtain rfl:as1=P:=by rw[has,va6]
     have hw:Zc n y b as1 [] []=(as1.map λa=>By n y a b).map rX:=by unfold Zc lS;simp
     rw[hw]
     refine cy.pre (N':=[]) (st':=O5 n y b o m' k ks' ps' as1.length ts as1.length ((as1.map λa=>By n y a b).map rX) (.cells (aV cS []) [])) ?_ (λE bs0 x w hb0 hRx=>hRx.open (z:=5) rfl (by rw[hb0];exact vaN _) (htm _ _) (hbx _ (Hg hD)))
     refine cy.body (r:=.inr ((as1.map λa=>By n y a b).map rX,[])) (uq R n y b o m' k ks' ps' as1.length ts [] [] [] [] (as1.length:Int) ((as1.map λa=>By n y a b).map rX) [] hR) (by unfold qg;rw[van (by simp)]) (by decide) (by decide) (λe' st' hx=>?_)
     obtain⟨hne,rfl,rfl⟩:=hx
     refine .inr ⟨hne,?_⟩
     show cy Pg GE 0 (cA Gm 1023) _ _ _
     refine cy.pre (N':=[]) (st':=aO 160 [(4,.bptr 0 0),(8,.bptr 1 0)] [.cells [.int .i64 o,.str m',.int .i64 k,sl ae ks',sl aj ps',.bsl 4 0 as1.length,sl ah ts] [],.cells [.int .i64 0,.str ([]:ai),.int .i64 0,sl ae [],sl aj [],sl au [],sl ah []] [(3,28),(4,85),(5,89),(6,60)],.dead,.dead,.cells (aV au (as1.map λa=>By n y a b)) [],.dead] []) ?_ (λE bs0 x w hb0 hRx=>by rw[<-Tv];exact hRx.close (z:=5) (by show 5<6;decide))
     exact cy.piece (r:=(as1.map (λa=>By n y a b),as1.map λa=>By n y a b)) (Gz o m' k ks' ps' as1.length ts [] [] [] [] (as1.map λa=>By n y a b)) (by unfold CD;rw[nG (by simp)];rfl) (by decide) (by decide) ⟨rfl,rfl⟩
    | cons a A =>
     obtain⟨u,vs,rfl⟩:∃u us,vs=u::us:=by
      cases vs with
      |nil=>cases hvl
      |cons u us=>exact⟨u,us,rfl⟩
     have ha:a∈as1:=by rw[has];simp
     have hlt:P.length<as1.length:=by rw[has];simp
     have hRr:∀x∈(lS A vs).map uf,x.NV.no 5:=λx hx=>by obtain⟨q,_,rfl⟩:=vag.1 hx;trivial
     have hw:Zc n y b P (a::A) (u::vs)=(P.map λa=>By n y a b).map rX++⟨a.Con,.val u,a.Body⟩::(lS A vs).map uf:=rfl
     rw[hw]
     refine cy.pre (N':=vs.zip (A.map (·.Names))) (st':=O5 n y b o m' k ks' ps' as1.length ts P.length ((P.map λa=>By n y a b).map rX++⟨a.Con,.bsl 5 0 a.Names.length,a.Body⟩::(lS A vs).map uf) (.cells (aV cS a.Names) [])) ?_ (λE bs0 x w hb0 hRx=>by
      have:=hRx.thaw (z:=5) (r:=4) (j:=((P.map λa=>By n y a b).map rX).length * 9+1) (v:=u) (ns:=a.Names) (N:=vs.zip (A.map (·.Names))) rfl (by rw[hb0];exact vaN _) (by decide) rfl (DL _ _ _) (htm _ _) (hbx _ (Hg λx hx=>by
       rcases vaw.1 hx with hx|hx
       ·exact hD x hx
       ·rcases vaB.1 hx with rfl|hx
        ·trivial
        ·exact hRr x hx))
      rw[uG]at this
      exact this)
     have hx4:pn as1.length ((P.map λa=>By n y a b).map rX++(⟨a.Con,.bsl 5 0 a.Names.length,a.Body⟩:dD)::(lS A vs).map uf) (P.length:Int)=some ⟨a.Con,.bsl 5 0 a.Names.length,a.Body⟩:=by rw[<-hDl];exact pK (by rw[hDl];exact hlt)
     refine cy.monoR (cy.body (r:=.inl (((P.length+1:Nat):Int),(P.map λa=>By n y a b).map rX++⟨a.Con,.bsl 5 0 a.Names.length,JI n y a.Body (b||a.Names.any λs=>s==n)⟩::(lS A vs).map uf,a.Names.map (Bx n y))) (uq R n y b o m' k ks' ps' as1.length ts [] [] [] [] (P.length:Int) ((P.map λa=>By n y a b).map rX++⟨a.Con,.bsl 5 0 a.Names.length,a.Body⟩::(lS A vs).map uf) a.Names hR) (by
      unfold qg
      rw[vah (by simpa using hlt),ZY b hx4 rfl (c4 a ha),vaa,hx4]
      simp only[vaa]
      rw[hRa a ha,vaa]
      have:=mG (A:=(P.map λa=>By n y a b).map rX) (B:=(lS A vs).map uf) (x:=(⟨a.Con,.bsl 5 0 a.Names.length,a.Body⟩:dD)) (y:=⟨a.Con,.bsl 5 0 a.Names.length,JI n y a.Body (b||a.Names.any λs=>s==n)⟩)
      rw[hDl]at this
      rw[this,vaa,Nv (by unfold bo at c3;omega)]) (by decide) (by decide) (Q:=λe' st' N'=>LQ _ _ _ (.inl (((P.length+1:Nat):Int),(P.map λa=>By n y a b).map rX++(⟨a.Con,.bsl 5 0 a.Names.length,JI n y a.Body (b||a.Names.any λs=>s==n)⟩:dD)::(lS A vs).map uf,a.Names.map (Bx n y))) e' st'/\N'=vs.zip (A.map (·.Names))) (λe' st' hx=>⟨hx,rfl⟩)) (λe' st' N' hx=>?_)
     obtain⟨⟨rfl,rfl⟩,rfl⟩:=hx
     have hav:By n y a b=⟨a.Con,a.Names.map (Bx n y),JI n y a.Body (b||a.Names.any λs=>s==n)⟩:=by
      obtain⟨c,ns,bd⟩:=a
      rw[By];rfl
     refine⟨O5 n y b o m' k ks' ps' as1.length ts (P++[a]).length (Zc n y b (P++[a]) A vs) .dead,vs.zip (A.map (·.Names)),.inl ⟨rfl,A.length,by simp,P++[a],A,vs,by rw[has,vaL];rfl,rfl,by simpa using hvl,rfl,rfl⟩,λE bs0 x w hb0 hRx=>?_⟩
     have:=hRx.freeze (z:=5) (r:=4) (j:=((P.map λa=>By n y a b).map rX).length * 9+1) (ns:=a.Names.map (Bx n y)) rfl (by rw[hb0];exact vaN _) (by rw[hb0];decide) (by decide) rfl (by rw[show(a.Names.map (Bx n y)).length=a.Names.length from vaO _];exact DL _ _ _) (JR hD hRr) (fm 5 _ (yL (KTm.h))) (λi B hi4 hi5 hB=>UI (z:=5) (r:=4) (k:=0) (H:=(O5 n y b o m' k ks' ps' as1.length ts P.length [] .dead).boxes) (hcl []) (vaN _) i B (by omega) (by
      match i with
      |0=>exact hB
      |1=>exact hB
      |2=>exact hB
      |3=>exact hB
      |4=>exact absurd rfl hi4
      |5=>exact absurd rfl hi5
      |i+6=>exact absurd (aq hB) (by show ¬i+6<6;omega)))
     rw[uG]at this
     have hw2:Zc n y b (P++[a]) A vs=(P.map λa=>By n y a b).map rX++(⟨a.Con,sl cS (a.Names.map (Bx n y)),JI n y a.Body (b||a.Names.any λs=>s==n)⟩:dD)::(lS A vs).map uf:=by
      unfold Zc
      simp only[va5,vaz,vbr,vaL,va8,vaR,hav]
      rfl
     rw[hw2]
     simp only[vam,List.length_singleton]
     exact this
   ·simp only[O5,Zc,vbr,vaR,QJ]
    rfl
  ·obtain⟨_,rfl,rfl⟩:=hx
   have hl:=aK (⟨o,m',k,ks',ps',as1.map λa=>By n y a b,ts⟩:ag) []
   rw[va6]at hl
   refine .inl ⟨?_,a8 _,vzz,(λx hx=>by cases hx),(λx hx=>by cases hx)⟩
   have e3:∀H2:List PVal,yo Pg (aO 160 [(8,.bptr 1 0)] [.cells H2 [],.cells H2 [],.dead,.dead,.dead,.dead] []) f60.results.toList=aY Pg 28 H2:=λH2=>by kernel_rfl
   exact(e3 _).trans hl
def Bl(e:ag)(n y:ai)(b:Bool):Option ag:=if RJ e=true then some (JI n y e b)else none
theorem OD{e:ag}{n y:ai}{b:Bool}:OV 60 [.agg (ae e),.str n,.str y,.bool b] (Bl e n y b) (λr=>.agg (ae r)) []:=λr h=>by
 unfold Bl at h
 split at h
 ·rename_i hok;cases h;exact Qt _ e (vb6 _) hok n y b
 ·cases h
end Go.Proofs.YtkdahfeiedaahaaGreatDoor
namespace Go.Proofs.YtkdahfeiedaahaaGreatDoor
open Go Go.Proofs.Tryz
set_option linter.unusedVariables false
set_option linter.defProp false
set_option maxRecDepth 100000
abbrev il:=(ag->ai->ai->Option ag)
abbrev ic(R:il):Prop:=∀(e:ag) (name:ai) (a:ai),OV 59 [.agg (ae e),.str name,.str a] (R e name a) (λr=>.agg (ae r)) []
section
variable(i:Int)(out:waA)(w0:List ag)(w1:List az)(m:Int)(m2:ai)(m3:Int)(n:Nat)(m4:waC)(n2:Nat)(m5:waB)
def z8:Option Bool:=
 if(m==7)=true then
  some (decide (i>0))
 else
  some false
theorem ER:OU 2 (cA O6 28) (z8 i m) .normal (λo=>[(1,.undef),(18,.bool o)]) (aO 46 [(1,.int .i64 i),(3,.bptr 2 0),(7,sl cS out)] [.cells (aV ae w0) [],.cells (aV au w1) [],.cells [.int .i64 m,.str m2,.int .i64 m3,.bsl 0 0 n,sl aj m4,.bsl 1 0 n2,sl ah m5] []] [((7,0),9)]):=MW.j<|
 tf (λc2=>ts<|tg 4 c2<|tE) λc2=>ts<|tg 4 c2<|tE
end
section
variable(i:Int)(out:waA)(w0:List ag)(w1:List az)(m:Int)(m2:ai)(m3:Int)(n:Nat)(m4:waC)(n2:Nat)(m5:waB)
def z7:Option waA:=
 (z8 i m).bind λo3=>
 if o3=true then
  (app out ([m2]:List ai)).bind λl5=>
  some l5
 else
  some out
theorem EQ:OU 2 (cA O6 14) (z7 i out m m2) .normal (λo=>[(1,.undef),(7,sl cS o)]) (aO 46 [(1,.int .i64 i),(3,.bptr 2 0),(7,sl cS out)] [.cells (aV ae w0) [],.cells (aV au w1) [],.cells [.int .i64 m,.str m2,.int .i64 m3,.bsl 0 0 n,sl aj m4,.bsl 1 0 n2,sl ah m5] []] [((7,0),9)]):=MW.j<|
 tb λo3 bo3=>jo 0<|cD (ER i out w0 w1 m m2 m3 n m4 n2 m5 _ bo3)<|tF (tb λl5 bl5=>ts<|tv (gD [m2] 1 rfl)<|tv (b8.ap bl5)<|tE)<|tE
end
section
variable(out:waA)(k:Int)(w0:List ag)(w1:List az)(m:Int)(m2:ai)(m3:Int)(n:Nat)(m4:waC)(n2:Nat)(m5:waB)
def Aa:Option Bool:=
 if decide (k<(m4.length:Int))=true then
  some (m==6)
 else
  some false
theorem ES:OU 2 (cA O6 988) (Aa k m m4) .normal (λo=>[(33,.bool o)]) (aO 46 [(3,.bptr 2 0),(7,sl cS out),(8,.int .i64 k)] [.cells (aV ae w0) [],.cells (aV au w1) [],.cells [.int .i64 m,.str m2,.int .i64 m3,.bsl 0 0 n,sl aj m4,.bsl 1 0 n2,sl ah m5] []] [((7,0),9)]):=MW.j<|
 have pp8:=λ{X Y Z} (r:PV _ X Y Z)=>ts<|ct (er.ln m4)<|r;tf (λc7=>pp8<|tg 6 c7<|ts<|tE) λc7=>pp8<|tg 6 c7<|tE
end
section
variable(w0:List ag)(w1:List az)(m:Int)(m2:ai)(m3:Int)(n:Nat)(m4:waC)(n2:Nat)(m5:waB)(out:waA)(k:Int)
def wo:aB:=aO 46 [(3,.bptr 2 0),(7,sl cS out),(8,.int .i64 k)] [.cells (aV ae w0) [],.cells (aV au w1) [],.cells [.int .i64 m,.str m2,.int .i64 m3,.bsl 0 0 n,sl aj m4,.bsl 1 0 n2,sl ah m5] []] [((7,0),9)]
def G3(o:waA):aB:=aO 46 [(7,sl cS o)] [.cells (aV ae w0) [],.cells (aV au w1) [],.cells [.int .i64 m,.str m2,.int .i64 m3,.bsl 0 0 n,sl aj m4,.bsl 1 0 n2,sl ah m5] []] [((7,0),9)]
def wq:Option ((waA×Int)⊕(waA)):=
 (Aa k m m4).bind λo9=>
 if o9=true then
  (ey m4 k).bind λx11=>
  (app out ([x11.Name]:List ai)).bind λl12=>
  some (.inl (l12,dp (k+1)))
 else
  some (.inr out)
def KK:Option waA:=loop (λ(zz:waA×Int)=>wq m m4 zz.1 zz.2) (out,k)
theorem DE:OL 2 (cA O6 247) (wq m m4 out k) (λ(zz:waA×Int)=>wo w0 w1 m m2 m3 n m4 n2 m5 zz.1 zz.2) (λ_=>.exit 0) (G3 w0 w1 m m2 m3 n m4 n2 m5) (wo w0 w1 m m2 m3 n m4 n2 m5 out k):=MW.l<|
 tb λo9 bo9=>jo 1<|cD (ES out k w0 w1 m m2 m3 n m4 n2 m5 _ bo9)<|tF (tb λx11 bx11=>tb λl12 bl12=>ts<|tv (er.ia (k:=.i64) bx11)<|tw (dG x11)<|tv (gD [x11.Name] 1 rfl)<|tv (b8.ap bl12)<|tE)<|tE
def ET:=rE (s:=(out,k)) λzz=>DE w0 w1 m m2 m3 n m4 n2 m5 zz.1 zz.2
end
def z6(e:Int)(e2:ai)(e3:Int)(n:Nat)(e4:waC)(n2:Nat)(e5:waB)(i:Int)(bound:waA)(k0:List ag)(k1:List az):Option waA:=
 (app ([]:List ai) bound).bind λl1=>
 (z7 i l1 e e2).bind λo6=>
 (KK e e4 o6 0).bind λo13=>
 some o13
theorem KL{e:Int}{e2:ai}{e3:Int}{n:Nat}{e4:waC}{n2:Nat}{e5:waB}{i:Int}{bound:waA}{k0:List ag}{k1:List az}:OG 114 [.agg [.int .i64 e,.str e2,.int .i64 e3,.bsl 0 0 n,sl aj e4,.bsl 1 0 n2,sl ah e5],.int .i64 i,sl cS bound] [] [.cells (aV ae k0) [],.cells (aV au k1) []] (z6 e e2 e3 n e4 n2 e5 i bound k0 k1) (λr=>sl cS r) [(0,9)] (λr=>[.cells (aV ae k0) [],.cells (aV au k1) []]):=MW.g 2<|
 tb λl1 bl1=>tb λo6 bo6=>tb λo13 bo13=>T9 (Zl [.int .i64 e,.str e2,.int .i64 e3,.bsl 0 0 n,sl aj e4,.bsl 1 0 n2,sl ah e5]) rfl<|tv (gD [] 0 rfl)<|tv (b8.ap bl1)<|jo 0<|cD (EQ i l1 k0 k1 e e2 e3 n e4 n2 e5 _ bo6)<|cD (ET k0 k1 e e2 e3 n e4 n2 e5 o6 0 _ bo13)<|tE
noncomputable def qfy:Code:=f93.body.getD .skip
theorem qfa:ZF Pg [] 93 f93 qfy:=zf call93 func93 rfl mixed
def qZ(a:waA)(s:ai):Option Bool:=
 (zt a s).bind λr1=>
 some (decide (r1>=0))
theorem xP{a:waA}{s:ai}:OV 93 [sl cS a,.str s] (qZ a s) (λr=>.bool r) []:=qfa.v<|
 tb λr1 br1=>bM (HY _ br1)<|tE
noncomputable def qak:Code:=f59.body.getD .skip
theorem ZJ:ZF Pg [25] 59 f59 qak:=zf call59 func59 rfl mixed
section
variable(name:ai)(v:ai)(m:Int)(m2:ai)(m3:Int)(n:Nat)(m4:waC)(n2:Nat)(m5:waB)(m6:waE)(m7:waC)(m8:waD)(m9:waB)(w2:List ag)(w4:List az)
def sw:Option Bool:=
 if(m==3)=true then
  some (m2==name)
 else if(m==5)=true then
  some (m2==name)
 else
  some false
theorem EI:OU 0 (cA qak 28) (sw name m m2) .normal (λo=>[(24,.bool o)]) (aO 83 [(1,.str name),(2,.str v),(3,.bptr 0 0),(6,.bptr 1 0)] [.cells [.int .i64 m,.str m2,.int .i64 m3,.bsl 2 0 n,sl aj m4,.bsl 4 0 n2,sl ah m5] [],.cells [.int .i64 0,.str ([]:ai),.int .i64 0,sl ae m6,sl aj m7,sl au m8,sl ah m9] [(3,28),(4,85),(5,89),(6,60)],.cells (aV ae w2) [],.dead,.cells (aV au w4) []] []):=ZJ.j<|
 tf (λc3=>ts<|tg 4 c3<|ts<|tE) λc3=>have pp5:=λ{X Y Z} (r:PV _ X Y Z)=>ts<|tg 4 c3<|ts<|r;tf (λc4=>pp5<|tg 9 c4<|ts<|tE) λc4=>pp5<|tg 9 c4<|tE
end
section
variable(name:ai)(v:ai)(m:Int)(m2:ai)(m3:Int)(n:Nat)(m4:waC)(n2:Nat)(m5:waB)(m6:waE)(m7:waC)(m8:waD)(m9:waB)(w2:List ag)(w4:List az)
def nu:Option ai:=
 (sw name m m2).bind λo6=>
 if o6=true then
  some v
 else
  some m2
theorem EH:OJ 0 (cA qak 14) (nu name v m m2) .normal (λo=>aO 83 [(1,.str name),(2,.str v),(3,.bptr 0 0),(6,.bptr 1 0)] [.cells [.int .i64 m,.str o,.int .i64 m3,.bsl 2 0 n,sl aj m4,.bsl 4 0 n2,sl ah m5] [],.cells [.int .i64 0,.str ([]:ai),.int .i64 0,sl ae m6,sl aj m7,sl au m8,sl ah m9] [(3,28),(4,85),(5,89),(6,60)],.cells (aV ae w2) [],.dead,.cells (aV au w4) []] []) (aO 83 [(1,.str name),(2,.str v),(3,.bptr 0 0),(6,.bptr 1 0)] [.cells [.int .i64 m,.str m2,.int .i64 m3,.bsl 2 0 n,sl aj m4,.bsl 4 0 n2,sl ah m5] [],.cells [.int .i64 0,.str ([]:ai),.int .i64 0,sl ae m6,sl aj m7,sl au m8,sl ah m9] [(3,28),(4,85),(5,89),(6,60)],.cells (aV ae w2) [],.dead,.cells (aV au w4) []] []):=ZJ.j<|
 tb λo6 bo6=>jo 0<|cD (EI name v m m2 m3 n m4 n2 m5 m6 m7 m8 m9 w2 w4 _ bo6)<|tF (ts<|tE)<|tE
end
section
variable(R104:il)(name:ai)(v:ai)(i:Int)(m:Int)(m2:ai)(m3:Int)(n:Nat)(m4:waC)(n2:Nat)(m5:waB)(m6:waE)(m7:waC)(m8:waD)(m9:waB)(w2:List ag)(w4:List az)
def sy:Option waE:=
 (z6 m m2 m3 n m4 n2 m5 i ([]:List ai) w2 w4).bind λr10=>
 (qZ r10 name).bind λr11=>
 if(!r11)=true then
  (pn n w2 i).bind λx13=>
  (R104 x13 name v).bind λr14=>
  (pn n w2 i).bind λx15=>
  (IJ w2 i r14).bind λl16=>
  some l16
 else
  some w2
theorem EJ(hR104:ic R104):OJ 0 (cA qak 990) (sy R104 name v i m m2 m3 n m4 n2 m5 w2 w4) .normal (λo=>aO 83 [(1,.str name),(2,.str v),(3,.bptr 0 0),(6,.bptr 1 0),(7,.int .i64 i)] [.cells [.int .i64 m,.str m2,.int .i64 m3,.bsl 2 0 n,sl aj m4,.bsl 4 0 n2,sl ah m5] [],.cells [.int .i64 0,.str ([]:ai),.int .i64 0,sl ae m6,sl aj m7,sl au m8,sl ah m9] [(3,28),(4,85),(5,89),(6,60)],.cells (aV ae o) [],.dead,.cells (aV au w4) []] []) (aO 83 [(1,.str name),(2,.str v),(3,.bptr 0 0),(6,.bptr 1 0),(7,.int .i64 i)] [.cells [.int .i64 m,.str m2,.int .i64 m3,.bsl 2 0 n,sl aj m4,.bsl 4 0 n2,sl ah m5] [],.cells [.int .i64 0,.str ([]:ai),.int .i64 0,sl ae m6,sl aj m7,sl au m8,sl ah m9] [(3,28),(4,85),(5,89),(6,60)],.cells (aV ae w2) [],.dead,.cells (aV au w4) []] []):=ZJ.j<|
 tb λr10 br10=>tb λr11 br11=>tv (show aY Pg 28 [.int .i64 m,.str m2,.int .i64 m3,.bsl 2 0 n,sl aj m4,.bsl 4 0 n2,sl ah m5]=some (.agg [.int .i64 m,.str m2,.int .i64 m3,.bsl 2 0 n,sl aj m4,.bsl 4 0 n2,sl ah m5]) by kernel_rfl)<|tc [2,4] (KL _ br10)<|bM (xP _ br11)<|tF (tb λx13 bx13=>tb λr14 br14=>tb λx15 bx15=>tb λl16 bl16=>RL (.dx [0,1,0,0,8,0,56,120,0,0,1016,2047,4095] [] [] [4])<|ts<|ts<|tv (cR.iaN 2 (k:=.i64) bx13)<|tv (cR.ldN (mW x13) bx13)<|bM (hR104 _ _ _ _ br14)<|tv (cR.iaN 2 (k:=.i64) bx15)<|SY (cR.stR (dR r14) bl16)<|tE)<|tE
end
section
variable(R104:il)(name:ai)(v:ai)(m:Int)(m2:ai)(m3:Int)(n:Nat)(m4:waC)(n2:Nat)(m5:waB)(m6:waE)(m7:waC)(m8:waD)(m9:waB)(w4:List az)(i:Int)(w2:List ag)
def wk:aB:=aO 83 [(1,.str name),(2,.str v),(3,.bptr 0 0),(6,.bptr 1 0),(7,.int .i64 i)] [.cells [.int .i64 m,.str m2,.int .i64 m3,.bsl 2 0 n,sl aj m4,.bsl 4 0 n2,sl ah m5] [],.cells [.int .i64 0,.str ([]:ai),.int .i64 0,sl ae m6,sl aj m7,sl au m8,sl ah m9] [(3,28),(4,85),(5,89),(6,60)],.cells (aV ae w2) [],.dead,.cells (aV au w4) []] []
def G0(o:List ag):aB:=aO 83 [(1,.str name),(2,.str v),(3,.bptr 0 0),(6,.bptr 1 0)] [.cells [.int .i64 m,.str m2,.int .i64 m3,.bsl 2 0 n,sl aj m4,.bsl 4 0 n2,sl ah m5] [],.cells [.int .i64 0,.str ([]:ai),.int .i64 0,sl ae m6,sl aj m7,sl au m8,sl ah m9] [(3,28),(4,85),(5,89),(6,60)],.cells (aV ae o) [],.dead,.cells (aV au w4) []] []
def gr:Option ((Int×List ag)⊕(waE)):=
 if decide (i<(n:Int))=true then
  (sy R104 name v i m m2 m3 n m4 n2 m5 w2 w4).bind λo17=>
  some (.inl (dp (i+1),o17))
 else
  some (.inr w2)
def sB:Option waE:=loop (λ(zz:Int×List ag)=>gr R104 name v m m2 m3 n m4 n2 m5 w4 zz.1 zz.2) (i,w2)
theorem DC(hR104:ic R104):OL 0 (cA qak 247) (gr R104 name v m m2 m3 n m4 n2 m5 w4 i w2) (λ(zz:Int×List ag)=>wk name v m m2 m3 n m4 n2 m5 m6 m7 m8 m9 w4 zz.1 zz.2) (λ_=>.exit 0) (G0 name v m m2 m3 n m4 n2 m5 m6 m7 m8 m9 w4) (wk name v m m2 m3 n m4 n2 m5 m6 m7 m8 m9 w4 i w2):=ZJ.l<|
 ts<|ct (cR.lnR 2 0 n)<|tF (tb λo17 bo17=>jo 0<|cD (EJ R104 name v i m m2 m3 n m4 n2 m5 m6 m7 m8 m9 w2 w4 hR104 _ bo17)<|tE)<|tE
def EL(hR104:ic R104):=rE (s:=(i,w2)) λzz=>DC R104 name v m m2 m3 n m4 n2 m5 m6 m7 m8 m9 w4 zz.1 zz.2 hR104
end
section
variable(R104:il)(name:ai)(v:ai)(i:Int)(m:Int)(m2:ai)(m3:Int)(m4:waE)(m5:waC)(n:Nat)(m6:waB)(m7:waE)(m8:waC)(m9:waD)(m10:waB)(w4:List az)
def sA:Option waD:=
 (pn n w4 i).bind λx21=>
 (qZ x21.Names name).bind λr22=>
 if(!r22)=true then
  (pn n w4 i).bind λx24=>
  (R104 x24.Body name v).bind λr25=>
  (pn n w4 i).bind λx26=>
  (IJ w4 i (⟨x26.Con,x26.Names,r25⟩:az)).bind λl27=>
  some l27
 else
  some w4
theorem EK(hR104:ic R104):OJ 0 (cA qak 2014) (sA R104 name v i n w4) .normal (λo=>aO 83 [(1,.str name),(2,.str v),(3,.bptr 0 0),(6,.bptr 1 0),(8,.int .i64 i)] [.cells [.int .i64 m,.str m2,.int .i64 m3,sl ae m4,sl aj m5,.bsl 4 0 n,sl ah m6] [],.cells [.int .i64 0,.str ([]:ai),.int .i64 0,sl ae m7,sl aj m8,sl au m9,sl ah m10] [(3,28),(4,85),(5,89),(6,60)],.dead,.dead,.cells (aV au o) []] []) (aO 83 [(1,.str name),(2,.str v),(3,.bptr 0 0),(6,.bptr 1 0),(8,.int .i64 i)] [.cells [.int .i64 m,.str m2,.int .i64 m3,sl ae m4,sl aj m5,.bsl 4 0 n,sl ah m6] [],.cells [.int .i64 0,.str ([]:ai),.int .i64 0,sl ae m7,sl aj m8,sl au m9,sl ah m10] [(3,28),(4,85),(5,89),(6,60)],.dead,.dead,.cells (aV au w4) []] []):=ZJ.j<|
 tb λx21 bx21=>tb λr22 br22=>ts<|tv (dc.iaN 4 (k:=.i64) bx21)<|tv (dc.ldF (Sy x21) (Nb x21) bx21)<|bM (xP _ br22)<|tF (tb λx24 bx24=>tb λr25 br25=>tb λx26 bx26=>tb λl27 bl27=>RL (.dx [0,1,0,0,8,0,56,120,248,0,0,2040,4095,8191,16383] [] [] [8])<|ts<|ts<|tv (dc.iaN 4 (k:=.i64) bx24)<|tv (dc.ldF (Sz x24) (Nc x24) bx24)<|bM (hR104 _ _ _ _ br25)<|tv (dc.iaN 4 (k:=.i64) bx26)<|SY (dc.stG (Ns x26 r25) bx26 bl27)<|tE)<|tE
end
section
variable(R104:il)(name:ai)(v:ai)(m:Int)(m2:ai)(m3:Int)(m4:waE)(m5:waC)(n:Nat)(m6:waB)(m7:waE)(m8:waC)(m9:waD)(m10:waB)(i:Int)(w4:List az)
def wm:aB:=aO 83 [(1,.str name),(2,.str v),(3,.bptr 0 0),(6,.bptr 1 0),(8,.int .i64 i)] [.cells [.int .i64 m,.str m2,.int .i64 m3,sl ae m4,sl aj m5,.bsl 4 0 n,sl ah m6] [],.cells [.int .i64 0,.str ([]:ai),.int .i64 0,sl ae m7,sl aj m8,sl au m9,sl ah m10] [(3,28),(4,85),(5,89),(6,60)],.dead,.dead,.cells (aV au w4) []] []
def G1(o:List az):aB:=aO 83 [(3,.bptr 0 0),(6,.bptr 1 0)] [.cells [.int .i64 m,.str m2,.int .i64 m3,sl ae m4,sl aj m5,.bsl 4 0 n,sl ah m6] [],.cells [.int .i64 0,.str ([]:ai),.int .i64 0,sl ae m7,sl aj m8,sl au m9,sl ah m10] [(3,28),(4,85),(5,89),(6,60)],.dead,.dead,.cells (aV au o) []] []
def gu:Option ((Int×List az)⊕(waD)):=
 if decide (i<(n:Int))=true then
  (sA R104 name v i n w4).bind λo28=>
  some (.inl (dp (i+1),o28))
 else
  some (.inr w4)
def sC:Option waD:=loop (λ(zz:Int×List az)=>gu R104 name v n zz.1 zz.2) (i,w4)
theorem DD(hR104:ic R104):OL 0 (cA qak 503) (gu R104 name v n i w4) (λ(zz:Int×List az)=>wm name v m m2 m3 m4 m5 n m6 m7 m8 m9 m10 zz.1 zz.2) (λ_=>.exit 2) (G1 m m2 m3 m4 m5 n m6 m7 m8 m9 m10) (wm name v m m2 m3 m4 m5 n m6 m7 m8 m9 m10 i w4):=ZJ.l<|
 ts<|ct (dc.lnR 4 0 n)<|tF (tb λo28 bo28=>jo 0<|cD (EK R104 name v i m m2 m3 m4 m5 n m6 m7 m8 m9 m10 w4 hR104 _ bo28)<|tE)<|tE
def EM(hR104:ic R104):=rE (s:=(i,w4)) λzz=>DD R104 name v m m2 m3 m4 m5 n m6 m7 m8 m9 m10 zz.1 zz.2 hR104
end
def pE(R104:il)(e:ag)(name:ai)(a:ai):Option ag:=
 (nU e).bind λr1=>
 (RK r1.Params.length r1.Params).bind λl2=>
 (nu name a r1.Op r1.Name).bind λo8=>
 (sB R104 name a r1.Op o8 r1.N r1.Kids.length l2 r1.Alts.length r1.Types r1.Alts 0 r1.Kids).bind λo18=>
 (RK r1.Kids.length o18).bind λl19=>
 (sC R104 name a r1.Alts.length 0 r1.Alts).bind λo29=>
 (RK r1.Alts.length o29).bind λl30=>
 some (⟨r1.Op,o8,r1.N,l19,l2,l30,r1.Types⟩:ag)
theorem Jh(R104:il)(hR104:ic R104){e:ag}{name:ai}{a:ai}:OV 59 [.agg (ae e),.str name,.str a] (pE R104 e name a) (λr=>.agg (ae r)) []:=ZJ.v<|
 tb λr1 br1=>tb λl2 bl2=>tb λo8 bo8=>tb λo18 bo18=>tb λl19 bl19=>tb λo29 bo29=>tb λl30 bl30=>T9 (dn e) rfl<|tx rH<|tv (aK e [])<|ti (.cn ⟨[2,3,4],[],[],[],[],[.cells (aV ae r1.Kids) [],.cells (aV aj r1.Params) [],.cells (aV au r1.Alts) []],[.cells (aV ae r1.Kids) [],.cells (aV aj r1.Params) [],.cells (aV au r1.Alts) []],.agg [.int .i64 r1.Op,.str r1.Name,.int .i64 r1.N,.bsl 2 0 r1.Kids.length,.bsl 3 0 r1.Params.length,.bsl 4 0 r1.Alts.length,sl ah r1.Types],.agg [.int .i64 r1.Op,.str r1.Name,.int .i64 r1.N,.bsl 0 0 r1.Kids.length,.bsl 1 0 r1.Params.length,.bsl 2 0 r1.Alts.length,sl ah r1.Types],[]⟩) (Jw br1)<|tq (aI (a8 e) trivial)<|tq (aI (aI (rW []) (qcv [2,3,4] _ (Sb 0 a8 r1.Kids))) (aI (aI (rW []) (qcv [2,3,4] _ (Sb 0 bH r1.Params))) (aI (aI (rW []) (qcv [2,3,4] _ (Sb 0 dm r1.Alts))) trivial)))<|tq (xA [2,3,4] [.int .i64 r1.Op,.str r1.Name,.int .i64 r1.N,.bsl 2 0 r1.Kids.length,.bsl 3 0 r1.Params.length,.bsl 4 0 r1.Alts.length,sl ah r1.Types] [.int .i64 r1.Op,.str r1.Name,.int .i64 r1.N,.bsl 0 0 r1.Kids.length,.bsl 1 0 r1.Params.length,.bsl 2 0 r1.Alts.length,sl ah r1.Types] (aI (xR [2,3,4] (.int .i64 r1.Op) trivial) (aI (xR [2,3,4] (.str r1.Name) trivial) (aI (xR [2,3,4] (.int .i64 r1.N) trivial) (aI (xS [2,3,4] 0 2 0 r1.Kids.length rfl) (aI (xS [2,3,4] 1 3 0 r1.Params.length rfl) (aI (xS [2,3,4] 2 4 0 r1.Alts.length rfl) (aI (xR [2,3,4] (sl ah r1.Types) (aH bU r1.Types)) trivial))))))))<|tx (Zl [.int .i64 r1.Op,.str r1.Name,.int .i64 r1.N,.bsl 2 0 r1.Kids.length,.bsl 3 0 r1.Params.length,.bsl 4 0 r1.Alts.length,sl ah r1.Types])<|Vt 3 (l2.map aj) [1,2,3,6] [2,4] (er.fz1 (m:=0) (b:=3) rfl l2) (er.fz2 3 l2) (Yo aj bl2)<|tq (Yp aj bl2)<|tq (iD 3 (p:=sl ah r1.Types) (aH bU r1.Types))<|tq (iD 3 (p:=sl ae ([]:List ag)) (aH a8 ([]:List ag)))<|tq (iD 3 (p:=sl aj ([]:List am)) (aH bH ([]:List am)))<|tq (iD 3 (p:=sl au ([]:List az)) (aH dm ([]:List az)))<|tq (iD 3 (p:=sl ah ([]:List al)) (aH bU ([]:List al)))<|tq (WO 3 a8 r1.Kids)<|tq (WO 3 dm r1.Alts)<|jo 0<|cD (EH name a r1.Op r1.Name r1.N r1.Kids.length l2 r1.Alts.length r1.Types ([]:List ag) ([]:List am) ([]:List az) ([]:List al) r1.Kids r1.Alts _ bo8)<|cD (EL R104 name a r1.Op o8 r1.N r1.Kids.length l2 r1.Alts.length r1.Types ([]:List ag) ([]:List am) ([]:List az) ([]:List al) r1.Alts 0 r1.Kids hR104 _ bo18)<|Vt 2 (l19.map ae) [1,2,3,6] [4] (cR.fz1 (m:=0) (b:=2) rfl l19) (cR.fz2 2 l19) (Yo ae bl19)<|tq (Yp ae bl19)<|tq (iD 2 (p:=sl aj l2) (aH bH l2))<|tq (iD 2 (p:=sl ah r1.Types) (aH bU r1.Types))<|tq (iD 2 (p:=sl ae ([]:List ag)) (aH a8 ([]:List ag)))<|tq (iD 2 (p:=sl aj ([]:List am)) (aH bH ([]:List am)))<|tq (iD 2 (p:=sl au ([]:List az)) (aH dm ([]:List az)))<|tq (iD 2 (p:=sl ah ([]:List al)) (aH bU ([]:List al)))<|tq (WO 2 dm r1.Alts)<|cD (EM R104 name a r1.Op o8 r1.N l19 l2 r1.Alts.length r1.Types ([]:List ag) ([]:List am) ([]:List az) ([]:List al) 0 r1.Alts hR104 _ bo29)<|Vt 4 (l30.map au) [3,6] [] (dc.fz1 (m:=0) (b:=4) rfl l30) (dc.fz2 4 l30) (Yo au bl30)<|tq (iD 4 (p:=sl ae l19) (aH a8 l19))<|tq (iD 4 (p:=sl aj l2) (aH bH l2))<|tq (Yp au bl30)<|tq (iD 4 (p:=sl ah r1.Types) (aH bU r1.Types))<|tq (iD 4 (p:=sl ae ([]:List ag)) (aH a8 ([]:List ag)))<|tq (iD 4 (p:=sl aj ([]:List am)) (aH bH ([]:List am)))<|tq (iD 4 (p:=sl au ([]:List az)) (aH dm ([]:List az)))<|tq (iD 4 (p:=sl ah ([]:List al)) (aH bU ([]:List al)))<|tv (aK (⟨r1.Op,o8,r1.N,l19,l2,l30,r1.Types⟩:ag) [])<|tx (dn (⟨r1.Op,o8,r1.N,l19,l2,l30,r1.Types⟩:ag))<|Ei λq=>aI (iX (⟨r1.Op,o8,r1.N,l19,l2,l30,r1.Types⟩:ag)) q.2
def vP:((ag×ai×ai)->Option ag)->(ag×ai×ai)->Option ag:=λ(rec:(ag×ai×ai)->Option ag) (x:ag×ai×ai)=>pE (λe name a=>rec (e,name,a)) x.1 x.2.1 x.2.2
def zW(e:ag)(name:ai)(a:ai):Option ag:=pl vP (e,name,a)
theorem KH{e:ag}{name:ai}{a:ai}:OV 59 [.agg (ae e),.str name,.str a] (zW e name a) (λr=>.agg (ae r)) []:=BN λ_ h=>
 dY (F:=vP) (M:=λ(x:ag×ai×ai) (r:ag)=>CC Pg GE 59 [.agg (ae x.1),.str x.2.1,.str x.2.2] (.agg (ae r)) []) (λrec hrec x r h=>Jh _ (λe name a=>BN λr h=>hrec (e,name,a) r h) _ h) h
noncomputable def qff:Code:=f14.body.getD .skip
theorem qeR:ZF Pg [] 14 f14 qff:=zf call14 func14 rfl mixed
def Bj(e:ag)(name:ai)(a:ai):Option ag:=
 if(name==a)=true then
  some e
 else
  (Ox e).bind λr2=>
  (app r2 ([a]:List ai)).bind λl3=>
  (mS l3 a).bind λr4=>
  (Bl e a r4 false).bind λr5=>
  (zW r5 name a).bind λr6=>
  some r6
theorem xD{e:ag}{name:ai}{a:ai}:OV 14 [.agg (ae e),.str name,.str a] (Bj e name a) (λr=>.agg (ae r)) []:=qeR.v<|
 te (cm e)<|tx rH<|tF (tv (aX e)<|tx (dn e)<|Ei λq=>aI (iX e) q.2)<|tb λr2 br2=>tb λl3 bl3=>tb λr4 br4=>tb λr5 br5=>tb λr6 br6=>tv (aX e)<|bM (RP _ br2)<|tv (gD [a] 1 rfl)<|tv (b8.ap bl3)<|bM (qW _ br4)<|tv (aX e)<|bM (OD _ br5)<|bM (KH _ br6)<|tx (dn r6)<|Ei λq=>aI (iX r6) q.2
abbrev sF:=(ag->waA->Bool->Option waA)
abbrev rZ(R:sF):Prop:=∀(e:ag) (bound:waA) (calls:Bool),OV 86 [.agg (ae e),sl cS bound,.bool calls] (R e bound calls) (λr=>sl cS r) [(0,9)]
noncomputable def qbN:Code:=f86.body.getD .skip
theorem qbu:ZF Pg [30,42,72,83] 86 f86 qbN:=zf call86 func86 rfl mixed
section
variable(bound:waA)(calls:Bool)(e:ag)
def zP:Option Bool:=
 if(e.Op==5)=true then
  (qZ bound e.Name).bind λr3=>
  some (!r3)
 else if(e.Op==3)=true then
  if(!calls)=true then
   (qZ bound e.Name).bind λr8=>
   some (!r8)
  else
   some false
 else
  some false
theorem Kv:OU 0 (cA qbN 28) (zP bound calls e) .normal (λo=>[(29,.bool o)]) (aO 84 [(1,sl cS bound),(2,.bool calls),(3,.eptr (ae e)),(7,sl cS ([]:List ai))] [.dead] [((7,0),9)]):=qbu.j<|
 have pp2:=λ{X Y Z} (r:PV _ X Y Z)=>tw (aU e)<|r;tf (λc1=>tb λr3 br3=>pp2<|tg 4 c1<|tw (bV e)<|bM (xP _ br3)<|tE) λc1=>have pp5:=λ{X Y Z} (r:PV _ X Y Z)=>pp2<|tg 4 c1<|tw (aU e)<|r;tf (λc4=>have pp7:=λ{X Y Z} (r:PV _ X Y Z)=>pp5<|tg 8 c4<|r;tf (λc6=>tb λr8 br8=>pp7<|tg 13 c6<|tw (bV e)<|bM (xP _ br8)<|tE) λc6=>pp7<|tg 13 c6<|tE) λc4=>pp5<|tg 8 c4<|tE
end
section
variable(bound:waA)(calls:Bool)(e:ag)
def ur:Option waA:=
 (zP bound calls e).bind λo9=>
 if o9=true then
  (app ([]:List ai) ([e.Name]:List ai)).bind λl11=>
  some l11
 else
  some ([]:List ai)
theorem Ku:OU 0 (cA qbN 14) (ur bound calls e) .normal (λo=>[(7,sl cS o)]) (aO 84 [(1,sl cS bound),(2,.bool calls),(3,.eptr (ae e)),(7,sl cS ([]:List ai))] [.dead] [((7,0),9)]):=qbu.j<|
 tb λo9 bo9=>jo 0<|cD (Kv bound calls e _ bo9)<|tF (tb λl11 bl11=>tw (bV e)<|tv (gD [e.Name] 1 rfl)<|tv (b8.ap bl11)<|tE)<|tE
end
section
variable(R109:sF)(bound:waA)(calls:Bool)(e:ag)(out:waA)(i:Int)
def CH:aB:=aO 84 [(1,sl cS bound),(2,.bool calls),(3,.eptr (ae e)),(7,sl cS out),(8,.int .i64 i)] [.dead] [((7,0),9)]
def MP(o:waA):aB:=aO 84 [(1,sl cS bound),(2,.bool calls),(3,.eptr (ae e)),(7,sl cS o)] [.dead] [((7,0),9)]
def ii:Option ((waA×Int)⊕(waA)):=
 if decide (i<(e.Kids.length:Int))=true then
  (ey e.Kids i).bind λx14=>
  (wn e i bound).bind λr15=>
  (R109 x14 r15 calls).bind λr16=>
  (app out r16).bind λl17=>
  some (.inl (l17,dp (i+1)))
 else
  some (.inr out)
def zQ:Option waA:=loop (λ(zz:waA×Int)=>ii R109 bound calls e zz.1 zz.2) (out,i)
theorem I9(hR109:rZ R109):OL 0 (cA qbN 247) (ii R109 bound calls e out i) (λ(zz:waA×Int)=>CH bound calls e zz.1 zz.2) (λ_=>.exit 0) (MP bound calls e) (CH bound calls e out i):=qbu.l<|
 tw (aR e)<|ct (cR.ln e.Kids)<|tF (tb λx14 bx14=>tb λr15 br15=>tb λr16 br16=>tb λl17 bl17=>Be [0,0,2,0,14,30,0,0,0,448,0,2046,4095,8191]<|tw (aR e)<|tv (cR.ia (k:=.i64) bx14)<|tv (aX x14)<|tv (aX e)<|bM (OI _ br15)<|bM (hR109 _ _ _ _ br16)<|tv (b8.ap bl17)<|tE)<|tE
def Kw(hR109:rZ R109):=rE (s:=(out,i)) λzz=>I9 R109 bound calls e zz.1 zz.2 hR109
end
section
variable(R109:sF)(bound:waA)(calls:Bool)(e:ag)(out:waA)(i:Int)
def CI:aB:=aO 84 [(1,sl cS bound),(2,.bool calls),(3,.eptr (ae e)),(7,sl cS out),(9,.int .i64 i)] [.dead] [((7,0),9)]
def MQ(o:waA):aB:=aO 84 [(7,sl cS o)] [.dead] [((7,0),9)]
def ij:Option ((waA×Int)⊕(waA)):=
 if decide (i<(e.Alts.length:Int))=true then
  (app ([]:List ai) bound).bind λl20=>
  (ey e.Alts i).bind λx21=>
  (app l20 x21.Names).bind λl22=>
  (ey e.Alts i).bind λx23=>
  (R109 x23.Body l22 calls).bind λr24=>
  (app out r24).bind λl25=>
  some (.inl (l25,dp (i+1)))
 else
  some (.inr out)
def zR:Option waA:=loop (λ(zz:waA×Int)=>ij R109 bound calls e zz.1 zz.2) (out,i)
theorem Ja(hR109:rZ R109):OL 0 (cA qbN 503) (ij R109 bound calls e out i) (λ(zz:waA×Int)=>CI bound calls e zz.1 zz.2) (λ_=>.exit 2) MQ (CI bound calls e out i):=qbu.l<|
 tw (ay e)<|ct (dc.ln e.Alts)<|tF (tb λl20 bl20=>tb λx21 bx21=>tb λl22 bl22=>tb λx23 bx23=>tb λr24 br24=>tb λl25 bl25=>Be [0,0,3,0,8,0,56,120,248,511,1023]<|tv (gD [] 0 rfl)<|tv (b8.ap bl20)<|tw (ay e)<|tv (dc.ia (k:=.i64) bx21)<|tw (eK x21)<|tv (b8.ap bl22)<|tw (ay e)<|tv (dc.ia (k:=.i64) bx23)<|tw (fT x23)<|bM (hR109 _ _ _ _ br24)<|tv (b8.ap bl25)<|tE)<|tE
def Kx(hR109:rZ R109):=rE (s:=(out,i)) λzz=>Ja R109 bound calls e zz.1 zz.2 hR109
end
def xO(R109:sF)(e:ag)(bound:waA)(calls:Bool):Option waA:=
 (ur bound calls e).bind λo12=>
 (zQ R109 bound calls e o12 0).bind λo18=>
 (zR R109 bound calls e o18 0).bind λo26=>
 some o26
theorem OE(R109:sF)(hR109:rZ R109){e:ag}{bound:waA}{calls:Bool}:OV 86 [.agg (ae e),sl cS bound,.bool calls] (xO R109 e bound calls) (λr=>sl cS r) [(0,9)]:=qbu.v<|
 tb λo12 bo12=>tb λo18 bo18=>tb λo26 bo26=>te (cm e)<|jo 1<|cD (Ku bound calls e _ bo12)<|cD (Kw R109 bound calls e o12 0 hR109 _ bo18)<|cD (Kx R109 bound calls e o18 0 hR109 _ bo26)<|tE
def Dz:((ag×waA×Bool)->Option waA)->(ag×waA×Bool)->Option waA:=λ(rec:(ag×waA×Bool)->Option waA) (x:ag×waA×Bool)=>xO (λe bound calls=>rec (e,bound,calls)) x.1 x.2.1 x.2.2
def Kt(e:ag)(bound:waA)(calls:Bool):Option waA:=pl Dz (e,bound,calls)
theorem Qh{e:ag}{bound:waA}{calls:Bool}:OV 86 [.agg (ae e),sl cS bound,.bool calls] (Kt e bound calls) (λr=>sl cS r) [(0,9)]:=BN λ_ h=>
 dY (F:=Dz) (M:=λ(x:ag×waA×Bool) (r:waA)=>CC Pg GE 86 [.agg (ae x.1),sl cS x.2.1,.bool x.2.2] (sl cS r) [(0,9)]) (λrec hrec x r h=>OE _ (λe bound calls=>BN λr h=>hrec (e,bound,calls) r h) _ h) h
noncomputable def V4:Code:=f128.body.getD .skip
theorem VB:ZF Pg [19,28,46,51] 128 f128 V4:=zf call128 func128 rfl mixed
section
variable(v:waA)(s:ai)(out:waA)(i:Int)
def pb:Option Bool:=
 if decide (i<(v.length:Int))=true then
  (ey v i).bind λx2=>
  some (Op.bytesLess x2 s)
 else
  some false
theorem Mx:OU 0 (cA V4 492) (pb v s i) .normal (λo=>[(18,.bool o)]) (aO 52 [(0,sl cS v),(1,.str s),(5,sl cS out),(6,.int .i64 i)] [] [((5,0),9)]):=VB.j<|
 tf (λc1=>tb λx2 bx2=>ct (b8.ln v)<|tg 5 c1<|tv (b8.ia (k:=.i64) bx2)<|tv (cw BZ (.str x2) [])<|tE) λc1=>ct (b8.ln v)<|tg 5 c1<|tE
end
section
variable(v:waA)(s:ai)(out:waA)(i:Int)
def Er:aB:=aO 52 [(0,sl cS v),(1,.str s),(5,sl cS out),(6,.int .i64 i)] [] [((5,0),9)]
def Ot(o:waA×Int):aB:=aO 52 [(0,sl cS v),(1,.str s),(5,sl cS o.1),(6,.int .i64 o.2)] [] [((5,0),9)]
def nl:Option ((waA×Int)⊕((waA×Int))):=
 (pb v s i).bind λo3=>
 if o3=true then
  (ey v i).bind λx5=>
  (app out ([x5]:List ai)).bind λl6=>
  some (.inl (l6,dp (i+1)))
 else
  some (.inr (out,i))
def J9:Option ((waA×Int)):=loop (λ(zz:waA×Int)=>nl v s zz.1 zz.2) (out,i)
theorem Ka:OL 0 (cA V4 123) (nl v s out i) (λ(zz:waA×Int)=>Er v s zz.1 zz.2) (λ_=>.exit 0) (Ot v s) (Er v s out i):=VB.l<|
 tb λo3 bo3=>jo 1<|cD (Mx v s out i _ bo3)<|tF (tb λx5 bx5=>tb λl6 bl6=>tv (b8.ia (k:=.i64) bx5)<|tv (cw BZ (.str x5) [])<|tv (gD [x5] 1 rfl)<|tv (b8.ap bl6)<|tE)<|tE
def MA:=rE (s:=(out,i)) λzz=>Ka v s zz.1 zz.2
end
section
variable(v:waA)(s:ai)(out:waA)(i:Int)
def Dr:Option Bool:=
 if decide (i<(v.length:Int))=true then
  (ey v i).bind λx10=>
  some (x10==s)
 else
  some false
theorem Mz:OU 0 (cA V4 252) (Dr v s i) .normal (λo=>[(1,.undef),(43,.bool o)]) (aO 52 [(0,sl cS v),(1,.str s),(5,sl cS out),(6,.int .i64 i)] [] [((5,0),9)]):=VB.j<|
 tf (λc9=>tb λx10 bx10=>ct (b8.ln v)<|tg 5 c9<|tv (b8.ia (k:=.i64) bx10)<|tv (cw BZ (.str x10) [])<|tE) λc9=>ct (b8.ln v)<|tg 5 c9<|tE
end
section
variable(v:waA)(s:ai)(out:waA)(i:Int)
def xw:Option Int:=
 (Dr v s i).bind λo11=>
 if o11=true then
  some (dp (i+1))
 else
  some i
theorem My:OU 0 (cA V4 126) (xw v s i) .normal (λo=>[(1,.undef),(6,.int .i64 o)]) (aO 52 [(0,sl cS v),(1,.str s),(5,sl cS out),(6,.int .i64 i)] [] [((5,0),9)]):=VB.j<|
 tb λo11 bo11=>jo 0<|cD (Mz v s out i _ bo11)<|tF tE<|tE
end
def Ep(a:waA)(s:ai):Option waA:=
 (J9 a s ([]:List ai) 0).bind λo7=>
 (app o7.1 ([s]:List ai)).bind λl8=>
 (xw a s o7.2).bind λo13=>
 (Y0 a (some o13) none).bind λl14=>
 (app l8 l14).bind λl15=>
 some l15
theorem Kc{a:waA}{s:ai}:OV 128 [sl cS a,.str s] (Ep a s) (λr=>sl cS r) [(0,9)]:=VB.v<|
 tb λo7 bo7=>tb λl8 bl8=>tb λo13 bo13=>tb λl14 bl14=>tb λl15 bl15=>cD (MA a s ([]:List ai) 0 _ bo7)<|tv (gD [s] 1 rfl)<|tv (b8.ap bl8)<|jo 0<|cD (My a s l8 o7.2 _ bo13)<|tv (b8.sc bl14)<|tv (b8.ap bl15)<|tE
noncomputable def qdF:Code:=f85.body.getD .skip
theorem qde:ZF Pg [12,24,32] 85 f85 qdF:=zf call85 func85 rfl mixed
section
variable(v:waA)(v2:waA)(t9:Int)(out:waA)(t10:Int)
def zx:aB:=aO 33 [(0,sl cS v),(1,sl cS v2),(5,sl cS out),(9,.int .i64 t9),(10,.int .i64 t10)] [] [((5,0),9)]
def J7(o:waA):aB:=aO 33 [(1,sl cS v2),(5,sl cS o)] [] [((5,0),9)]
def kJ:Option ((waA×Int)⊕(waA)):=
 if decide (t10<t9)=true then
  (ey v t10).bind λx2=>
  (Ep out x2).bind λr3=>
  some (.inl (r3,dp (t10+1)))
 else
  some (.inr out)
def En:Option waA:=loop (λ(zz:waA×Int)=>kJ v t9 zz.1 zz.2) (out,t10)
theorem Gs:OL 0 (cA qdF 119) (kJ v t9 out t10) (λ(zz:waA×Int)=>zx v v2 t9 zz.1 zz.2) (λ_=>.exit 0) (J7 v2) (zx v v2 t9 out t10):=qde.l<|
 tF (tb λx2 bx2=>tb λr3 br3=>tv (b8.ia (k:=.i64) bx2)<|tv (cw BZ (.str x2) [])<|bM (Kc _ br3)<|tE)<|tE
def IN:=rE (s:=(out,t10)) λzz=>Gs v v2 t9 zz.1 zz.2
end
section
variable(v:waA)(t21:Int)(out:waA)(t22:Int)
def zy:aB:=aO 33 [(1,sl cS v),(5,sl cS out),(21,.int .i64 t21),(22,.int .i64 t22)] [] [((5,0),9)]
def J8(o:waA):aB:=aO 33 [(5,sl cS o)] [] [((5,0),9)]
def kK:Option ((waA×Int)⊕(waA)):=
 if decide (t22<t21)=true then
  (ey v t22).bind λx6=>
  (Ep out x6).bind λr7=>
  some (.inl (r7,dp (t22+1)))
 else
  some (.inr out)
def Eo:Option waA:=loop (λ(zz:waA×Int)=>kK v t21 zz.1 zz.2) (out,t22)
theorem Gt:OL 0 (cA qdF 247) (kK v t21 out t22) (λ(zz:waA×Int)=>zy v t21 zz.1 zz.2) (λ_=>.exit 2) J8 (zy v t21 out t22):=qde.l<|
 tF (tb λx6 bx6=>tb λr7 br7=>tv (b8.ia (k:=.i64) bx6)<|tv (cw BZ (.str x6) [])<|bM (Kc _ br7)<|tE)<|tE
def IP:=rE (s:=(out,t22)) λzz=>Gt v t21 zz.1 zz.2
end
def Bi(a:waA)(a2:waA):Option waA:=
 (En a (a.length:Int) ([]:List ai) 0).bind λo4=>
 (Eo a2 (a2.length:Int) o4 0).bind λo8=>
 some o8
theorem Oq{a:waA}{a2:waA}:OV 85 [sl cS a,sl cS a2] (Bi a a2) (λr=>sl cS r) [(0,9)]:=qde.v<|
 tb λo4 bo4=>tb λo8 bo8=>ct (b8.ln a)<|cD (IN a a2 (a.length:Int) ([]:List ai) 0 _ bo4)<|ct (b8.ln a2)<|cD (IP a2 (a2.length:Int) o4 0 _ bo8)<|tE
noncomputable def qfl:Code:=f28.body.getD .skip
theorem qeX:ZF Pg [] 28 f28 qfl:=zf call28 func28 rfl mixed
def Et(e:ag):Option waA:=
 (Kt e ([]:List ai) false).bind λr1=>
 (Bi r1 ([]:List ai)).bind λr2=>
 some r2
theorem Qf{e:ag}:OV 28 [.agg (ae e)] (Et e) (λr=>sl cS r) [(0,9)]:=qeX.v<|
 tb λr1 br1=>tb λr2 br2=>te (cm e)<|tv (aX e)<|bM (Qh _ br1)<|bM (Oq _ br2)<|tE
abbrev jG:=(ag->waA->waA->waA->Option (ag×waA))
abbrev li(R:jG):Prop:=∀(e:ag) (a:waA) (to:waA) (used:waA),OG 63 [.agg (ae e),sl cS a,sl cS to,sl cS used] [((3,0),9)] [] (R e a to used) (λr=>.tuple [.agg (ae r.1),sl cS r.2]) [(1,9)] (λr=>[])
noncomputable def Z6:Code:=f115.body.getD .skip
theorem qbf:ZF Pg [25] 115 f115 Z6:=zf call115 func115 rfl mixed
section
variable(v:waA)(to:waA)(name:ai)(i:Int)
def pg:aB:=aO 26 [(0,sl cS v),(1,sl cS to),(2,.str name),(7,.int .i64 i)] [] []
def wh(o:ai⊕(Unit)):Exit:=match o with
 |(.inl _)=>.ret
 |(.inr _)=>.exit 0
def wj(o:ai⊕(Unit)):aB:=match o with
 |(.inl o)=>aO 26 [(6,.str o)] [] []
 |(.inr o)=>aO 26 [(2,.str name)] [] []
def gq:Option (Int⊕(ai⊕(Unit))):=
 if decide (i>=0)=true then
  (ey v i).bind λx2=>
  if(x2==name)=true then
   (ey to i).bind λx4=>
   some (.inr (.inl x4))
  else
   some (.inl (dp (i - 1)))
 else
  some (.inr (.inr ()))
def nr:Option (ai⊕(Unit)):=loop (λ(zz:Int)=>gq v to name zz) i
theorem DB:OL 0 (cA Z6 55) (gq v to name i) (λ(zz:Int)=>pg v to name zz) wh (wj name) (pg v to name i):=qbf.l<|
 tF (tb λx2 bx2=>tv (b8.ia (k:=.i64) bx2)<|tv (cw BZ (.str x2) [])<|tF (tb λx4 bx4=>tv (b8.ia (k:=.i64) bx4)<|tv (cw BZ (.str x4) [])<|tE)<|tE)<|tE
theorem uv:OK 0 (.loop (cA Z6 55)) (nr v to name i) wh (wj name) (pg v to name i):=C9 λ_=>DB _ _ _ _
end
def uu(a:waA)(to:waA)(name:ai):Option ai:=
 (nr a to name (dp ((a.length:Int) - 1))).bind λo5=>match o5 with
 |(.inl o5)=>
  some o5
 |(.inr o5)=>
  some name
theorem KD{a:waA}{to:waA}{name:ai}:OV 115 [sl cS a,sl cS to,.str name] (uu a to name) (λr=>.str r) []:=qbf.v<|
 ct (b8.ln a)<|t2 (λo5 bo5=>cD (uv a to name (dp ((a.length:Int) - 1)) _ bo5)<|tE) λo5 bo5=>cD (uv a to name (dp ((a.length:Int) - 1)) _ bo5)<|tE
noncomputable def G7:Code:=f63.body.getD .skip
theorem Qi:ZF Pg [37,38,46,63,85,109,126,137,140,142,153,156,193,197,209,220,222,234,237,241] 63 f63 G7:=zf call63 func63 rfl mixed
section
variable(e:ag)(v:waA)(to:waA)(used:waA)
def MS:Option ((waE×waC×waD×waB)):=
 some (([]:List ag),([]:List am),([]:List az),([]:List al))
theorem GP:Y9 Pg GE 1000 1 (cA G7 1) MS (λo=>aO 242 [(1,sl cS v),(2,sl cS to),(3,sl cS used),(4,.bptr 0 0),(8,.bptr 1 0)] [.cells [.int .i64 e.Op,.str e.Name,.int .i64 e.N,sl ae e.Kids,sl aj e.Params,sl au e.Alts,sl ah e.Types] [],.cells [.int .i64 0,.str ([]:ai),.int .i64 0,sl ae o.1,sl aj o.2.1,sl au o.2.2.1,sl ah o.2.2.2] [(3,28),(4,85),(5,89),(6,60)]] [((3,0),9)]) (aO 242 [(0,.agg (ae e)),(1,sl cS v),(2,sl cS to),(3,sl cS used)] [] [((3,0),9)]):=Qi.cut<|
 T9 (dn e) rfl<|tx rH<|tE
end
section
variable(v:waA)(to:waA)(used:waA)(m:Int)(m2:ai)(m3:Int)(n:Nat)(n2:Nat)(n3:Nat)(m4:waB)(m5:waE)(m6:waC)(m7:waD)(m8:waB)(w2:List ag)(w3:List am)(w4:List pQ)
def vN:Option Bool:=
 if(m==3)=true then
  some true
 else
  some (m==5)
theorem GS:OU 1000 (cA G7 28) (vN m) .normal (λo=>[(30,.bool o)]) (aO 242 [(1,sl cS v),(2,sl cS to),(3,sl cS used),(4,.bptr 0 0),(8,.bptr 1 0)] [.cells [.int .i64 m,.str m2,.int .i64 m3,.bsl 2 0 n,.bsl 3 0 n2,.bsl 4 0 n3,sl ah m4] [],.cells [.int .i64 0,.str ([]:ai),.int .i64 0,sl ae m5,sl aj m6,sl au m7,sl ah m8] [(3,28),(4,85),(5,89),(6,60)],.cells (aV ae w2) [],.cells (aV aj w3) [],.cells (aV cQ w4) [],.dead] [((3,0),9)]):=Qi.j<|
 tf (λc2=>ts<|tg 4 c2<|tE) λc2=>ts<|tg 4 c2<|ts<|tE
end
section
variable(v:waA)(to:waA)(used:waA)(m:Int)(m2:ai)(m3:Int)(n:Nat)(n2:Nat)(n3:Nat)(m4:waB)(m5:waE)(m6:waC)(m7:waD)(m8:waB)(w2:List ag)(w3:List am)(w4:List pQ)
def ke:Option ai:=
 (vN m).bind λo3=>
 if o3=true then
  (uu v to m2).bind λr5=>
  some r5
 else
  some m2
theorem GR:OJ 1000 (cA G7 14) (ke v to m m2) .normal (λo=>aO 242 [(1,sl cS v),(2,sl cS to),(3,sl cS used),(4,.bptr 0 0),(8,.bptr 1 0)] [.cells [.int .i64 m,.str o,.int .i64 m3,.bsl 2 0 n,.bsl 3 0 n2,.bsl 4 0 n3,sl ah m4] [],.cells [.int .i64 0,.str ([]:ai),.int .i64 0,sl ae m5,sl aj m6,sl au m7,sl ah m8] [(3,28),(4,85),(5,89),(6,60)],.cells (aV ae w2) [],.cells (aV aj w3) [],.cells (aV cQ w4) [],.dead] [((3,0),9)]) (aO 242 [(1,sl cS v),(2,sl cS to),(3,sl cS used),(4,.bptr 0 0),(8,.bptr 1 0)] [.cells [.int .i64 m,.str m2,.int .i64 m3,.bsl 2 0 n,.bsl 3 0 n2,.bsl 4 0 n3,sl ah m4] [],.cells [.int .i64 0,.str ([]:ai),.int .i64 0,sl ae m5,sl aj m6,sl au m7,sl ah m8] [(3,28),(4,85),(5,89),(6,60)],.cells (aV ae w2) [],.cells (aV aj w3) [],.cells (aV cQ w4) [],.dead] [((3,0),9)]):=Qi.j<|
 tb λo3 bo3=>jo 0<|cD (GS v to used m m2 m3 n n2 n3 m4 m5 m6 m7 m8 w2 w3 w4 _ bo3)<|tF (tb λr5 br5=>ts<|bM (KD _ br5)<|ts<|tE)<|tE
end
section
variable(v:waA)(to:waA)(used:waA)(m:Int)(m2:ai)(m3:Int)(n:Nat)(n2:Nat)(n3:Nat)(m4:waB)(m5:waE)(m6:waC)(m7:waD)(m8:waB)(w2:List ag)(w3:List am)(w4:List pQ)
def ik:Option ((waA×waA×waA×ai)):=
 if(m==7)=true then
  (mS used m2).bind λr8=>
  (app used ([r8]:List ai)).bind λl9=>
  (app ([]:List ai) v).bind λl10=>
  (app l10 ([m2]:List ai)).bind λl11=>
  (app ([]:List ai) to).bind λl12=>
  (app l12 ([r8]:List ai)).bind λl13=>
  some (l11,l13,l9,r8)
 else
  some (v,to,used,m2)
theorem GT:OJ 1000 (cA G7 62) (ik v to used m m2) .normal (λo=>aO 242 [(1,sl cS o.1),(2,sl cS o.2.1),(3,sl cS o.2.2.1),(4,.bptr 0 0),(8,.bptr 1 0),(10,sl cS v),(11,sl cS to)] [.cells [.int .i64 m,.str o.2.2.2,.int .i64 m3,.bsl 2 0 n,.bsl 3 0 n2,.bsl 4 0 n3,sl ah m4] [],.cells [.int .i64 0,.str ([]:ai),.int .i64 0,sl ae m5,sl aj m6,sl au m7,sl ah m8] [(3,28),(4,85),(5,89),(6,60)],.cells (aV ae w2) [],.cells (aV aj w3) [],.cells (aV cQ w4) [],.dead] [((3,0),9)]) (aO 242 [(1,sl cS v),(2,sl cS to),(3,sl cS used),(4,.bptr 0 0),(8,.bptr 1 0),(10,sl cS v),(11,sl cS to)] [.cells [.int .i64 m,.str m2,.int .i64 m3,.bsl 2 0 n,.bsl 3 0 n2,.bsl 4 0 n3,sl ah m4] [],.cells [.int .i64 0,.str ([]:ai),.int .i64 0,sl ae m5,sl aj m6,sl au m7,sl ah m8] [(3,28),(4,85),(5,89),(6,60)],.cells (aV ae w2) [],.cells (aV aj w3) [],.cells (aV cQ w4) [],.dead] [((3,0),9)]):=Qi.j<|
 ts<|tF (tb λr8 br8=>tb λl9 bl9=>tb λl10 bl10=>tb λl11 bl11=>tb λl12 bl12=>tb λl13 bl13=>ts<|bM (qW _ br8)<|tv (gD [r8] 1 rfl)<|tv (b8.ap bl9)<|Be [0,0,3,0,8,24,63,127]<|tv (gD [] 0 rfl)<|tv (b8.ap bl10)<|ts<|tv (gD [m2] 1 rfl)<|tv (b8.ap bl11)<|tv (gD [] 0 rfl)<|tv (b8.ap bl12)<|tv (gD [r8] 1 rfl)<|tv (b8.ap bl13)<|ts<|tE)<|tE
end
section
variable(v:waA)(to:waA)(used:waA)(first:waA)(second:waA)(i:Int)(m:Int)(m2:ai)(m3:Int)(n:Nat)(n2:Nat)(n3:Nat)(m4:waB)(m5:waE)(m6:waC)(m7:waD)(m8:waB)(w2:List ag)(w3:List am)(w4:List pQ)
def lX:Option Bool:=
 if decide (i<(n2:Int))=true then
  some (m==6)
 else
  some false
theorem GU:OU 1000 (cA G7 4060) (lX i m n2) .normal (λo=>[(74,.bool o)]) (aO 242 [(1,sl cS v),(2,sl cS to),(3,sl cS used),(4,.bptr 0 0),(8,.bptr 1 0),(10,sl cS first),(11,sl cS second),(13,.int .i64 i)] [.cells [.int .i64 m,.str m2,.int .i64 m3,.bsl 2 0 n,.bsl 3 0 n2,.bsl 4 0 n3,sl ah m4] [],.cells [.int .i64 0,.str ([]:ai),.int .i64 0,sl ae m5,sl aj m6,sl au m7,sl ah m8] [(3,28),(4,85),(5,89),(6,60)],.cells (aV ae w2) [],.cells (aV aj w3) [],.cells (aV cQ w4) [],.dead] [((3,0),9)]):=Qi.j<|
 have pp16:=λ{X Y Z} (r:PV _ X Y Z)=>ts<|ct (er.lnR 3 0 n2)<|r;tf (λc15=>pp16<|tg 6 c15<|ts<|tE) λc15=>pp16<|tg 6 c15<|tE
end
section
variable(first:waA)(second:waA)(m:Int)(m2:ai)(m3:Int)(n:Nat)(n2:Nat)(n3:Nat)(m4:waB)(m5:waE)(m6:waC)(m7:waD)(m8:waB)(w2:List ag)(w4:List pQ)(v:waA)(to:waA)(used:waA)(i:Int)(w3:List am)
def yJ:aB:=aO 242 [(1,sl cS v),(2,sl cS to),(3,sl cS used),(4,.bptr 0 0),(8,.bptr 1 0),(10,sl cS first),(11,sl cS second),(13,.int .i64 i)] [.cells [.int .i64 m,.str m2,.int .i64 m3,.bsl 2 0 n,.bsl 3 0 n2,.bsl 4 0 n3,sl ah m4] [],.cells [.int .i64 0,.str ([]:ai),.int .i64 0,sl ae m5,sl aj m6,sl au m7,sl ah m8] [(3,28),(4,85),(5,89),(6,60)],.cells (aV ae w2) [],.cells (aV aj w3) [],.cells (aV cQ w4) [],.dead] [((3,0),9)]
def Jf(o:waA×waA×waA×List am):aB:=aO 242 [(1,sl cS o.1),(2,sl cS o.2.1),(3,sl cS o.2.2.1),(4,.bptr 0 0),(8,.bptr 1 0),(10,sl cS first),(11,sl cS second)] [.cells [.int .i64 m,.str m2,.int .i64 m3,.bsl 2 0 n,.bsl 3 0 n2,.bsl 4 0 n3,sl ah m4] [],.cells [.int .i64 0,.str ([]:ai),.int .i64 0,sl ae m5,sl aj m6,sl au m7,sl ah m8] [(3,28),(4,85),(5,89),(6,60)],.cells (aV ae w2) [],.cells (aV aj o.2.2.2) [],.cells (aV cQ w4) [],.dead] [((3,0),9)]
def eU:Option ((waA×waA×waA×Int×List am)⊕((waA×waA×waA×List am))):=
 (lX i m n2).bind λo17=>
 if o17=true then
  (pn n2 w3 i).bind λx19=>
  (mS used x19.Name).bind λr20=>
  (app used ([r20]:List ai)).bind λl21=>
  (app ([]:List ai) v).bind λl22=>
  (pn n2 w3 i).bind λx23=>
  (app l22 ([x23.Name]:List ai)).bind λl24=>
  (app ([]:List ai) to).bind λl25=>
  (app l25 ([r20]:List ai)).bind λl26=>
  (pn n2 w3 i).bind λx27=>
  (IJ w3 i (⟨r20,x27.Type_⟩:am)).bind λl28=>
  some (.inl (l24,l26,l21,dp (i+1),l28))
 else
  some (.inr (v,to,used,w3))
def kf:Option ((waA×waA×waA×List am)):=loop (λ(zz:waA×waA×waA×Int×List am)=>eU m n2 zz.1 zz.2.1 zz.2.2.1 zz.2.2.2.1 zz.2.2.2.2) (v,to,used,i,w3)
theorem EF:OL 1000 (cA G7 1015) (eU m n2 v to used i w3) (λ(zz:waA×waA×waA×Int×List am)=>yJ first second m m2 m3 n n2 n3 m4 m5 m6 m7 m8 w2 w4 zz.1 zz.2.1 zz.2.2.1 zz.2.2.2.1 zz.2.2.2.2) (λ_=>.exit 0) (Jf first second m m2 m3 n n2 n3 m4 m5 m6 m7 m8 w2 w4) (yJ first second m m2 m3 n n2 n3 m4 m5 m6 m7 m8 w2 w4 v to used i w3):=Qi.l<|
 tb λo17 bo17=>jo 1<|cD (GU v to used first second i m m2 m3 n n2 n3 m4 m5 m6 m7 m8 w2 w3 w4 _ bo17)<|tF (tb λx19 bx19=>tb λr20 br20=>tb λl21 bl21=>tb λl22 bl22=>tb λx23 bx23=>tb λl24 bl24=>tb λl25 bl25=>tb λl26 bl26=>tb λx27 bx27=>tb λl28 bl28=>ts<|tv (er.iaN 3 (k:=.i64) bx19)<|tv (er.ldF (yf x19) (sR x19) bx19)<|bM (qW _ br20)<|tv (gD [r20] 1 rfl)<|tv (b8.ap bl21)<|Be [0,0,3,0,8,0,56,120,248,504,1023,2047]<|tv (gD [] 0 rfl)<|tv (b8.ap bl22)<|ts<|tv (er.iaN 3 (k:=.i64) bx23)<|tv (er.ldF (yf x23) (sR x23) bx23)<|tv (gD [x23.Name] 1 rfl)<|tv (b8.ap bl24)<|tv (gD [] 0 rfl)<|tv (b8.ap bl25)<|tv (gD [r20] 1 rfl)<|tv (b8.ap bl26)<|ts<|tv (er.iaN 3 (k:=.i64) bx27)<|SY (er.stG (AR x27 r20) bx27 bl28)<|tE)<|tE
def GY:=rE (s:=(v,to,used,i,w3)) λzz=>EF first second m m2 m3 n n2 n3 m4 m5 m6 m7 m8 w2 w4 zz.1 zz.2.1 zz.2.2.1 zz.2.2.2.1 zz.2.2.2.2
end
section
variable(v:waA)(to:waA)(used:waA)(first:waA)(second:waA)(i:Int)(m:Int)(m2:ai)(m3:Int)(n:Nat)(m4:waC)(n2:Nat)(m5:waB)(m6:waE)(m7:waC)(m8:waD)(m9:waB)(w2:List ag)(w4:List pQ)
def sq:Option Bool:=
 if(m==7)=true then
  some (i==0)
 else
  some false
theorem EB:OU 1000 (cA G7 32634) (sq i m) .normal (λo=>[(125,.bool o)]) (aO 242 [(1,sl cS v),(2,sl cS to),(3,sl cS used),(4,.bptr 0 0),(8,.bptr 1 0),(10,sl cS first),(11,sl cS second),(15,.int .i64 i)] [.cells [.int .i64 m,.str m2,.int .i64 m3,.bsl 2 0 n,sl aj m4,.bsl 4 0 n2,sl ah m5] [],.cells [.int .i64 0,.str ([]:ai),.int .i64 0,sl ae m6,sl aj m7,sl au m8,sl ah m9] [(3,28),(4,85),(5,89),(6,60)],.cells (aV ae w2) [],.dead,.cells (aV cQ w4) [],.dead] [((3,0),9)]):=Qi.j<|
 tf (λc32=>ts<|tg 4 c32<|tE) λc32=>ts<|tg 4 c32<|tE
end
section
variable(R112:jG)(v:waA)(to:waA)(used:waA)(first:waA)(second:waA)(i:Int)(m:Int)(m2:ai)(m3:Int)(n:Nat)(m4:waC)(n2:Nat)(m5:waB)(m6:waE)(m7:waC)(m8:waD)(m9:waB)(w2:List ag)(w4:List pQ)
def vO:Option ((waA×List ag)):=
 (sq i m).bind λo33=>
 if o33=true then
  (pn n w2 i).bind λx35=>
  (R112 x35 first second used).bind λr36=>
  (pn n w2 i).bind λx37=>
  (IJ w2 i r36.1).bind λl38=>
  some (r36.2,l38)
 else
  (pn n w2 i).bind λx39=>
  (R112 x39 v to used).bind λr40=>
  (pn n w2 i).bind λx41=>
  (IJ w2 i r40.1).bind λl42=>
  some (r40.2,l42)
theorem GV(hR112:li R112):OJ 1000 (cA G7 8158) (vO R112 v to used first second i m n w2) .normal (λo=>aO 242 [(1,sl cS v),(2,sl cS to),(3,sl cS o.1),(4,.bptr 0 0),(8,.bptr 1 0),(10,sl cS first),(11,sl cS second),(15,.int .i64 i)] [.cells [.int .i64 m,.str m2,.int .i64 m3,.bsl 2 0 n,sl aj m4,.bsl 4 0 n2,sl ah m5] [],.cells [.int .i64 0,.str ([]:ai),.int .i64 0,sl ae m6,sl aj m7,sl au m8,sl ah m9] [(3,28),(4,85),(5,89),(6,60)],.cells (aV ae o.2) [],.dead,.cells (aV cQ w4) [],.dead] [((3,0),9)]) (aO 242 [(1,sl cS v),(2,sl cS to),(3,sl cS used),(4,.bptr 0 0),(8,.bptr 1 0),(10,sl cS first),(11,sl cS second),(15,.int .i64 i)] [.cells [.int .i64 m,.str m2,.int .i64 m3,.bsl 2 0 n,sl aj m4,.bsl 4 0 n2,sl ah m5] [],.cells [.int .i64 0,.str ([]:ai),.int .i64 0,sl ae m6,sl aj m7,sl au m8,sl ah m9] [(3,28),(4,85),(5,89),(6,60)],.cells (aV ae w2) [],.dead,.cells (aV cQ w4) [],.dead] [((3,0),9)]):=Qi.j<|
 tb λo33 bo33=>jo 0<|cD (EB v to used first second i m m2 m3 n m4 n2 m5 m6 m7 m8 m9 w2 w4 _ bo33)<|tF (tb λx35 bx35=>tb λr36 br36=>tb λx37 bx37=>tb λl38 bl38=>RL (.dx [0,1,0,0,8,0,56,120,0,0,0,2040,4088,8184,8184,16383,49151,131071] [] [] [4])<|ts<|ts<|tv (cR.iaN 2 (k:=.i64) bx35)<|tv (cR.ldN (mW x35) bx35)<|qcJ [] [⟨3,137,0,9⟩] (hR112 _ _ _ _ _ br36)<|tv (cR.iaN 2 (k:=.i64) bx37)<|SY (cR.stR (dR r36.1) bl38)<|tE)<|tb λx39 bx39=>tb λr40 br40=>tb λx41 bx41=>tb λl42 bl42=>RL (.dx [0,1,0,0,8,0,56,120,0,0,0,2040,4088,8184,8184,16383,49151,131071] [] [] [4])<|ts<|ts<|tv (cR.iaN 2 (k:=.i64) bx39)<|tv (cR.ldN (mW x39) bx39)<|qcJ [] [⟨3,153,0,9⟩] (hR112 _ _ _ _ _ br40)<|tv (cR.iaN 2 (k:=.i64) bx41)<|SY (cR.stR (dR r40.1) bl42)<|tE
end
section
variable(R112:jG)(v:waA)(to:waA)(first:waA)(second:waA)(m:Int)(m2:ai)(m3:Int)(n:Nat)(m4:waC)(n2:Nat)(m5:waB)(m6:waE)(m7:waC)(m8:waD)(m9:waB)(w4:List pQ)(used:waA)(i:Int)(w2:List ag)
def yK:aB:=aO 242 [(1,sl cS v),(2,sl cS to),(3,sl cS used),(4,.bptr 0 0),(8,.bptr 1 0),(10,sl cS first),(11,sl cS second),(15,.int .i64 i)] [.cells [.int .i64 m,.str m2,.int .i64 m3,.bsl 2 0 n,sl aj m4,.bsl 4 0 n2,sl ah m5] [],.cells [.int .i64 0,.str ([]:ai),.int .i64 0,sl ae m6,sl aj m7,sl au m8,sl ah m9] [(3,28),(4,85),(5,89),(6,60)],.cells (aV ae w2) [],.dead,.cells (aV cQ w4) [],.dead] [((3,0),9)]
def Jg(o:waA×List ag):aB:=aO 242 [(3,sl cS o.1),(4,.bptr 0 0),(8,.bptr 1 0),(10,sl cS first),(11,sl cS second)] [.cells [.int .i64 m,.str m2,.int .i64 m3,.bsl 2 0 n,sl aj m4,.bsl 4 0 n2,sl ah m5] [],.cells [.int .i64 0,.str ([]:ai),.int .i64 0,sl ae m6,sl aj m7,sl au m8,sl ah m9] [(3,28),(4,85),(5,89),(6,60)],.cells (aV ae o.2) [],.dead,.cells (aV cQ w4) [],.dead] [((3,0),9)]
def gY:Option ((waA×Int×List ag)⊕((waA×List ag))):=
 if decide (i<(n:Int))=true then
  (vO R112 v to used first second i m n w2).bind λo43=>
  some (.inl (o43.1,dp (i+1),o43.2))
 else
  some (.inr (used,w2))
def lY:Option ((waA×List ag)):=loop (λ(zz:waA×Int×List ag)=>gY R112 v to first second m n zz.1 zz.2.1 zz.2.2) (used,i,w2)
theorem EG(hR112:li R112):OL 1000 (cA G7 2039) (gY R112 v to first second m n used i w2) (λ(zz:waA×Int×List ag)=>yK v to first second m m2 m3 n m4 n2 m5 m6 m7 m8 m9 w4 zz.1 zz.2.1 zz.2.2) (λ_=>.exit 2) (Jg first second m m2 m3 n m4 n2 m5 m6 m7 m8 m9 w4) (yK v to first second m m2 m3 n m4 n2 m5 m6 m7 m8 m9 w4 used i w2):=Qi.l<|
 ts<|ct (cR.lnR 2 0 n)<|tF (tb λo43 bo43=>jo 0<|cD (GV R112 v to used first second i m m2 m3 n m4 n2 m5 m6 m7 m8 m9 w2 w4 hR112 _ bo43)<|tE)<|tE
def GZ(hR112:li R112):=rE (s:=(used,i,w2)) λzz=>EG R112 v to first second m m2 m3 n m4 n2 m5 m6 m7 m8 m9 w4 zz.1 zz.2.1 zz.2.2 hR112
end
section
variable(R112:jG)(v:waA)(to:waA)(used:waA)(m:Int)(m2:ai)(m3:Int)(n:Nat)(n2:Nat)(n3:Nat)(m4:waB)(m5:waE)(m6:waC)(m7:waD)(m8:waB)(w2:List ag)(w3:List am)(w4:List pQ)
def vM:Option ((waA×ai×waE×waC)):=
 (ke v to m m2).bind λo6=>
 (ik v to used m o6).bind λo14=>
 (kf m n2 o14.1 o14.2.1 o14.2.2.1 0 w3).bind λo29=>
 (RK n2 o29.2.2.2).bind λl30=>
 (lY R112 o29.1 o29.2.1 v to m n o29.2.2.1 0 w2).bind λo44=>
 (RK n o44.2).bind λl45=>
 some (o44.1,o14.2.2.2,l45,l30)
theorem GQ(hR112:li R112):Y9 Pg GE 1000 5 (cA G7 7) (vM R112 v to used m m2 n n2 w2 w3) (λo=>aO 242 [(3,sl cS o.1),(4,.bptr 0 0),(8,.bptr 1 0),(10,sl cS v),(11,sl cS to)] [.cells [.int .i64 m,.str o.2.1,.int .i64 m3,sl ae o.2.2.1,sl aj o.2.2.2,.bsl 4 0 n3,sl ah m4] [],.cells [.int .i64 0,.str ([]:ai),.int .i64 0,sl ae m5,sl aj m6,sl au m7,sl ah m8] [(3,28),(4,85),(5,89),(6,60)],.dead,.dead,.cells (aV cQ w4) [],.dead] [((3,0),9)]) (aO 242 [(1,sl cS v),(2,sl cS to),(3,sl cS used),(4,.bptr 0 0),(8,.bptr 1 0)] [.cells [.int .i64 m,.str m2,.int .i64 m3,.bsl 2 0 n,.bsl 3 0 n2,.bsl 4 0 n3,sl ah m4] [],.cells [.int .i64 0,.str ([]:ai),.int .i64 0,sl ae m5,sl aj m6,sl au m7,sl ah m8] [(3,28),(4,85),(5,89),(6,60)],.cells (aV ae w2) [],.cells (aV aj w3) [],.cells (aV cQ w4) [],.dead] [((3,0),9)]):=Qi.cut<|
 tb λo6 bo6=>tb λo14 bo14=>tb λo29 bo29=>tb λl30 bl30=>tb λo44 bo44=>tb λl45 bl45=>jo 0<|cD (GR v to used m m2 m3 n n2 n3 m4 m5 m6 m7 m8 w2 w3 w4 _ bo6)<|jo 1<|cD (GT v to used m o6 m3 n n2 n3 m4 m5 m6 m7 m8 w2 w3 w4 _ bo14)<|cD (GY v to m o14.2.2.2 m3 n n2 n3 m4 m5 m6 m7 m8 w2 w4 o14.1 o14.2.1 o14.2.2.1 0 w3 _ bo29)<|Vt 3 (l30.map aj) [1,2,3,4,8,10,11] [2,4] (er.fz1 (m:=1000) (b:=3) rfl l30) (er.fz2 3 l30) (Yo aj bl30)<|tq (iD 3 (p:=sl cS o29.1) (aH uB o29.1))<|tq (iD 3 (p:=sl cS o29.2.1) (aH uB o29.2.1))<|tq (iD 3 (p:=sl cS o29.2.2.1) (aH uB o29.2.2.1))<|tq (iD 3 (p:=sl cS v) (aH uB v))<|tq (iD 3 (p:=sl cS to) (aH uB to))<|tq (Yp aj bl30)<|tq (iD 3 (p:=sl ah m4) (aH bU m4))<|tq (iD 3 (p:=sl ae m5) (aH a8 m5))<|tq (iD 3 (p:=sl aj m6) (aH bH m6))<|tq (iD 3 (p:=sl au m7) (aH dm m7))<|tq (iD 3 (p:=sl ah m8) (aH bU m8))<|tq (WO 3 a8 w2)<|tq (WO 3 Bz w4)<|cD (GZ R112 o29.1 o29.2.1 v to m o14.2.2.2 m3 n l30 n3 m4 m5 m6 m7 m8 w4 o29.2.2.1 0 w2 hR112 _ bo44)<|Vt 2 (l45.map ae) [3,4,8,10,11] [4] (cR.fz1 (m:=1000) (b:=2) rfl l45) (cR.fz2 2 l45) (Yo ae bl45)<|tq (iD 2 (p:=sl cS o44.1) (aH uB o44.1))<|tq (iD 2 (p:=sl cS v) (aH uB v))<|tq (iD 2 (p:=sl cS to) (aH uB to))<|tq (Yp ae bl45)<|tq (iD 2 (p:=sl aj l30) (aH bH l30))<|tq (iD 2 (p:=sl ah m4) (aH bU m4))<|tq (iD 2 (p:=sl ae m5) (aH a8 m5))<|tq (iD 2 (p:=sl aj m6) (aH bH m6))<|tq (iD 2 (p:=sl au m7) (aH dm m7))<|tq (iD 2 (p:=sl ah m8) (aH bU m8))<|tq (WO 2 Bz w4)<|tE
end
section
variable(used:waA)(first:waA)(second:waA)(m:Int)(m2:ai)(m3:Int)(m4:waE)(m5:waC)(n:Nat)(m6:waB)(m7:waE)(m8:waC)(m9:waD)(m10:waB)(w4:List pQ)
def KA:Option Unit:=
 some ()
theorem EC:OU 1000 (cA G7 1020) KA .normal (λo=>[(16,.int .i64 0)]) (aO 242 [(3,sl cS used),(4,.bptr 0 0),(8,.bptr 1 0),(10,sl cS first),(11,sl cS second)] [.cells [.int .i64 m,.str m2,.int .i64 m3,sl ae m4,sl aj m5,.bsl 4 0 n,sl ah m6] [],.cells [.int .i64 0,.str ([]:ai),.int .i64 0,sl ae m7,sl aj m8,sl au m9,sl ah m10] [(3,28),(4,85),(5,89),(6,60)],.dead,.dead,.cells (aV cQ w4) [],.dead] [((3,0),9)]):=Qi.j<|
 tE
end
section
variable(first:waA)(second:waA)(i:Int)(m:Int)(m2:ai)(m3:Int)(m4:waE)(m5:waC)(n:Nat)(m6:waB)(m7:waE)(m8:waC)(m9:waD)(m10:waB)(w4:List dD)(used:waA)(inner:waA)(outer:waA)(k:Int)(w5:List ai)
def wg:aB:=aO 242 [(3,sl cS used),(4,.bptr 0 0),(8,.bptr 1 0),(10,sl cS first),(11,sl cS second),(16,.int .i64 i),(17,sl cS inner),(18,sl cS outer),(19,.int .i64 k)] [.cells [.int .i64 m,.str m2,.int .i64 m3,sl ae m4,sl aj m5,.bsl 4 0 n,sl ah m6] [],.cells [.int .i64 0,.str ([]:ai),.int .i64 0,sl ae m7,sl aj m8,sl au m9,sl ah m10] [(3,28),(4,85),(5,89),(6,60)],.dead,.dead,.cells (aV bp w4) [],.cells (aV cS w5) []] [((18,0),9),((17,0),9),((3,0),9)]
def GX(o:waA×waA×waA×List ai):aB:=aO 242 [(3,sl cS o.1),(4,.bptr 0 0),(8,.bptr 1 0),(10,sl cS first),(11,sl cS second),(16,.int .i64 i),(17,sl cS o.2.1),(18,sl cS o.2.2.1)] [.cells [.int .i64 m,.str m2,.int .i64 m3,sl ae m4,sl aj m5,.bsl 4 0 n,sl ah m6] [],.cells [.int .i64 0,.str ([]:ai),.int .i64 0,sl ae m7,sl aj m8,sl au m9,sl ah m10] [(3,28),(4,85),(5,89),(6,60)],.dead,.dead,.cells (aV bp w4) [],.cells (aV cS o.2.2.2) []] [((18,0),9),((17,0),9),((3,0),9)]
def gp:Option ((waA×waA×waA×Int×List ai)⊕((waA×waA×waA×List ai))):=
 (pn n w4 i).bind λx51=>
 (Vo 5 x51.NV).bind λn52=>
 if decide (k<(n52:Int))=true then
  (pn n w4 i).bind λx54=>
  (Vo 5 x54.NV).bind λn55=>
  (pn n55 w5 k).bind λx56=>
  (mS used x56).bind λr57=>
  (app used ([r57]:List ai)).bind λl58=>
  (pn n w4 i).bind λx59=>
  (Vo 5 x59.NV).bind λn60=>
  (pn n60 w5 k).bind λx61=>
  (app inner ([x61]:List ai)).bind λl62=>
  (app outer ([r57]:List ai)).bind λl63=>
  (pn n w4 i).bind λx64=>
  (Vo 5 x64.NV).bind λn65=>
  (pn n65 w5 k).bind λx66=>
  (IJ w5 k r57).bind λl67=>
  some (.inl (l58,l62,l63,dp (k+1),l67))
 else
  some (.inr (used,inner,outer,w5))
def kM:Option ((waA×waA×waA×List ai)):=loop (λ(zz:waA×waA×waA×Int×List ai)=>gp i n w4 zz.1 zz.2.1 zz.2.2.1 zz.2.2.2.1 zz.2.2.2.2) (used,inner,outer,k,w5)
theorem DA:OL 1000 (cA G7 1046455) (gp i n w4 used inner outer k w5) (λ(zz:waA×waA×waA×Int×List ai)=>wg first second i m m2 m3 m4 m5 n m6 m7 m8 m9 m10 w4 zz.1 zz.2.1 zz.2.2.1 zz.2.2.2.1 zz.2.2.2.2) (λ_=>.exit 6) (GX first second i m m2 m3 m4 m5 n m6 m7 m8 m9 m10 w4) (wg first second i m m2 m3 m4 m5 n m6 m7 m8 m9 m10 w4 used inner outer k w5):=Qi.l<|
 tb λx51 bx51=>tb λn52 bn52=>ts<|tv (gj.iaN 4 (k:=.i64) bx51)<|tv (gj.ldF (mK x51) (Sx bn52) bx51)<|ct (b8.lnR 5 0 n52)<|tF (tb λx54 bx54=>tb λn55 bn55=>tb λx56 bx56=>tb λr57 br57=>tb λl58 bl58=>tb λx59 bx59=>tb λn60 bn60=>tb λx61 bx61=>tb λl62 bl62=>tb λl63 bl63=>tb λx64 bx64=>tb λn65 bn65=>tb λx66 bx66=>tb λl67 bl67=>ts<|tv (gj.iaN 4 (k:=.i64) bx54)<|tv (gj.ldF (mK x54) (Sx bn55) bx54)<|tv (b8.iaN 5 (k:=.i64) bx56)<|tv (b8.ldN (λr=>cw BZ (.str x56) r) bx56)<|bM (qW _ br57)<|tv (gD [r57] 1 rfl)<|tv (b8.ap bl58)<|ts<|tv (gj.iaN 4 (k:=.i64) bx59)<|tv (gj.ldF (mK x59) (Sx bn60) bx59)<|tv (b8.iaN 5 (k:=.i64) bx61)<|tv (b8.ldN (λr=>cw BZ (.str x61) r) bx61)<|tv (gD [x61] 1 rfl)<|tv (b8.ap bl62)<|tv (gD [r57] 1 rfl)<|tv (b8.ap bl63)<|ts<|tv (gj.iaN 4 (k:=.i64) bx64)<|tv (gj.ldF (mK x64) (Sx bn65) bx64)<|tv (b8.iaN 5 (k:=.i64) bx66)<|SY (b8.stR (qaF r57) bl67)<|tE)<|tE
def EE:=rE (s:=(used,inner,outer,k,w5)) λzz=>DA first second i m m2 m3 m4 m5 n m6 m7 m8 m9 m10 w4 zz.1 zz.2.1 zz.2.2.1 zz.2.2.2.1 zz.2.2.2.2
end
section
variable(R112:jG)(first:waA)(second:waA)(m:Int)(m2:ai)(m3:Int)(m4:waE)(m5:waC)(n:Nat)(m6:waB)(m7:waE)(m8:waC)(m9:waD)(m10:waB)(used:waA)(i:Int)(w4:List dD)(w5:List ai)
def wd:aB:=aO 242 [(3,sl cS used),(4,.bptr 0 0),(8,.bptr 1 0),(10,sl cS first),(11,sl cS second),(16,.int .i64 i)] [.cells [.int .i64 m,.str m2,.int .i64 m3,sl ae m4,sl aj m5,.bsl 4 0 n,sl ah m6] [],.cells [.int .i64 0,.str ([]:ai),.int .i64 0,sl ae m7,sl aj m8,sl au m9,sl ah m10] [(3,28),(4,85),(5,89),(6,60)],.dead,.dead,.cells (aV bp w4) [],.cells (aV cS w5) []] [((3,0),9)]
def GW(o:waA×List dD×List ai):aB:=aO 242 [(3,sl cS o.1),(4,.bptr 0 0),(8,.bptr 1 0)] [.cells [.int .i64 m,.str m2,.int .i64 m3,sl ae m4,sl aj m5,.bsl 4 0 n,sl ah m6] [],.cells [.int .i64 0,.str ([]:ai),.int .i64 0,sl ae m7,sl aj m8,sl au m9,sl ah m10] [(3,28),(4,85),(5,89),(6,60)],.dead,.dead,.cells (aV bp o.2.1) [],.cells (aV cS o.2.2) []] [((3,0),9)]
def pf:Option ((waA×Int×List dD×List ai)⊕((waA×List dD×List ai))):=
 if decide (i<(n:Int))=true then
  (app ([]:List ai) first).bind λl49=>
  (app ([]:List ai) second).bind λl50=>
  (kM i n w4 used l49 l50 0 w5).bind λo68=>
  (pn n w4 i).bind λx69=>
  (R112 x69.Body o68.2.1 o68.2.2.1 o68.1).bind λr70=>
  (pn n w4 i).bind λx71=>
  (IJ w4 i (⟨x71.Con,x71.NV,r70.1⟩:dD)).bind λl72=>
  some (.inl (r70.2,dp (i+1),l72,o68.2.2.2))
 else
  some (.inr (used,w4,w5))
theorem su(hR112:li R112):OL 1000 (cA G7 4087) (pf R112 first second n used i w4 w5) (λ(zz:waA×Int×List dD×List ai)=>wd first second m m2 m3 m4 m5 n m6 m7 m8 m9 m10 zz.1 zz.2.1 zz.2.2.1 zz.2.2.2) (λ_=>.exit 4) (GW m m2 m3 m4 m5 n m6 m7 m8 m9 m10) (wd first second m m2 m3 m4 m5 n m6 m7 m8 m9 m10 used i w4 w5):=Qi.l<|
 ts<|ct (dc.lnR 4 0 n)<|tF (tb λl49 bl49=>tb λl50 bl50=>tb λo68 bo68=>tb λx69 bx69=>tb λr70 br70=>tb λx71 bx71=>tb λl72 bl72=>tv (gD [] 0 rfl)<|tv (b8.ap bl49)<|tv (gD [] 0 rfl)<|tv (b8.ap bl50)<|cD (EE first second i m m2 m3 m4 m5 n m6 m7 m8 m9 m10 w4 used l49 l50 0 w5 _ bo68)<|RL (.dx [0,1,0,0,8,0,56,120,248,0,0,0,4088,8184,16376,16376,32767,98303,229375,524287] [] [] [8])<|ts<|ts<|tv (gj.iaN 4 (k:=.i64) bx69)<|tv (gj.ldF (Lw x69) (CU x69) bx69)<|qcJ [] [⟨3,234,0,9⟩] (hR112 _ _ _ _ _ br70)<|tv (gj.iaN 4 (k:=.i64) bx71)<|SY (gj.stG (Dd x71 r70.1) bx71 bl72)<|tE)<|tE
end
section
variable(used:waA)(m:Int)(m2:ai)(m3:Int)(m4:waE)(m5:waC)(n:Nat)(m6:waB)(m7:waE)(m8:waC)(m9:waD)(m10:waB)(w4:List az)
def zV:Option ((waD×waD)):=
 (RK n w4).bind λl74=>
 some (l74,l74)
theorem ED:OJ 1000 (cA G7 511) (zV n w4) .ret (λo=>aO 242 [(8,.bptr 1 0),(9,sl cS used)] [.cells [.int .i64 m,.str m2,.int .i64 m3,sl ae m4,sl aj m5,sl au o.1,sl ah m6] [],.cells [.int .i64 m,.str m2,.int .i64 m3,sl ae m4,sl aj m5,sl au o.2,sl ah m6] [],.dead,.dead,.dead,.dead] [((9,0),9)]) (aO 242 [(3,sl cS used),(4,.bptr 0 0),(8,.bptr 1 0)] [.cells [.int .i64 m,.str m2,.int .i64 m3,sl ae m4,sl aj m5,.bsl 4 0 n,sl ah m6] [],.cells [.int .i64 0,.str ([]:ai),.int .i64 0,sl ae m7,sl aj m8,sl au m9,sl ah m10] [(3,28),(4,85),(5,89),(6,60)],.dead,.dead,.cells (aV au w4) [],.dead] [((3,0),9)]):=Qi.jf<|
 tb λl74 bl74=>Vt 4 (l74.map au) [3,4,8] [] (dc.fz1 (m:=1000) (b:=4) rfl l74) (dc.fz2 4 l74) (Yo au bl74)<|tq (iD 4 (p:=sl cS used) (aH uB used))<|tq (iD 4 (p:=sl ae m4) (aH a8 m4))<|tq (iD 4 (p:=sl aj m5) (aH bH m5))<|tq (Yp au bl74)<|tq (iD 4 (p:=sl ah m6) (aH bU m6))<|tq (iD 4 (p:=sl ae m7) (aH a8 m7))<|tq (iD 4 (p:=sl aj m8) (aH bH m8))<|tq (iD 4 (p:=sl au m9) (aH dm m9))<|tq (iD 4 (p:=sl ah m10) (aH bU m10))<|tv (aK (⟨m,m2,m3,m4,m5,l74,m6⟩:ag) [])<|tx (dn (⟨m,m2,m3,m4,m5,l74,m6⟩:ag))<|tE
end
end Go.Proofs.YtkdahfeiedaahaaGreatDoor
