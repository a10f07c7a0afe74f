/- PROVED: a part of the proof. Conditions: none. -/
import Derived.Test.YtjddnhkahpfhdaaGreatDoorPkV14
import Derived.Test.YtjddnhkahpfhdaaGreatDoorPkV9
import Derived.Test.YtjddnhkahpfhdaaGreatDoorPkV11
import Derived.Shelf.SlSortCmp.NoneTotal
import Derived.Test.YtjddnhkahpfhdaaGreatDoorPkV13
set_option linter.unusedSimpArgs false
set_option linter.unusedVariables false
noncomputable section
namespace Go.Proofs.YtjddnhkahpfhdaaGreatDoor
open Go Go.RowKit Go.Proofs.Tryz
set_option linter.unusedVariables false
set_option linter.unusedSimpArgs false
set_option maxRecDepth 100000
abbrev XH:Nat:=123
noncomputable def XB:Code:=f123.body.getD .skip
abbrev Sk(m:al)(mb:Nat)(l:List ae)(size:Int):PVal:=.func (.func Us) [] [.eptr (pY m mb),.eptr [sl af l],.eptr [.int .i64 size]]
theorem Oo(m:al)(mb:Nat)(l:List ae)(size:Int):(Sk m mb l size).cl 0:=⟨vzz,qf m mb,⟨bB dy l,vzz⟩,⟨vzz,vzz⟩,vzz⟩
theorem O0(m:al)(mb:Nat)(l:List ae)(size:Int):CC Pg GE XH [.agg (pY m mb),sl af l,.int .i64 size] (Sk m mb l size) []:=by
 have z:=se (rfl:bA (.agg (pY m mb))=some (pY m mb))<|se (rfl:bA (sl af l)=some [sl af l])<|se (rfl:bA (.int .i64 size)=some [.int .i64 size])<|en (aI (rP (Sk m mb l size)) (Oo m mb l size))
 have hc:dO 0 [.agg (pY m mb),sl af l,.int .i64 size]:=⟨qf m mb,bB dy l,vzz,vzz⟩
 exact C.evp (A:=[]) mixed call123 func123 (c:=XB) rfl hc z (by kernel_rfl)
abbrev Wo:Code:=be Rh [false]
abbrev SP:Code:=be Rh [true,false]
abbrev Vc:Code:=be Rh [true,true,false,false]
abbrev Wp:Code:=be SN [false]
abbrev Vd:Code:=be RW [false]
abbrev SO:Code:=be RW [true,false]
abbrev Qg:Code:=be cT [false]
abbrev Ve:Code:=be cT [true,false]
abbrev Te:Code:=be SN [true,true,true]
abbrev Eg:Code:=be Rh [true,true,true,false]
theorem RP:Rh=.seq Wo (.seq (.region (xn SP) (bY SP) false) (.seq (.seq Vc (.block 0 (.loop SN))) (.seq (.region (xn Eg) (bY Eg) false) .ret))):=by kernel_rfl
theorem RY:SN=.seq Wp (.seq (.cond (.tmp 19) .skip (.exit 0)) (.seq (.block 1 RW) Te)):=by kernel_rfl
theorem RX:RW=.seq Vd (.seq SO (.seq (.region (xn Qg) (bY Qg) false) (.seq Ve (.block 2 (.rangeFunc (.tmp 47) #[48] (PE N2) dB))))):=by kernel_rfl
abbrev B7(m:al)(mb:Nat)(d:aN)(size j:Int)(ob:Nat)(L:List (Nat×PVal)):List PVal:=
 (bO 65 ([(2,.int .i64 size),(3,.eptr (pY m mb)),(4,.eptr (ax d)),(7,.val (.pointer (some ⟨ob,0,none⟩)))]++L++[(16,sl aF d.Cons),(17,.int .i64 (d.Cons.length:Int)),(18,.int .i64 j)]) [] []).tmps
theorem Ig(m:al)(mb:Nat)(d:aN)(size j:Int)(ob:Nat):dO 0 (B7 m mb d size j ob []):=pD ⟨vzz,qf m mb,(show dO 0 (ax d)from gG d),vzz,bB lF d.Cons,vzz,vzz,vzz⟩
section
variable(m:al)(mb:Nat)(d:aN)(c:aH)(size j:Int)(ob nb:Nat)
theorem XC:cO Pg GE 0 Wo (EX .normal (bO 65 [(2,.int .i64 size),(3,.eptr (pY m mb)),(4,.eptr (ax d))] [.dead,.dead] [])) (bO 65 [(0,.agg (pY m mb)),(1,.agg (ax d)),(2,.int .i64 size)] [] []):=by
 have z:=se (rfl:bA (.agg (pY m mb))=some (pY m mb))<|se (rfl:bA (.agg (ax d))=some (ax d))<|eF .normal (bO 65 [(2,.int .i64 size),(3,.eptr (pY m mb)),(4,.eptr (ax d))] [.dead,.dead] [])
 exact cK (A:=[]) mixed z (by kernel_rfl)
theorem XD:cO Pg GE 0 Vc (EX .normal ⟨B7 m mb d size 0 ob [],[],[]⟩) (bO 65 [(2,.int .i64 size),(3,.eptr (pY m mb)),(4,.eptr (ax d)),(7,.val (.pointer (some ⟨ob,0,none⟩)))] [] []):=by
 have z:=sv (Gu d)<|sv (GF d)<|Ux (Dj.ln d.Cons)<|eF .normal ⟨B7 m mb d size 0 ob [],[],[]⟩
 exact cK (A:=[]) mixed z (by kernel_rfl)
theorem XE:cO Pg GE 0 Wp (EX .normal ⟨(B7 m mb d size j ob []).set 19 (.bool (decide (j<(d.Cons.length:Int)))),[],[]⟩) ⟨B7 m mb d size j ob [],[],[]⟩:=by
 have z:=eF .normal ⟨(B7 m mb d size j ob []).set 19 (.bool (decide (j<(d.Cons.length:Int)))),[],[]⟩
 exact cK (A:=[]) mixed z (by kernel_rfl)
theorem XF(hc:cH d.Cons j=some c):cO Pg GE 0 Vd (EX .normal ⟨B7 m mb d size j ob [(8,.int .i64 j),(9,.eptr (aF c))],[.dead],[]⟩) ⟨B7 m mb d size j ob [],[],[]⟩:=by
 have z:=sv (Dj.ia (k:=.i64) hc)<|sv (Mm c)<|sx TQ<|sx (J2 c)<|eF .normal ⟨B7 m mb d size j ob [(8,.int .i64 j),(9,.bptr 0 0)],[.cells [.str c.Name,sl cS c.Names,sl af c.Fields] []],[]⟩
 have h1:cO Pg GE 0 Vd (EX .normal ⟨B7 m mb d size j ob [(8,.int .i64 j),(9,.bptr 0 0)],[.cells [.str c.Name,sl cS c.Names,sl af c.Fields] []],[]⟩) ⟨B7 m mb d size j ob [],[],[]⟩:=cK (A:=[]) mixed z (by kernel_rfl)
 have z2:=VU 0 [[.str c.Name,sl cS c.Names,sl af c.Fields]] [2,3,4,7,8,9,16,17,18] [] (Vr (m:=0) (b:=0) rfl [.str c.Name,sl cS c.Names,sl af c.Fields] rfl) (Vs 0 (l:=[.str c.Name,sl cS c.Names,sl af c.Fields]) (lF c)) (Vt (l:=[.str c.Name,sl cS c.Names,sl af c.Fields]) (r:=[.str c.Name,sl cS c.Names,sl af c.Fields]) rfl)<|sf (Lt 0 (p:=pY m mb) (qf m mb))<|sf (Lt 0 (p:=ax d) (gG d))<|sf (Ut 0 (p:=sl aF d.Cons) (bB lF d.Cons))<|en (fr ⟨B7 m mb d size j ob [(8,.int .i64 j),(9,.eptr (aF c))],[.dead],[]⟩)
 exact h1.thenW (Vu z2 (by kernel_rfl))
abbrev KP(m:al)(mb:Nat)(d:aN)(c:aH)(size j:Int)(ob:Nat):List PVal:=B7 m mb d size j ob [(8,.int .i64 j),(9,.eptr (aF c))]
theorem Iq:au Pg 135 (.eptr (pY m mb)) 0=some (.eptr ((pY m mb).drop 0)):=by kernel_rfl
theorem IH:aG Pg 29 ((pY m mb).drop 0)=some (.agg (am m)):=by kernel_rfl
theorem O2:aG Pg 135 (pY m mb)=some (.agg (pY m mb)):=by kernel_rfl
theorem Vg{r:aN×Int×Bool}(h:fG m c.Name=some r)(c1:(!(r.1.Name==d.Name))=true):cO Pg GE 0 SO (EX (.exit 1) ⟨B7 m mb d size j ob [],[.dead],[]⟩) ⟨KP m mb d c size j ob,[],[]⟩:=by
 have z:=sv (Iq m mb)<|sv (IH m mb)<|sv (nk c)<|sv (pQ c)<|Sy (jw r h)<|sx By<|sx (eS r.1)<|ss<|sv (qg d)<|sv (rY d)<|sg 6 c1<|sk<|eF (.exit 1) ⟨B7 m mb d size j ob [],[.dead],[]⟩
 exact cK (A:=[]) mixed z (by kernel_rfl)
theorem Vh{r:aN×Int×Bool}(h:fG m c.Name=some r)(c1:(!(r.1.Name==d.Name))=false)(c2:(!(r.2.1==j))=true):cO Pg GE 0 SO (EX (.exit 1) ⟨B7 m mb d size j ob [],[.dead],[]⟩) ⟨KP m mb d c size j ob,[],[]⟩:=by
 have z:=sv (Iq m mb)<|sv (IH m mb)<|sv (nk c)<|sv (pQ c)<|Sy (jw r h)<|sx By<|sx (eS r.1)<|ss<|sv (qg d)<|sv (rY d)<|sg 6 c1<|sg 0 c2<|eF (.exit 1) ⟨B7 m mb d size j ob [],[.dead],[]⟩
 exact cK (A:=[]) mixed z (by kernel_rfl)
theorem Vi{r:aN×Int×Bool}(h:fG m c.Name=some r)(c1:(!(r.1.Name==d.Name))=false)(c2:(!(r.2.1==j))=false):cO Pg GE 0 SO (EX .normal ⟨KP m mb d c size j ob,[.dead],[]⟩) ⟨KP m mb d c size j ob,[],[]⟩:=by
 have z:=sv (Iq m mb)<|sv (IH m mb)<|sv (nk c)<|sv (pQ c)<|Sy (jw r h)<|sx By<|sx (eS r.1)<|ss<|sv (qg d)<|sv (rY d)<|sg 6 c1<|sg 0 c2<|eF .normal ⟨KP m mb d c size j ob,[.dead],[]⟩
 exact cK (A:=[]) mixed z (by kernel_rfl)
abbrev LK(m:al)(mb:Nat)(d:aN)(c:aH)(size j:Int)(ob nb:Nat):List PVal:=NI (pY m mb) d.Cons d c size (d.Cons.length:Int) j j ob nb []
theorem XG:cO Pg GE 0 Ve (EX .normal ⟨(LK m mb d c size j ob nb).set 47 (Sk m mb c.Fields (bw (size - 1))),[],[]⟩) ⟨LK m mb d c size j ob nb,[],[]⟩:=by
 have z:=sv (O2 m mb)<|sv (Ir c)<|sv (II c)<|Sy (O0 m mb c.Fields (bw (size - 1)))<|eF .normal ⟨(LK m mb d c size j ob nb).set 47 (Sk m mb c.Fields (bw (size - 1))),[],[]⟩
 exact cK (A:=[]) mixed z (by kernel_rfl)
theorem Vf:cO Pg GE 0 Te (EX .normal ⟨B7 m mb d size (bw (j+1)) ob [],[],[]⟩) ⟨B7 m mb d size j ob [],[],[]⟩:=by
 have z:=eF .normal ⟨B7 m mb d size (bw (j+1)) ob [],[],[]⟩
 exact cK (A:=[]) mixed z (by kernel_rfl)
theorem Ql:dO 0 ((LK m mb d c size j ob nb).set 47 (Sk m mb c.Fields (bw (size - 1)))):=by
 have h1:dO 0 (LK m mb d c size j ob nb):=pD ⟨vzz,qf m mb,(show dO 0 (ax d)from gG d),vzz,vzz,(show dO 0 (aF c)from lF c),vzz,bB lF d.Cons,vzz,vzz,vzz⟩
 exact Ie λp hp=>by
  rcases vcf hp with hp|rfl
  ·obtain⟨i,hi⟩:=vbC hp
   exact gz h1 hi
  ·exact Oo m mb c.Fields _
theorem Rl:dO 0 (KP m mb d c size j ob):=pD ⟨vzz,qf m mb,(show dO 0 (ax d)from gG d),vzz,vzz,(show dO 0 (aF c)from lF c),bB lF d.Cons,vzz,vzz,vzz⟩
end
section
variable(R:ae->Int->fe->Option (List aa×fe))(m:al)(d:aN)(size:Int)
abbrev Tu(size:Int)(c:aH):Bool:=decide (-IK<=bw (size - 1))&&decide (bw (size - 1)<=IK)&&decide ((c.Fields.length:Int)<=IK)
def PM(j:Nat)(c:aH)(o:List aa×fe):Option (List aa×fe):=
 (fG m c.Name).bind λr=>if(!(r.1.Name==d.Name))=true then some o else if(!(r.2.1==(j:Int)))=true then some o else
  if Tu size c=true then(G3 R (Js c.Name) c.Fields (bw (size - 1)) [] ((o.1,0),o.2)).bind λq=>some (q.2.1.1,q.2.2)else none
def JB:Nat->List aH->List aa×fe->Option (List aa×fe)
 |_,[],o=>some o
 |j,c::cs,o=>(PM R m d size j c o).bind λo=>JB (j+1) cs o
def Qu(K:fe):Option (List aa×fe):=if d.Cons.length<4611686018427387904 then JB R m d size 0 d.Cons ([],K)else none
end
abbrev GH(Ds:List Nat):List Deferred:=Ds.map λD=>{target:=.collected D,args:=#[]}
structure CI(lo mb ob:Nat)(o:List aa×fe)(v:Value)(Ds:List Nat)(Γ:ay)(w:World):Prop where
 k:KM mb o.2 Γ w
 hd:wx w ob v
 ho:nB GE Γ w ob
 row:fj Pg GE eV Γ w (pG ac o.1) o.1.length v
 vo:∀b,v.ownBlock=some b->lo<=b/\b≠ob/\b∉Ds
 lb:lo<=ob
 mlo:mb<lo
 ds:∀D∈Ds,lo<=D/\D≠ob/\nB GE Γ w D/\w.heap[D]? =some (.deferred (some []))
 nd:Ds.Nodup
section
variable{lo mb ob:Nat}{o:List aa×fe}{v:Value}{Ds:List Nat}{Γ Γ':ay}{w w':World}{M:Nat->Prop}
theorem CI.mv(h:CI lo mb ob o v Ds Γ w)(hm:Mv GE M Γ w Γ' w')(hM:∀b,M b->b≠mb/\b≠ob/\v.ownBlock≠some b/\b∉Ds):CI lo mb ob o v Ds Γ' w' where
 k:=h.k.mv hm λhb=>(hM _ hb).1 rfl
 hd:=h.hd.mv hm λhb=>(hM _ hb).2.1 rfl
 ho:=h.ho.mv hm λhb=>(hM _ hb).2.1 rfl
 row:=h.row.mv hm λb hb hM'=>(hM b hM').2.2.1 hb
 vo:=h.vo
 lb:=h.lb
 mlo:=h.mlo
 ds:=λD hD=>⟨(h.ds D hD).1,(h.ds D hD).2.1,(h.ds D hD).2.2.1.mv hm λhb=>(hM _ hb).2.2.2 hD,(hm.keep (h.ds D hD).2.2.1.2.1 λhb=>(hM _ hb).2.2.2 hD).trans (h.ds D hD).2.2.2⟩
 nd:=h.nd
theorem CI.mv0(h:CI lo mb ob o v Ds Γ w)(hm:Mv GE no Γ w Γ' w'):CI lo mb ob o v Ds Γ' w':=h.mv hm λb h=>h.elim
end
abbrev L2(m:al)(mb:Nat)(d:aN)(size:Int)(j:Nat)(ob lo:Nat)(o:List aa×fe)(Γ:ay)(w:World)(e:Exit)(a':Act)(w':World):Prop:=
 ∃Γ' v' Ds',Mv GE (λb=>b=mb\/lo<=b) Γ w Γ' w'/\CI lo mb ob o v' Ds' Γ' w'/\a'.defers=GH Ds'/\Fr Γ' w' a'.tmps (B7 m mb d size j ob [])
section
variable{lo mb ob:Nat}{o o':List aa×fe}{v:Value}{Ds:List Nat}{Γ Γ':ay}{w w':World}{m:al}{d:aN}{c:aH}{size:Int}{j nn:Nat}{a:Array Value}{R:ae->Int->fe->Option (List aa×fe)}
theorem S6{α:Type}{cs:Array α}(h:cs.size=3):∃a b c,cs=#[a,b,c]:=by
 match cs,h with
 |⟨[a,b,c]⟩,_=>exact⟨a,b,c,rfl⟩
theorem Qh(hR:Od m R)(hlong:∀t n K r,R t n K=some r->r.1.length<4611686018427387904)(hc:cH d.Cons (j:Int)=some c)(h:PM R m d size j c o=some o')(hB:dJ GE Γ w)(hI:CI lo mb ob o v Ds Γ w)(g:Fr Γ w a (B7 m mb d size j ob [])):(Code.block 1 RW).wpIn Fence.wide nn Pg (λe a' w'=>e=.normal/\L2 m mb d size j ob lo o' Γ w e a' w') ⟨a,GH Ds⟩ w:=by
 have key:RW.wpIn Fence.wide nn Pg (λe a' w'=>(e=.normal\/e=.exit 1)/\L2 m mb d size j ob lo o' Γ w e a' w') ⟨a,GH Ds⟩ w:=by
  unfold PM at h
  obtain⟨r,hr,h⟩:=A6 h
  rw[RX]
  refine wpIn_seq (wpIn_mono (g.piece0 (k:=0) (XF m mb d c size j ob hc) hB (Rl m mb d c size j ob) (GH Ds)) ?_)
  rintro e ⟨a1,ds1⟩ w1 ⟨rfl,rfl,Γ1,m1,g1⟩
  have hI1:=hI.mv0 m1
  have skip:∀{c0:Code},cO Pg GE 0 SO (EX (.exit 1) ⟨B7 m mb d size j ob [],[.dead],[]⟩) ⟨KP m mb d c size j ob,[],[]⟩->o'=o->(Code.seq SO c0).wpIn Fence.wide nn Pg (λe a' w'=>(e=.normal\/e=.exit 1)/\L2 m mb d size j ob lo o' Γ w e a' w') ⟨a1,GH Ds⟩ w1:=λhS ho=>by
   subst ho
   refine wpIn_seq (wpIn_mono (g1.piece0 (k:=0) hS m1.base (Ig m mb d size j ob) (GH Ds)) ?_)
   rintro e ⟨a2,ds2⟩ w2 ⟨rfl,rfl,Γ2,m2,g2⟩
   exact⟨.inr rfl,Γ2,v,Ds,(m1.trans m2 λb h=>.inl h).mono λb h=>h.elim,hI1.mv0 m2,rfl,g2⟩
  rcases OE h with⟨c1,h⟩|⟨c1,h⟩
  ·exact skip (Vg m mb d c size j ob hr c1) (vat h).symm
  rcases OE h with⟨c2,h⟩|⟨c2,h⟩
  ·exact skip (Vh m mb d c size j ob hr c1 c2) (vat h).symm
  rcases OE h with⟨c3,h⟩|⟨c3,h⟩
  rotate_left
  ·cases h
  obtain⟨q,hq,h⟩:=A6 h
  obtain rfl:=vat h
  simp only[Tu,vae,vam]at c3
  refine wpIn_seq (wpIn_mono (g1.piece0 (k:=0) (Vi m mb d c size j ob hr c1 c2) m1.base (Rl m mb d c size j ob) (GH Ds)) ?_)
  rintro e ⟨a2,ds2⟩ w2 ⟨rfl,rfl,Γ2,m2,g2⟩
  have m02:Mv GE no Γ w Γ2 w2:=m1.trans m2 λb h=>.inl h
  have hI2:=hI1.mv0 m2
  have zi:(zeroValue 3).run Pg w2=.ok (.int .i64 0) w2:=Tryz.zeroValue3 w2
  refine wpIn_seq (wpIn_region ?_)
  rw[show List.range (bY Qg).size=[0,1] by kernel_rfl]
  refine bR (o:=bF Qg 0) (by kernel_rfl) (by kernel_rfl) (cC (by kernel_rfl) (by simp only[execOp,show(bF Qg 0).op=.alloc 3 by kernel_rfl,Sem.run_bind,wr zi];rfl) ?_)
  rw[show(bF Qg 0).dst=some 13 by kernel_rfl]
  have m3:Mv GE no Γ2 w2 Γ2 (w2.alloc (.cells #[.int .i64 0] 3)):=.alloc m2.base _
  have hn3:wx (w2.alloc (.cells #[.int .i64 0] 3)) w2.heap.size (.int .i64 0):=.new _ _ w2
  have on3:nB GE Γ2 (w2.alloc (.cells #[.int .i64 0] 3)) w2.heap.size:=.new m2.base _
  have g3:=(g2.mv m3.le).set (d:=13) (p:=.val (.pointer (some ⟨w2.heap.size,0,none⟩))) (.val _)
  have sz3:(w2.alloc (.cells #[.int .i64 0] 3)).heap.size=w2.heap.size+1:=World.size_alloc _ _
  show wpOpsIn Fence.wide nn Pg _ _ _ ⟨a2.setIfInBounds 13 (.pointer (some ⟨w2.heap.size,0,none⟩)),GH Ds⟩ (w2.alloc (.cells #[.int .i64 0] 3))
  generalize w2.alloc (.cells #[.int .i64 0] 3)=w3 at m3 hn3 on3 g3 sz3
  generalize a2.setIfInBounds 13 (.pointer (some ⟨w2.heap.size,0,none⟩))=a3 at g3
  generalize hnb:w2.heap.size=nb at hn3 on3 g3 sz3
  have e13:(Act.mk a3 (GH Ds)).eval (.tmp 13)=.pointer (some ⟨nb,0,none⟩):=aP (g3.raw (by kernel_rfl))
  obtain⟨w4,hrun4,m4,hn4⟩:=hn3.store (P:=Pg) (T:=3) (u:=.int .i64 0) m3.base (by kernel_rfl) (by kernel_rfl) rfl on3
  have ec:(Act.mk a3 (GH Ds)).eval (.const (.int .i64 0))=.int .i64 0:=rfl
  refine bR (o:=bF Qg 1) (by kernel_rfl) (by kernel_rfl) (jT (a:=a3) (by kernel_rfl) (w':=w4) (by simp[execOp,show(bF Qg 1).op=.store 3 (.tmp 13) (.const (.int .i64 0)) by kernel_rfl,e13,ec,hrun4]) ?_)
  rw[show(bF Qg 1).dst=none by kernel_rfl]
  show(Code.seq Ve (.block 2 (.rangeFunc (.tmp 47) #[48] (PE N2) dB))).wpIn Fence.wide nn Pg _ ⟨a3,GH Ds⟩ w4
  have on4:nB GE Γ2 w4 nb:=on3.keep m4.size
  have nM:∀b,b=nb->b≠mb/\b≠ob/\v.ownBlock≠some b/\b∉Ds:=λb hb=>by
   subst hb
   refine⟨λe=>?_,λe=>?_,λe=>?_,λe=>?_⟩
   ·have:=hI2.k.off.2.1;omega
   ·have:=hI2.ho.2.1;omega
   ·have:=(hI2.row.off _ e).2.1;omega
   ·have:=(hI2.ds _ e).2.2.1.2.1;omega
  have hI4:=(hI2.mv0 m3).mv m4 nM
  have m24:Mv GE no Γ2 w2 Γ2 w4:=m3.trans m4 λb h=>by
   have h:b=nb:=h
   exact .inr (by omega)
  have g4:Fr Γ2 w4 a3 (LK m mb d c size j ob nb):=(g3.mv m4.le).forget (by kernel_rfl)
  refine wpIn_seq (wpIn_mono (g4.piece0 (k:=0) (XG m mb d c size j ob nb) m4.base (Ql m mb d c size j ob nb) (GH Ds)) ?_)
  rintro e ⟨a5,ds5⟩ w5 ⟨rfl,rfl,Γ5,m5,g5⟩
  have hI5:=hI4.mv0 m5
  have hn5:=hn4.mv m5 id
  have on5:=on4.mv m5 id
  have m05:Mv GE no Γ w Γ5 w5:=(m02.trans m24 λb h=>.inl h).trans m5 λb h=>.inl h
  have hlo:lo<=w.heap.size:=by have:=hI.lb;have:=hI.ho.2.1;omega
  obtain⟨f1,e47,v47⟩:=g5.get (t:=47) (p:=Sk m mb c.Fields (bw (size - 1))) (by kernel_rfl)
  have e47':(Act.mk a5 (GH Ds)).eval (.tmp 47)=f1:=aP e47
  cases v47 with
  |func _ _ _ fs cs hl1 hl2 hf hcp=>
  obtain rfl:fs=#[]:=va1 hl1
  obtain⟨k1,k2,k3,rfl⟩:=S6 hl2
  have v1:VR Γ5 [] w5 (.eptr (pY m mb)) k1:=hcp 0 _ _ rfl rfl
  have v2:VR Γ5 [] w5 (.eptr [sl af c.Fields]) k2:=hcp 1 _ _ rfl rfl
  have v3:VR Γ5 [] w5 (.eptr [.int .i64 (bw (size - 1))]) k3:=hcp 2 _ _ rfl rfl
  refine wpIn_block (wpIn_rangeFunc λfn _=>?_)
  have mA1:Mv GE no Γ5 w5 Γ5 (w5.alloc (.deferred (some []))):=.alloc m5.base _
  have mA2:Mv GE no Γ5 (w5.alloc (.deferred (some []))) Γ5 ((w5.alloc (.deferred (some []))).alloc (.loop (mo fn a5 w5.heap.size true))):=.alloc mA1.base _
  have oD1:nB GE Γ5 (w5.alloc (.deferred (some []))) w5.heap.size:=.new m5.base _
  have ol2:nB GE Γ5 ((w5.alloc (.deferred (some []))).alloc (.loop (mo fn a5 w5.heap.size true))) (w5.heap.size+1):=by
   have:=nB.new mA1.base (.loop (mo fn a5 w5.heap.size true))
   rwa[World.size_alloc]at this
  have rl2:((w5.alloc (.deferred (some []))).alloc (.loop (mo fn a5 w5.heap.size true))).heap[w5.heap.size+1]? =some (.loop (mo fn a5 w5.heap.size true)):=by
   have:=World.alloc_heap_new (w5.alloc (.deferred (some []))) (.loop (mo fn a5 w5.heap.size true))
   rwa[World.size_alloc]at this
  have rD2:((w5.alloc (.deferred (some []))).alloc (.loop (mo fn a5 w5.heap.size true))).heap[w5.heap.size]? =some (.deferred (some [])):=by
   rw[dH _ _ (by rw[World.size_alloc];omega)]
   exact World.alloc_heap_new w5 _
  have mA:Mv GE no Γ5 w5 Γ5 ((w5.alloc (.deferred (some []))).alloc (.loop (mo fn a5 w5.heap.size true))):=mA1.trans mA2 λb h=>.inl h
  have hen':(Instr.enterLoop fn a5 #[48] (PE N2) dB Fence.wide.round).run Pg w5=.ok (w5.heap.size+1,[{target:=.collected w5.heap.size,args:=#[]}]) ((w5.alloc (.deferred (some []))).alloc (.loop (mo fn a5 w5.heap.size true))):=run_enterLoop_outer fn a5 #[48] (PE N2) dB
  have oD2:=oD1.mv mA2 id
  generalize ((w5.alloc (.deferred (some []))).alloc (.loop (mo fn a5 w5.heap.size true)))=wA at mA ol2 rl2 rD2 hen' oD2
  have hbob:ob<w5.heap.size:=hI5.ho.2.1
  have hbnb:nb<w5.heap.size:=on5.2.1
  have hob:ob≠nb:=λe=>(nM ob e).2.1 rfl
  have hJ:JC (pY m mb) d.Cons d c size (d.Cons.length:Int) j j ob nb (w5.heap.size+1) w5.heap.size a5 fn (FC ob nb (w5.heap.size+1) w5.heap.size v) true (o.1,0) Γ5 wA:={
   base:=mA.base
   fr:=(g5.forget (tm':=LK m mb d c size j ob nb) (by kernel_rfl)).mv mA.le
   ex:=⟨v,rfl,hI5.hd.mv mA id,hI5.row.mv mA λb _=>id,λe=>(hI5.vo _ e).2.1 rfl,λe=>(nM nb rfl).2.2.1 e,λe=>by have:=(hI5.row.off _ e).2.1;omega,λe=>by have:=(hI5.row.off _ e).2.1;omega⟩
   oo:=hI5.ho.mv mA id
   on:=on5.mv mA id
   ol:=ol2
   oD:=oD2
   hn:=hn5.mv mA id
   rl:=rl2
   rD:=rD2
   ds:=⟨hob,by omega,by omega,by omega,by omega,by omega⟩}
  have hmbF:¬FC ob nb (w5.heap.size+1) w5.heap.size v mb:=λh=>by
   have:=hI5.k.off.2.1
   have:=hI5.mlo
   rcases h with h|h|h|h|h
   ·have:=hI5.lb;omega
   ·exact(nM mb h).1 rfl
   ·omega
   ·omega
   ·have:=(hI5.vo _ h).1;omega
  refine⟨_,_,_,{target:=.fn (.func Us) #[k1,k2,k3],args:=#[.func (.yield (w5.heap.size+1)) #[] #[]]},wA,Us,#[.func (.yield (w5.heap.size+1)) #[] #[],k1,k2,k3],wA,hen',?_,λ_ _=>trivial,?_,λhx=>by simp[Fence.wide]at hx,?_⟩
  ·simp only[resolve,e47',Deferred.ofValue]
   simp[Act.eval]
  ·simp[invoke,call146]
  refine(Nd (SX (c:=c)) hR hlong hq c3.1.1 c3.1.2 c3.2 hJ (hI5.k.mv mA id) hmbF (vaP _) (v1.mono mA.le (.refl _)) (v2.mono mA.le (.refl _)) (v3.mono mA.le (.refl _))).mono ?_
  rintro e w6 ⟨⟨u,rfl⟩,Γ6,F6,m6,hF6,hJ6,hk6⟩
  refine⟨_,_,run_endLoop hJ6.rl (by cases q.1<;>simp),?_⟩
  obtain⟨v6,hF6e,a1',a2',a3',a4',a5',a6'⟩:=hJ6.ex
  have m7:=Mv.putObj m6.base hJ6.ol (.loop {mo fn a5 w5.heap.size q.1 with state:=.exhausted})
  generalize w6.putObj (w5.heap.size+1) (.loop {mo fn a5 w5.heap.size q.1 with state:=.exhausted})=w7 at m7
  obtain⟨d1,d2,d3,d4,d5,d6⟩:=hJ6.ds
  have hwA:w5.heap.size<=wA.heap.size:=mA.size
  have hlo5:lo<=w5.heap.size:=vax hlo m05.size
  have own6:∀b,v6.ownBlock=some b->v.ownBlock=some b\/wA.heap.size<=b:=λb hb=>by
   rcases hF6 b (by rw[hF6e];exact .inr (.inr (.inr (.inr hb))))with(rfl|rfl|rfl|rfl|h)|h
   ·exact absurd hb a3'
   ·exact absurd hb a4'
   ·exact absurd hb a5'
   ·exact absurd hb a6'
   ·exact .inl h
   ·exact .inr h
  have hDnew:∀x,x∈Ds->x<w5.heap.size:=λx hx=>(hI5.ds x hx).2.2.1.2.1
  have nDs:∀x∈Ds,¬(FC ob nb (w5.heap.size+1) w5.heap.size v x\/x=mb):=λx hx h=>by
   have h1:=hDnew x hx
   have h2:=hI5.ds x hx
   have h3:=hI5.mlo
   rcases h with(h|h|h|h|h)|h
   ·exact h2.2.1 h
   ·exact(nM x h).2.2.2 hx
   ·omega
   ·omega
   ·exact(hI5.vo _ h).2.2 hx
   ·omega
  have nmb:¬mb=w5.heap.size+1:=by have:=hI5.k.off.2.1;omega
  have hI7:CI lo mb ob (q.2.1.1,q.2.2) v6 (w5.heap.size::Ds) Γ6 w7:={
   k:=hk6.mv m7 nmb
   hd:=a1'.mv m7 d2
   ho:=hJ6.oo.mv m7 d2
   row:=a2'.mv m7 λb hb e=>a5' (by have e:b=w5.heap.size+1:=e;rw[<-e];exact hb)
   vo:=λb hb=>⟨(own6 b hb).elim (λh=>(hI5.vo b h).1) λh=>by omega,λe=>a3' (e▸hb),λhx=>by
    rcases vau.1 hx with hx|hx
    ·exact a6' (hx▸hb)
    ·rcases own6 b hb with h|h
     ·exact(hI5.vo b h).2.2 hx
     ·have:=hDnew b hx;omega⟩
   lb:=hI5.lb
   mlo:=hI5.mlo
   ds:=λx hx=>by
    rcases vau.1 hx with rfl|hx
    ·exact⟨hlo5,λe=>d3 e.symm,hJ6.oD.mv m7 λe=>d6 e.symm,(m7.keep hJ6.oD.2.1 λe=>d6 e.symm).trans hJ6.rD⟩
    ·obtain⟨b1,b2,b3,b4⟩:=hI5.ds x hx
     have b3A:=b3.mv mA id
     have hxl:¬x=w5.heap.size+1:=by have:=hDnew x hx;omega
     refine⟨b1,b2,(b3A.mv m6 (nDs x hx)).mv m7 hxl,?_⟩
     exact(m7.keep (b3A.mv m6 (nDs x hx)).2.1 hxl).trans ((m6.keep b3A.2.1 (nDs x hx)).trans ((mA.keep b3.2.1 id).trans b4))
   nd:=vby.2 ⟨λhx=>by have:=hDnew _ hx;omega,hI5.nd⟩}
  have mAll:Mv GE (λb=>b=mb\/lo<=b) Γ w Γ6 w7:=by
   refine Mv.trans (M1:=λb=>b=mb\/lo<=b) (((m05.trans mA λb h=>.inl h).mono (M:=λb=>b=mb\/lo<=b) λb h=>h.elim).trans m6 λb hb=>.inl ?_) (m7.mono (M:=λb=>b=mb\/lo<=b) λb hb=>.inl (.inr (by have hb:b=w5.heap.size+1:=hb;show lo<=b;rw[hb];exact Nat.le_succ_of_le hlo5))) λb hb=>.inl hb
   have:=hI5.lb
   have:=m02.size
   rcases hb with(h|h|h|h|h)|h
   ·exact .inr (by omega)
   ·exact .inr (by omega)
   ·exact .inr (by omega)
   ·exact .inr (by omega)
   ·exact .inr (hI5.vo _ h).1
   ·exact .inl h
  have g7:Fr Γ6 w7 a5 (B7 m mb d size j ob []):=(hJ6.fr.mv m7.le).forget (by kernel_rfl)
  have fin:L2 m mb d size j ob lo (q.2.1.1,q.2.2) Γ w .normal ⟨a5,GH (w5.heap.size::Ds)⟩ w7:=⟨Γ6,v6,w5.heap.size::Ds,mAll,hI7,rfl,g7⟩
  cases hq1:q.1 with
  |true=>exact⟨.inl rfl,fin⟩
  |false=>exact wpIn_exit ⟨.inl rfl,fin⟩
 refine wpIn_block (wpIn_mono key ?_)
 rintro e a' w' ⟨rfl|rfl,h⟩
 ·exact⟨rfl,h⟩
 ·exact⟨rfl,h⟩
end
theorem R1{tm:List PVal}{i:Nat}{p:PVal}(h:dO 0 tm)(hp:p.cl 0):dO 0 (tm.set i p):=Ie λq hq=>by
 rcases vcf hq with hq|rfl
 ·obtain⟨i,hi⟩:=vbC hq
  exact gz h hi
 ·exact hp
theorem zH{fn:Func}{n:Nat}{tmps:Array Value}{R:Ending->World->Prop}:∀(Ds:List Nat) {Γ:ay} {w:World},dJ GE Γ w->(∀D∈Ds,nB GE Γ w D/\w.heap[D]? =some (.deferred (some [])))->Ds.Nodup->
  (∀w',Mv GE (λb=>b∈Ds) Γ w Γ w'->LeavesIn Fence.wide n Pg fn tmps R [] .returning w')->LeavesInM Fence.wide n Pg fn tmps R (GH Ds) .returning w
 |[],Γ,w,hB,_,_,h=>h w (.refl hB)
 |D::Ds,Γ,w,hB,hd,hn,h=>by
  obtain⟨h1,h2⟩:=hd D (by simp)
  obtain⟨n1,n2⟩:=vby.1 hn
  have m1:=Mv.putObj hB h1 (.deferred none)
  refine⟨by simp,.inl ⟨D,_,rfl,run_takeDeferred h2,zH Ds m1.base (λx hx=>?_) n2 λw' hw=>h w' ((m1.mono (M:=λb=>b∈D::Ds) λb hb=>.inl (by have hb:b=D:=hb;simp[hb])).trans hw λb hb=>.inl (vaR _ hb))⟩⟩
  obtain⟨q1,q2⟩:=hd x (vaR _ hx)
  have hne:¬x=D:=λe=>n1 (e▸hx)
  exact⟨q1.mv m1 hne,(m1.keep q1.2.1 hne).trans q2⟩
section
variable{mb:Nat}{K:fe}{r:List aa×fe}{v:Value}{Γ Γ':ay}{w w':World}{m:al}{d:aN}{size:Int}{nn:Nat}{a:Array Value}{R:ae->Int->fe->Option (List aa×fe)}
theorem R3(hR:Od m R)(hlong:∀t n K r,R t n K=some r->r.1.length<4611686018427387904)(h:Qu R m d size K=some r)(hB:dJ GE Γ w)(hk:KM mb K Γ w){u0 u1:Value}(h0:VR Γ [] w (.agg (pY m mb)) u0)(h1:VR Γ [] w (.agg (ax d)) u1):CallsIn Fence.wide nn Pg Wv #[u0,u1,.int .i64 size] w λe w'=>∃v Γ',e=.returned v/\Mv GE (λb=>b=mb) Γ w Γ' w'/\KM mb r.2 Γ' w'/\fj Pg GE eV Γ' w' (pG ac r.1) r.1.length v/\∀b,v.ownBlock=some b->w.heap.size<=b:=by
 unfold Qu at h
 split at h
 rotate_left
 ·cases h
 rename_i hlen
 refine callsIn_of_wp_marks func98 (c:=Rh) rfl vzz ?_
 have g0:Fr Γ w (#[u0,u1,.int .i64 size]++Array.replicate 62 undef) (bO 65 [(0,.agg (pY m mb)),(1,.agg (ax d)),(2,.int .i64 size)] [] []).tmps:=by
  refine⟨by kernel_rfl,λk p u hp hu=>?_⟩
  have htm:(bO 65 [(0,.agg (pY m mb)),(1,.agg (ax d)),(2,.int .i64 size)] [] []).tmps=[.agg (pY m mb),.agg (ax d),.int .i64 size]++List.replicate 62 .undef:=by kernel_rfl
  rw[htm]at hp
  by_cases hk:k<3
  ·rw[vac (by simpa using hk)]at hp
   rw[vaS (by simpa using hk)]at hu
   match k,hk with
   |0,_=>simp at hp hu;subst hp;subst hu;exact h0
   |1,_=>simp at hp hu;subst hp;subst hu;exact h1
   |2,_=>simp at hp hu;subst hp;subst hu;exact .int _ _
  ·rw[vad (by simpa using hk),vaX]at hp
   split at hp<;>cases hp
   exact .undef u
 show Rh.wpIn Fence.wide nn Pg _ ⟨#[u0,u1,.int .i64 size]++Array.replicate 62 undef,[]⟩ w
 rw[RP]
 refine wpIn_seq (wpIn_mono (g0.piece0 (k:=0) (XC m mb d size) hB (pD ⟨vzz,qf m mb,(show dO 0 (ax d)from gG d),vzz⟩) []) ?_)
 rintro e ⟨a1,ds1⟩ w1 ⟨rfl,rfl,Γ1,m1,g1⟩
 have z31:(zeroValue tV).run Pg w1=.ok (.slice none 0 0) w1:=Tryz.zeroValue31 w1
 refine wpIn_seq (wpIn_region ?_)
 rw[show List.range (bY SP).size=[0] by kernel_rfl]
 refine bR (o:=bF SP 0) (by kernel_rfl) (by kernel_rfl) (cC (by kernel_rfl) (by simp only[execOp,show(bF SP 0).op=.alloc tV by kernel_rfl,Sem.run_bind,wr z31];rfl) ?_)
 rw[show(bF SP 0).dst=some 7 by kernel_rfl]
 have m2:Mv GE no Γ1 w1 Γ1 (w1.alloc (.cells #[.slice none 0 0] tV)):=.alloc m1.base _
 have hd2:wx (w1.alloc (.cells #[.slice none 0 0] tV)) w1.heap.size (.slice none 0 0):=.new _ _ w1
 have of2:nB GE Γ1 (w1.alloc (.cells #[.slice none 0 0] tV)) w1.heap.size:=.new m1.base _
 have g2:=((g1.mv m2.le).set (d:=7) (p:=.val (.pointer (some ⟨w1.heap.size,0,none⟩))) (.val _)).forget (tm':=(bO 65 [(2,.int .i64 size),(3,.eptr (pY m mb)),(4,.eptr (ax d)),(7,.val (.pointer (some ⟨w1.heap.size,0,none⟩)))] [] []).tmps) (by kernel_rfl)
 show(Code.seq (.seq Vc (.block 0 (.loop SN))) (.seq (.region (xn Eg) (bY Eg) false) .ret)).wpIn Fence.wide nn Pg _ ⟨a1.setIfInBounds 7 (.pointer (some ⟨w1.heap.size,0,none⟩)),[]⟩ (w1.alloc (.cells #[.slice none 0 0] tV))
 generalize a1.setIfInBounds 7 (.pointer (some ⟨w1.heap.size,0,none⟩))=a2 at g2
 generalize w1.alloc (.cells #[.slice none 0 0] tV)=w2 at m2 hd2 of2 g2
 have hob1:w.heap.size<=w1.heap.size:=m1.size
 generalize w1.heap.size=ob at hd2 of2 g2 hob1
 refine wpIn_seq (wpIn_seq (wpIn_mono (g2.piece0 (k:=0) (XD m mb d size ob) m2.base (Ig m mb d size 0 ob) []) ?_))
 rintro e ⟨a3,ds3⟩ w3 ⟨rfl,rfl,Γ3,m3,g3⟩
 have m03:Mv GE no Γ w Γ3 w3:=(m1.trans m2 λb h=>.inl h).trans m3 λb h=>.inl h
 have hmb:mb<w.heap.size:=hk.off.2.1
 have hI3:CI w.heap.size mb ob ([],K) (.slice none 0 0) [] Γ3 w3:={
  k:=hk.mv m03 id
  hd:=hd2.mv m3 id
  ho:=of2.mv m3 id
  row:=fj.nil
  vo:=λb hb=>by simp[Value.ownBlock]at hb
  lb:=hob1
  mlo:=hmb
  ds:=λD hD=>by cases hD
  nd:=List.nodup_nil}
 refine wpIn_block (wpIn_loop_ghost (λk a' w'=>∃(j:Nat) (o:List aa×fe) (v':Value) (Ds:List Nat) (Γ':ay),k=d.Cons.length - j/\j<=d.Cons.length/\JB R m d size j (d.Cons.drop j) o=some r/\
  Mv GE (λb=>b=mb\/w.heap.size<=b) Γ w Γ' w'/\CI w.heap.size mb ob o v' Ds Γ' w'/\a'.defers=GH Ds/\Fr Γ' w' a'.tmps (B7 m mb d size j ob [])) d.Cons.length ⟨0,([],K),_,[],Γ3,rfl,vaP _,h,m03.mono λb h=>h.elim,hI3,rfl,g3⟩ ?_)
 rintro k ⟨a4,ds4⟩ w4 ⟨j,o,v4,Ds,Γ4,rfl,hj,hf4,m4,hI4,hd4,g4⟩
 simp only at hd4;subst hd4
 rw[RY]
 refine wpIn_seq (wpIn_mono (g4.piece0 (k:=0) (XE m mb d size j ob) m4.base (R1 (Ig m mb d size j ob) trivial) (GH Ds)) ?_)
 rintro e ⟨a5,ds5⟩ w5 ⟨rfl,rfl,Γ5,m5,g5⟩
 have hI5:=hI4.mv0 m5
 have m05:Mv GE (λb=>b=mb\/w.heap.size<=b) Γ w Γ5 w5:=m4.trans m5 λb h=>h.elim
 have g5':=g5.forget (tm':=B7 m mb d size j ob []) (by kernel_rfl)
 refine wpIn_seq (wpIn_cond (g5.evb (t:=19) (x:=decide ((j:Int)<(d.Cons.length:Int))) (by kernel_rfl) (GH Ds)) ?_)
 by_cases hlt:j<d.Cons.length
 ·rw[vce (by omega)]
  refine wpIn_skip ?_
  have hdrop:d.Cons.drop j=d.Cons[j]::d.Cons.drop (j+1):=va6 hlt
  rw[hdrop,JB]at hf4
  obtain⟨o',ho',hf5⟩:=A6 hf4
  refine wpIn_seq (wpIn_mono (Qh hR hlong (bu _ _ hlt) ho' m5.base hI5 g5') ?_)
  rintro e ⟨a6,ds6⟩ w6 ⟨rfl,Γ6,v6,Ds6,m6,hI6,hd6,g6⟩
  simp only at hd6;subst hd6
  refine wpIn_mono (g6.piece0 (k:=0) (Vf m mb d size j ob) m6.base (Ig m mb d size _ ob) (GH Ds6)) ?_
  rintro e ⟨a7,ds7⟩ w7 ⟨rfl,rfl,Γ7,m7,g7⟩
  have ew:bw ((j:Int)+1)=((j+1:Nat):Int):=by rw[bX (by omega) (by omega)];omega
  rw[ew]at g7
  exact⟨d.Cons.length - (j+1),by omega,j+1,o',v6,Ds6,Γ7,rfl,hlt,hf5,(m05.trans m6 λb h=>.inl h).trans m7 λb h=>h.elim,hI6.mv0 m7,rfl,g7⟩
 ·rw[decide_eq_false (by omega)]
  refine wpIn_exit ?_
  rw[vbJ (by omega),JB]at hf4
  obtain rfl:=vat hf4
  show(Code.seq (.region (xn Eg) (bY Eg) false) .ret).wpIn Fence.wide nn Pg _ ⟨a5,GH Ds⟩ w5
  refine wpIn_seq (wpIn_region ?_)
  rw[show List.range (bY Eg).size=[0,1] by kernel_rfl]
  have e7:(Act.mk a5 (GH Ds)).eval (.tmp 7)=.pointer (some ⟨ob,0,none⟩):=aP (g5'.raw (by kernel_rfl))
  refine bR (o:=bF Eg 0) (by kernel_rfl) (by kernel_rfl) (cC (by kernel_rfl) (v:=v4) (w':=w5) (by simp[execOp,show(bF Eg 0).op=.load tV (.tmp 7) by kernel_rfl,e7,hI5.hd.load (P:=Pg) (T:=tV) (by kernel_rfl)]) ?_)
  rw[show(bF Eg 0).dst=some 64 by kernel_rfl]
  have g6:=g5'.set (d:=64) (p:=.val v4) (.val v4)
  refine bR (o:=bF Eg 1) (by kernel_rfl) (by kernel_rfl) (g6.opS m5.base (d:=6) (p:=.val v4) (by kernel_rfl) (by kernel_rfl) (by kernel_rfl) (by kernel_rfl) λa7 Γ7 w7 m7 g7=>?_)
  refine wpIn_ret ?_
  have hI7:=hI5.mv0 m7
  refine zH Ds m7.base (λD hD=>⟨(hI7.ds D hD).2.2.1,(hI7.ds D hD).2.2.2⟩) hI7.nd λw8 m8=>?_
  have g8:=g7.mv m8.le
  obtain⟨u,e1,e2,_⟩:=qL (g8.sr (P:=Pg) m8.base 0) (fn:=f98) (r:=.val v4) (by kernel_rfl)
  cases e2
  have nmb:¬mb∈Ds:=λhx=>by have:=(hI7.ds _ hx).1;omega
  refine⟨v4,e1,v4,Γ7,rfl,?_,hI7.k.mv m8 nmb,hI7.row.mv m8 λb hb hx=>(hI7.vo b hb).2.2 hx,λb hb=>(hI7.vo b hb).1⟩
  exact((m05.trans m7 λb h=>h.elim).trans m8 λb hb=>.inl (.inr (hI7.ds b hb).1)).mono λb hb=>hb
end
open Go
section
variable{α:Type}
def Mn(ord:α->α->Option Int)(x y:α):Bool:=match ord x y with
 |some r=>decide (r<0)
 |none=>false
def Ll(lt:α->α->Bool)(x:α):List α->List α
 |[]=>[x]
 |y::r=>if lt y x=true then y::Ll lt x r else x::y::r
def yq(lt:α->α->Bool):List α->List α
 |[]=>[]
 |x::r=>Ll lt x (yq lt r)
structure P7(lt:α->α->Bool)(S:α->Prop):Prop where
 irr:∀x,S x->lt x x=false
 trans:∀x y z,S x->S y->S z->lt x y=true->lt y z=true->lt x z=true
 ntrans:∀x y z,S x->S y->S z->lt x y=false->lt y z=false->lt x z=false
 tot:∀x y,S x->S y->lt x y=false->lt y x=false->x=y
theorem Bf(lt:α->α->Bool)(x:α):∀l,(Ll lt x l).Perm (x::l)
 |[]=>.refl _
 | y :: r => by
  unfold Ll
  split
  ·exact((Bf lt x r).cons y).trans (List.Perm.swap x y r)
  ·exact .refl _
theorem pK(lt:α->α->Bool):∀l,(yq lt l).Perm l
 |[]=>.refl _
 |x::r=>(Bf lt x (yq lt r)).trans ((pK lt r).cons x)
abbrev Gc(lt:α->α->Bool)(l:List α):Prop:=l.Pairwise λx y=>lt y x=false
theorem Ch{lt:α->α->Bool}{S:α->Prop}(h:P7 lt S)(x:α)(hx:S x):∀{l},(∀y∈l,S y)->Gc lt l->Gc lt (Ll lt x l)
 |[],_,_=>by simp[Ll,Gc]
 | y :: r,hS,hs => by
  unfold Gc at hs ⊢
  have h':=vbK.1 hs
  have hy:=hS y (by simp)
  have hr:∀z∈r,S z:=λz hz=>hS z (by simp[hz])
  unfold Ll
  split
  ·rename_i hyx
   rw[vbK]
   refine⟨λz hz=>?_,Ch h x hx hr h'.2⟩
   rcases vau.1 ((Bf lt x r).mem_iff.1 hz)with rfl|hz
   ·cases hc:lt z y with
    |false=>rfl
    |true=>
     have:=h.trans _ _ _ hy hx hy hyx hc
     rw[h.irr _ hy]at this;cases this
   ·exact h'.1 z hz
  ·rename_i hyx
   have hyx:lt y x=false:=by simpa using hyx
   rw[vbK]
   refine⟨λz hz=>?_,hs⟩
   rcases vau.1 hz with rfl|hz
   ·exact hyx
   ·exact h.ntrans _ _ _ (hr z hz) hy hx (h'.1 z hz) hyx
theorem xo{lt:α->α->Bool}{S:α->Prop}(h:P7 lt S):∀{l},(∀y∈l,S y)->Gc lt (yq lt l)
 |[],_=>by simp[yq,Gc]
 |x::r,hS=>by
  unfold yq
  exact Ch h x (hS x (by simp)) (λy hy=>hS y (by have:=(pK lt r).mem_iff.1 hy;simp[this])) (xo h λy hy=>hS y (by simp[hy]))
theorem Cv{lt:α->α->Bool}{S:α->Prop}(h:P7 lt S):∀{l r:List α},(∀y∈l,S y)->l.Perm r->Gc lt l->Gc lt r->l=r
 |[],r,_,hp,_,_=>(List.Perm.nil_eq hp)
 | x :: l,r,hS,hp,hl,hr => by
  cases r with
  |nil=>exact absurd hp.length_eq (by simp)
  | cons y r =>
   have hl':=vbK.1 hl
   have hr':=vbK.1 hr
   have hxS:=hS x (by simp)
   have hyS:=hS y (hp.mem_iff.2 (by simp))
   have hxy:x=y:=by
    have h1:x∈y::r:=hp.mem_iff.1 (by simp)
    have h2:y∈x::l:=hp.mem_iff.2 (by simp)
    rcases vau.1 h1 with h1|h1
    ·exact h1
    ·rcases vau.1 h2 with h2|h2
     ·exact h2.symm
     ·exact h.tot _ _ hxS hyS (hr'.1 x h1) (hl'.1 y h2)
   subst hxy
   rw[Cv h (λz hz=>hS z (by simp[hz])) hp.cons_inv hl'.2 hr'.2]
end
class SoundEq (α:Type) where
 eqb:α->α->Bool
 sound:∀x y,eqb x y=true->x=y
section
variable{α:Type}[SoundEq α]
def Uu(ord:α->α->Option Int)(l:List α):Bool:=
 decide (l.length<=cz)&&(l.all (λx=>l.all λy=>(ord x y).isSome)&&(l.all (λx=>!Mn ord x x)&&
 (l.all (λx=>l.all λy=>l.all λz=>(!(Mn ord x y&&Mn ord y z)||Mn ord x z)&&((Mn ord x y||Mn ord y z)||!Mn ord x z))&&
 l.all λx=>l.all λy=>Mn ord x y||(Mn ord y x||SoundEq.eqb x y))))
def Ft(ord:α->α->Option Int)(l:List α):Option (List α):=if Uu ord l=true then some (yq (Mn ord) l)else none
theorem ET{ord:α->α->Option Int}{l:List α}(h:Uu ord l=true):l.length<=cz/\(∀x∈l,∀y∈l,∃r,ord x y=some r)/\P7 (Mn ord) (·∈l):=by
  unfold Uu at h
  simp only[vae,vam,vao,vaZ,va0]at h
  obtain⟨h1,h2,h3,h4,h5⟩:=h
  refine⟨h1,λx hx y hy=>vaA.1 (h2 x hx y hy),λx hx=>h3 x hx,λx y z hx hy hz a b=>?_,λx y z hx hy hz a b=>?_,λx y hx hy a b=>?_⟩
  · rcases (h4 x hx y hy z hz).1 with h | h
    ·rw[a,b]at h;cases h
    ·exact h
  · rcases (h4 x hx y hy z hz).2 with (h | h) | h
    ·rw[a]at h;cases h
    ·rw[b]at h;cases h
    ·exact h
  · rcases h5 x hx y hy with h | h | h
    ·rw[a]at h;cases h
    ·rw[b]at h;cases h
    ·exact SoundEq.sound _ _ h
theorem Jf{ord:α->α->Option Int}{l r l':List α}(h:Ft ord l=some r)(hp:l'.Perm l)(hs:Gc (Mn ord) l'):l'=r:=by
 unfold Ft at h
 split at h
 ·rename_i hk
  cases h
  obtain⟨_,_,ho⟩:=ET hk
  exact Cv ho (λy hy=>hp.mem_iff.1 hy) (hp.trans (pK _ l).symm) hs (xo ho λy hy=>hy)
 ·cases h
theorem Kq{ord:α->α->Option Int}{l r:List α}(h:Ft ord l=some r):Uu ord l=true/\r.length=l.length:=by
 unfold Ft at h
 split at h
 ·rename_i hk
  cases h
  exact⟨hk,(pK _ l).length_eq⟩
 ·cases h
end
open Go Go.Shelf Go.RowKit Go.Lib Go.Sort
def Oa(P:Program)(fs:FuncId)(k:Nat):Prop:=
 (∀vs w,(callFunc fs vs).run P w=.ok (.enter fs vs) w)/\
 (∀(enc:Nat->List Value) (cf:Nat->Nat->Int) (g blk cap:Nat) (d:Array Nat) (w:World),(∀x,(enc x).length=k)->(∀x,∀v∈enc x,v.oneCell'=true)->SWO (ltOf cf)->(∀vs w,(callFunc g vs).run P w=.ok (.enter g vs) w)->
  CmpLays P g #[] enc k cf blk 0 d.size w->HoldsK enc k w blk 0 d->blk<w.heap.size->d.size<4611686018427387904->
  Calls P fs #[.slice (some ⟨blk,0,none⟩) d.size cap,.func (.func g) #[] #[]] w λe w'=>e=.returned (.tuple #[])/\∃d' n os,PermIn 0 d.size d d'/\SortedIn (ltOf cf) 0 d.size d'/\w'=sortWorldK enc k w blk 0 n d' os)/\
 ∀(p:Option Addr) (cap:Nat) (fv:Value) (w:World),Calls P fs #[.slice p 0 cap,fv] w λe w'=>e=.returned (.tuple #[])/\w'=w
theorem LR{enc:Nat->List Value}{k b m:Nat}{dk:Array Nat}{os:Array Obj}{w:World}{x:Nat}(hx:x<w.heap.size)(hb:x≠b):(sortWorldK enc k w b 0 m dk os).heap[x]? =w.heap[x]?:=by
 show((putRowK enc k (Sort.ahead w m) b 0 dk).heap++os)[x]? =_
 have hsz:(putRowK enc k (Sort.ahead w m) b 0 dk).heap.size=w.heap.size:=by simp[putRowK,putRow,mapBlock,Sort.ahead]
 rw[vaS (by rw[hsz];exact hx)]
 show(w.heap.modify b (onCells _))[x]? =_
 rw[vbM,vay (λe=>hb e.symm)]
theorem LS{enc:Nat->List Value}{k b m:Nat}{dk:Array Nat}{os:Array Obj}{w:World}:w.heap.size<=(sortWorldK enc k w b 0 m dk os).heap.size:=by
 show _<=((putRowK enc k (Sort.ahead w m) b 0 dk).heap++os).size
 have hsz:(putRowK enc k (Sort.ahead w m) b 0 dk).heap.size=w.heap.size:=by simp[putRowK,putRow,mapBlock,Sort.ahead]
 rw[Array.size_append,hsz];omega
theorem NR{enc:Nat->List Value}{k b m:Nat}{dk:Array Nat}{os:Array Obj}{w:World}{cur:Array Value}{e:TypeId}(hh:w.heap[b]? =some (.cells cur e (0,0))):(sortWorldK enc k w b 0 m dk os).heap[b]? =some (.cells (putCells id 0 (flatK enc k dk) cur) e (0,0)):=by
 have hb:b<w.heap.size:=(vaf.1 hh).1
 show((putRowK enc k (Sort.ahead w m) b 0 dk).heap++os)[b]? =_
 have hsz:(putRowK enc k (Sort.ahead w m) b 0 dk).heap.size=w.heap.size:=by simp[putRowK,putRow,mapBlock,Sort.ahead]
 rw[vaS (by rw[hsz];exact hb)]
 show(w.heap.modify b (onCells _))[b]? =_
 rw[vbM,vaD rfl,hh]
 rfl
section
variable{P:Program}{ρ:Ren}
theorem PK(L:SlLaysF0.n6 P ρ){fs e:Nat}(hf:ρ.f 6=fs)(he:ρ.t 24=e)(ha:(P.underlying e).any Qb=true)(hi:(P.info? e).isSome=true)(hcall:∀vs w,(callFunc fs vs).run P w=.ok (.enter fs vs) w):Oa P fs (P.cellsOf e):=by
 subst hf;subst he
 obtain⟨i0,hi0⟩:=vaA.1 hi
 have hagg:∀w,(Go.isAgg (ρ.t 24)).run P w=.ok true w:=λw=>by
  cases hd:P.underlying (ρ.t 24)with
  |none=>rw[hd]at ha;cases ha
  |some d=>
   rw[hd]at ha
   cases d<;>simp[Qb]at ha<;>simp[Go.isAgg,run_underlying hd]
 refine⟨hcall,λenc cf g blk cap d w hk h1 hO eg hcmp hH hb hs=>?_,λp cap fv w=>AnyF.slices_SortFunc_none L p cap fv w⟩
 exact AnyQ.slices_SortFunc L (P.cellsOf (ρ.t 24)) hagg (λw=>run_sizeOf w hi0) enc hk h1 cf hO g #[] blk 0 cap d w eg hcmp hH hb hs
end
section
variable{P:Program}{GE:List (Nat×List PVal)}{Γ:ay}{w:World}
theorem Qi{f:FuncId}{args:List PVal}{r:PVal}(h:CC P GE f args r [])(hB:dJ GE Γ w)(hr:r.cl 0){vs:Array Value}(hs:vs.size=args.length)(hv:∀(t:Nat) p v,args[t]? =some p->vs[t]? =some v->VR Γ [] w p v):Calls P f vs w λe w'=>∃v Γ',e=.returned v/\Mv GE no Γ w Γ' w'/\VR Γ' [] w' r v:=by
 have hT:(ch [] λ_=>none)=λ_=>False:=funext λb=>propext ⟨λh=>by
  rcases h with⟨i,hi⟩|h
  ·simp at hi
  ·exact h rfl,λh=>h.elim⟩
 have hS:=hB.fresh (P:=P) (a:=vs) 0 hs hv
 refine(h.2.2 Γ [] (λ_=>none) w vs (by rw[hT];exact hS)).mono λe w' he=>?_
 obtain⟨v,Γ',ow',rfl,h'⟩:=he
 rw[hT]at h'
 exact⟨v,Γ',rfl,.of h',(h'.tm 0 _ v rfl rfl).clo hr⟩
end
section
variable{P:Program}{GE:List (Nat×List PVal)}{GD:List (Nat×List PVal)}{Γ:ay}{w:World}{e:TypeId}{α:Type}[SoundEq α]{c:α->List PVal}{ord:α->α->Option Int}
theorem PL{fs fo:FuncId}(hS:Oa P fs (P.cellsOf e))(hcc:∀x y r,ord x y=some r->CC P GD fo [.agg (c x),.agg (c y)] (.int .i64 r) [])(hof:∀vs w,(callFunc fo vs).run P w=.ok (.enter fo vs) w)
  (hD:Uq GD=true) (hG:∀x,x∈GD↔x∈GE) (hcl:∀x,(c x).length=P.cellsOf e) (hkp:0<P.cellsOf e) (ho:∀x,∀q∈c x,q.one=true) {l r:List α} (hs:Ft ord l=some r) (hB:dJ GE Γ w) {v:Value} (h:fj P GE e Γ w (pG c l) l.length v):
  Calls P fs #[v,.func (.func fo) #[] #[]] w λex w'=>ex=.returned (.tuple #[])/\Mv GE (λb=>v.ownBlock=some b) Γ w Γ w'/\fj P GE e Γ w' (pG c r) r.length v:=by
 obtain⟨hokS,hrl⟩:=Kq hs
 obtain⟨happ,hord,hO⟩:=ET hokS
 have hempty:l=[]->∀(p:Option Addr) cap,v=.slice p 0 cap->Calls P fs #[v,.func (.func fo) #[] #[]] w λex w'=>ex=.returned (.tuple #[])/\Mv GE (λb=>v.ownBlock=some b) Γ w Γ w'/\fj P GE e Γ w' (pG c r) r.length v:=λhl p cap hv=>by
  subst hl
  have hr:r=[]:=vai hrl
  subst hr
  subst hv
  refine(hS.2.2 p cap _ w).mono λq w' hq=>?_
  obtain⟨rfl,rfl⟩:=hq
  exact⟨rfl,.refl hB,h⟩
 rcases h.form with⟨rfl,h0⟩|⟨g,cap,rfl⟩
 ·exact hempty (vai h0) _ _ rfl
 by_cases hl0:l=[]
 ·exact hempty hl0 (some ⟨g,0,none⟩) cap (by rw[hl0];rfl)
 have hN:0<l.length:=vb8.2 hl0
 obtain⟨xs,hown,hxl,hx1,hxv⟩:=h.row
 have hoff:=h.off g rfl
 rcases hown.2 with⟨hx,_⟩|⟨g',cap',cur,hx,_,hheap,hnc,hcm,hcs,htake⟩
 ·cases hx
 cases hx
 have hxsl:=hown.1
 generalize hkk:P.cellsOf e=k at *
 let cl:Nat->Nat:=λx=>if x<l.length then x else 0
 have hcl1:∀x,cl x<l.length:=λx=>by show(if x<l.length then x else 0)<_;split<;>omega
 have hcl0:∀x,x<l.length->cl x=x:=λx hx=>by show(if x<l.length then x else 0)=_;rw[vaD hx]
 let el:Nat->α:=λx=>l[cl x]'(hcl1 x)
 have hel:∀x,el x∈l:=λx=>vaJ (hcl1 x)
 let enc:Nat->List Value:=λx=>(xs.drop (cl x * k)).take k
 have hrow:∀x,cl x * k+k<=xs.length:=λx=>by
  rw[hxsl]
  have:(cl x+1) * k<=l.length * k:=vaI k (hcl1 x)
  rw[vaO,vbB]at this
  exact this
 have hencl:∀x,(enc x).length=k:=λx=>by
  show((xs.drop (cl x * k)).take k).length=k
  rw[vaU,vbf];have:=hrow x;omega
 have hencj:∀(x j:Nat),j<k->(enc x)[j]? =xs[cl x * k+j]?:=λx j hj=>by
  show((xs.drop (cl x * k)).take k)[j]? =_
  rw[var hj,va7]
 have hencg:∀(x j:Nat),j<k->(enc x)[j]? =some ((enc x)[j]!):=λx j hj=>by
  rw[List.getElem!_eq_getElem?_getD,vaa (by rw[hencl];exact hj)];rfl
 have hone:∀x,∀u∈enc x,u.oneCell'=true:=λx u hu=>hx1 u (List.mem_of_mem_drop (vbR hu))
 have hget':∀j,(hj:j<l.length)->(l.map c)[j]? =some (c l[j]):=λj hj=>by rw[vav,vaa hj];rfl
 have hvre:∀(x j:Nat) q u,(c (el x))[j]? =some q->(enc x)[j]? =some u->VR Γ [] w q u:=λx j q u hq hu=>by
  have hj:j<k:=by have:=ah hq;rw[hcl]at this;exact this
  rw[hencj x j hj]at hu
  refine hxv (cl x * k+j) q u ?_ hu
  unfold pG
  exact rV (λy hy=>by obtain⟨z,_,rfl⟩:=vah.1 hy;exact hcl z) (hget' _ (hcl1 x)) hq
 let cf:Nat->Nat->Int:=λx y=>(ord (el x) (el y)).getD 0
 have hcf:∀x y,ord (el x) (el y)=some (cf x y):=λx y=>by
  obtain⟨z,hz⟩:=hord _ (hel x) _ (hel y)
  show _=some ((ord (el x) (el y)).getD 0)
  rw[hz];rfl
 have hlt:∀x y,ltOf cf x y=Mn ord (el x) (el y):=λx y=>by
  unfold ltOf Mn
  rw[hcf x y]
 have hswo:SWO (ltOf cf):=⟨λx=>by rw[hlt];exact hO.irr _ (hel x),λx y z p q=>by rw[hlt]at *;exact hO.trans _ _ _ (hel x) (hel y) (hel z) p q,λx y z p q=>by rw[hlt]at *;exact hO.ntrans _ _ _ (hel x) (hel y) (hel z) p q⟩
 have hd0:(Array.range l.length).size=l.length:=by simp
 have hcellr:∀{W:World} {cu:Array Value},W.heap[g]? =some (.cells cu e (0,0))->∀o,W.cell? ⟨g,o,none⟩=cu[o]?:=λhW o=>cell_of_row _ g o _ e _ hW
 have hdm:∀o,o<l.length * k->o / k<l.length/\o % k<k/\o=o / k * k+o % k:=λo ho=>⟨vcD (by rw[vcb];exact ho),vcV _ hkp,(vcT o k).symm⟩
 have hcurx:∀o,o<l.length * k->cur[o]? =xs[o]?:=λo ho=>by
  rw[<-htake,var ho];simp
 have hHold:HoldsK enc k w g 0 (Array.range l.length):=by
  intro j hj
  rw[size_flatK,hd0]at hj
  obtain⟨a1,a2,a3⟩:=hdm j hj
  refine⟨?_,frozen_of_row w g _ cur e hheap⟩
  rw[get_flatK _ _ _ _ (by rw[hd0];exact hj)]
  have e1:(Array.range l.length)[j / k]! =j / k:=by rw[getElem!_pos _ _ (by rw[hd0];exact a1)];simp
  rw[e1]
  show w.cell? ⟨g,0+j,none⟩=some ((enc (j / k))[j % k]!)
  rw[<-hencg _ _ a2,hencj _ _ a2,hcl0 _ a1,<-a3,vaG,hcellr hheap,hcurx j hj]
 have hmv:∀(m:Nat) (os:Array Obj) (dk:Array Nat),Mv GE (λb=>b=g) Γ w Γ (sortWorldK enc k w g 0 m dk os):=λm os dk=>
  Mv.raw hB rfl rfl rfl LS (jy (vbG _ _)) (λb hb hn=>LR hb hn) λb hb=>.inl (hb▸hoff)
 have hcmp:CmpLays P fo #[] enc k cf g 0 (Array.range l.length).size w:=by
  intro m os dk hdk x y
  have hm:=hmv m os dk
  generalize sortWorldK enc k w g 0 m dk os=W at hm
  have hagg:∀i,VR Γ [] W (.agg (c (el i))) (.agg (enc i).toArray):=λi=>.agg _ _ (by simp[hencl,hcl]) λj p v hp hv=>(hvre i j p v hp (by simpa using hv)).mono hm.le (.refl _)
  have hBD:dJ GD Γ W:=⟨hm.base.wi,λg cs hg=>hm.base.gl g cs ((hG _).1 hg),λg cs hg=>hm.base.gc g cs ((hG _).1 hg),λg cs hg=>hm.base.gx g cs ((hG _).1 hg)⟩
  refine(Qi (hcc _ _ _ (hcf x y)) hBD vzz (vs:=#[.agg (enc x).toArray,.agg (enc y).toArray]) rfl λt p v hp hv=>?_).mono λex w' he=>?_
  ·match t with
   |0=>simp at hp hv;subst hp;subst hv;exact hagg x
   |1=>simp at hp hv;subst hp;subst hv;exact hagg y
   |t+2=>simp at hp
  obtain⟨v,Γ',rfl,hM,hv⟩:=he
  cases hv
  refine⟨rfl,w'.drawn - W.drawn,w'.heap.extract W.heap.size w'.heap.size,?_⟩
  have h1:=hM.step.os
  have h2:=hM.step.tape
  have h3:=hM.step.output
  have h4:=hM.step.size
  have h5:=hM.step.drawn
  simp only[dr,hD,if_true]at h1 h2 h3 h4 h5
  have hheap:w'.heap=W.heap++w'.heap.extract W.heap.size w'.heap.size:=by
   apply vcL
   intro i
   by_cases hi:i<W.heap.size
   ·rw[vaS hi,hM.keep hi id]
   ·rw[vbN (by omega)]
    by_cases hi2:i<w'.heap.size
    ·rw[vcs]
     rw[vaD (by omega)]
     congr 1;omega
    ·rw[vbq (by omega),vbq (by simp;omega)]
  show w'={heap:=W.heap++_,tape:=W.tape,drawn:=W.drawn+(w'.drawn - W.drawn),os:=W.os,output:=W.output}
  rw[<-hheap,show W.drawn+(w'.drawn - W.drawn)=w'.drawn by omega,<-h1,<-h2,<-h3]
 have happ2:l.length<4611686018427387904:=by unfold cz at happ;omega
 have hcall:=hS.2.1 enc cf fo g cap (Array.range l.length) w hencl hone hswo hof hcmp hHold hoff.2.1 (by rw[hd0];exact happ2)
 rw[hd0]at hcall
 refine hcall.mono λq w' hr=>?_
 obtain⟨rfl,d',n',os,hperm,hsorted,rfl⟩:=hr
 have hd'0:d'.size=l.length:=hperm.1.trans hd0
 have hm:=hmv n' os d'
 have hrowW:=NR (enc:=enc) (k:=k) (m:=n') (dk:=d') (os:=os) hheap
 have hholdW:HoldsK enc k (sortWorldK enc k w g 0 n' d' os) g 0 d':=holdsK_sortWorldK_c enc k w g 0 _ d' n' os hHold hoff.2.1 hperm.1
 generalize sortWorldK enc k w g 0 n' d' os=W at hm hrowW hholdW
 have hcsW:(putCells id 0 (flatK enc k d') cur).size=cap * k:=by rw[<-hcs];simp[putCells]
 generalize putCells id 0 (flatK enc k d') cur=cu at hrowW hcsW
 have hrd:d'.toList.map el=r:=by
  refine Jf hs ?_ ?_
  ·have hp:=hperm.2.2
   have e1:d'.extract 0 l.length=d':=by rw[<-hd'0];exact vcM
   have e2:(Array.range l.length).extract 0 l.length=Array.range l.length:=by
    have:(Array.range l.length).extract 0 (Array.range l.length).size=Array.range l.length:=vcM
    rwa[hd0]at this
   rw[e1,e2]at hp
   have h3:(Array.range l.length).toList.map el=l:=by
    rw[Array.toList_range]
    refine vbi λj=>?_
    by_cases hj:j<l.length
    ·rw[vav,vbl hj,vaa hj]
     show some (l[cl j]'(hcl1 j))=some l[j]
     congr 1
     simp only[hcl0 j hj]
    ·rw[vaT (by simp;omega),vaT (by omega)]
   rw[<-h3]
   exact hp.map el
  ·unfold Gc
   rw[List.pairwise_map,List.pairwise_iff_getElem]
   intro x y hx hy hxy
   have hx':x<d'.size:=by simpa using hx
   have hy':y<d'.size:=by simpa using hy
   have:=hsorted x y (vaP _) hxy (by rw[<-hd'0];exact hy')
   rw[getElem!_pos d' x hx',getElem!_pos d' y hy',hlt]at this
   simpa using this
 have hri:∀x,(hx:x<l.length)->(r.map c)[x]? =some (c (el d'[x]!)):=λx hx=>by
  rw[<-hrd,List.map_map,vav]
  have hxd:x<d'.size:=by rw[hd'0];exact hx
  rw[va5,vaC hxd,getElem!_pos d' x hxd]
  rfl
 have hnk:l.length * k<=cap * k:=vaI k hnc
 have hcuL:cu.toList.length=cap * k:=by rw[<-hcsW];exact Array.length_toList
 have hcux:∀o,o<l.length * k->cu[o]? =(enc d'[o / k]!)[o % k]?:=λo ho=>by
  obtain⟨a1,a2,a3⟩:=hdm o ho
  have:=(hholdW.cell (i:=o / k) (c:=o % k) (by rw[hd'0];exact a1) a2).1
  rw[hcellr hrowW,vaG,<-a3]at this
  rw[this,<-hencg _ _ a2]
 refine⟨rfl,hm.mono λb hb=>.inl (by rw[hb];rfl),⟨cu.toList.take (r.length * k),⟨?_,.inr ⟨g,cap,cu,by rw[hrl],vaP _,hrowW,by rw[hrl];exact hnc,hcm,hcsW.trans (by rw[hkk]),by rw[hkk]⟩⟩,?_,λu hu=>?_,λo p u hp hu=>?_⟩,λb hb=>?_⟩
 ·rw[vaU,hcuL,hkk,hrl];omega
 ·rw[vaU,hcuL]
  have:(pG c r).length=r.length * k:=by
   unfold pG
   rw[flat_len (sz:=k) λx hx=>by obtain⟨z,_,rfl⟩:=vah.1 hx;exact hcl z,vbD]
  rw[this,hrl];omega
 ·obtain⟨o,ho⟩:=vbC hu
  have hol:o<l.length * k:=by have:=ah ho;rw[vaU,hrl]at this;omega
  rw[var (by rw[hrl];exact hol),va5,hcux o hol]at ho
  exact hone _ u (vaq ho)
 ·have hol:o<l.length * k:=by have:=ah hu;rw[vaU,hrl]at this;omega
  obtain⟨a1,a2,a3⟩:=hdm o hol
  rw[var (by rw[hrl];exact hol),va5,hcux o hol]at hu
  have hjl:o % k<(c (el d'[o / k]!)).length:=by rw[hcl];exact a2
  have hq:=rV (sz:=k) (es:=r.map c) (λx hx=>by obtain⟨z,_,rfl⟩:=vah.1 hx;exact hcl z) (hri _ a1) (vaa hjl)
  rw[<-a3]at hq
  have hp:(r.map c).flatten[o]? =some p:=hp
  rw[hp]at hq
  exact(hvre _ _ p u (by rw[vaa hjl];exact hq.symm) hu).mono hm.le (.refl _)
 ·simp[Value.ownBlock]at hb;subst hb
  exact⟨hoff.1,vaE hoff.2.1 hm.size,hoff.2.2⟩
end
set_option linter.defProp false
abbrev P4:List (Nat×List PVal):=match GE with
 |a::r=>a::a::r
 |[]=>[]
abbrev LY(f:FuncId)(args:List PVal){R:Type}(o:Option R)(res:R->PVal)(ro:List (Nat×TypeId)):Prop:=SI Pg P4 f args o res ro
abbrev V0(m:Nat)(c:Code){X:Type}(o:Option X)(ex:X->Exit)(so:X->az)(st:az):Prop:=UB Pg P4 m c o ex so st
abbrev UC(m:Nat)(c:Code){σ X:Type}(o:Option (σ⊕X))(S:σ->az)(ex:X->Exit)(so:X->az)(st:az):Prop:=SH Pg P4 m c o S ex so st
abbrev iK(R:eB):Prop:=∀(a:aa) (a2:aa),LY 20 [.agg (ac a),.agg (ac a2)] (R a a2) (λr=>.int .i64 r) []
abbrev p9(R:gw):Prop:=∀(v:aa),LY 22 [.agg (ac v)] (R v) (λr=>.int .i64 r) []
section
variable(R23:gw)(t7:(List aa))(t8:Int)(n:Int)(t9:Int)
theorem yQ(hR23:p9 R23):UC 0 (cA US 119) (mD R23 t7 t8 n t9) (λ(zz:Int×Int)=>gP t7 t8 zz.1 zz.2) (λ_=>.exit 0) mE (gP t7 t8 n t9):=Uh.lx<|
 tF (tb λx2 bx2=>tb λr3 br3=>tv (bE.ia (k:=.i64) bx2)<|tv (aB x2)<|tx zX<|tx (eC x2)<|tv (aM x2 [])<|bP (hR23 _ _ br3)<|tE)<|tE
def Av(hR23:p9 R23):=vd (s:=(n,t9)) λzz=>yQ R23 t7 t8 zz.1 zz.2 hR23
end
theorem Dp(R23:gw)(hR23:p9 R23){v:aa}:LY 22 [.agg (ac v)] (sC R23 v) (λr=>.int .i64 r) []:=Uh.v<|
 tb λo4 bo4=>te (cD v)<|tw (aU v)<|ck (bE.ln v.Kids)<|dn (Av R23 v.Kids (v.Kids.length:Int) 1 0 hR23 _ bo4)<|tE
theorem vQ{v:aa}:LY 22 [.agg (ac v)] (oV v) (λr=>.int .i64 r) []:=mP λ_ h=>
 ct (F:=sD) (M:=λ(x:aa) (r:Int)=>CC Pg P4 22 [.agg (ac x)] (.int .i64 r) []) (λrec hrec x r h=>Dp _ (λv=>mP λr h=>hrec v r h) _ h) h
theorem xi{a:Int}:LY 80 [.int .i64 a] (Ba a) (λr=>.bool r) []:=Xb.v<|
 tE
theorem sN{a:Int}{a2:Int}:LY 57 [.int .i64 a,.int .i64 a2] (uL a a2) (λr=>.int .i64 r) []:=W4.v<|
 tb λr1 br1=>tb λr2 br2=>bP (xi _ br1)<|bP (xi _ br2)<|tF (tF tE<|tE)<|tF tE<|tF tE<|tF tE<|tE
theorem sO{a:Int}:LY 81 [.int .i64 a] (uN a) (λr=>.bool r) []:=Xc.v<|
 tE
theorem zw{a:Int}{a2:Int}:LY 58 [.int .i64 a,.int .i64 a2] (xf a a2) (λr=>.int .i64 r) []:=W5.v<|
 tb λr1 br1=>tb λr2 br2=>bP (sO _ br1)<|bP (sO _ br2)<|tF (tF tE<|tE)<|tF tE<|tF tE<|tF tE<|tE
theorem sP{a:ai}:LY 82 [.str a] (uO a) (λr=>.bool r) []:=Xd.v<|
 tE
theorem zx{a:ai}{a2:ai}:LY 59 [.str a,.str a2] (xg a a2) (λr=>.int .i64 r) []:=W6.v<|
 tb λr1 br1=>tb λr2 br2=>bP (sP _ br1)<|bP (sP _ br2)<|tF (tF tE<|tE)<|tF tE<|tF tE<|tF tE<|tE
section
variable(t6:(List Int))(t7:Int)(t8:Int)
theorem El:UC 0 (cA U4 119) (B9 t6 t7 t8) (λ(zz:Int)=>uM t6 t7 zz) Ca Cb (uM t6 t7 t8):=Wb.l<|
 tF (tb λx2 bx2=>tv (PG.ia (k:=.i64) bx2)<|tv (yB X9 (.int .i64 x2) [])<|tF tE<|tE)<|tE
theorem xh:V0 0 (.loop (cA U4 119)) (Hk t6 t7 t8) Ca Cb (uM t6 t7 t8):=DF λ_=>El _ _ _
end
theorem K7{vals:(List Int)}:LY 56 [sl (cI .i64) vals] (Ou vals) (λr=>.int .i64 r) []:=Wb.v<|
 ck (PG.ln vals)<|t2 (λo4 bo4=>dn (xh vals (vals.length:Int) 0 _ bo4)<|tE) λo4 bo4=>dn (xh vals (vals.length:Int) 0 _ bo4)<|tE
section
variable(R22:eB)(s1:(List aa))(s2:(List aa))(t12:Int)(t13:Int)
theorem oC(hR22:iK R22):UC 0 (cA U5 55) (jU R22 s1 s2 t12 t13) (λ(zz:Int)=>ey s1 s2 t12 zz) jV (ga s1 s2) (ey s1 s2 t12 t13):=Wc.lx<|
 tF (tb λx2 bx2=>tv (bE.ia (k:=.i64) bx2)<|tv (aB x2)<|tx zX<|tx (eC x2)<|ck (bE.ln s2)<|tF tE<|tb λx4 bx4=>tb λr5 br5=>tv (bE.ia (k:=.i64) bx4)<|tv (aB x4)<|tx zX<|tx (eC x4)<|tv (aM x2 [])<|tv (aM x4 [])<|bP (hR22 _ _ _ br5)<|tF tE<|tE)<|tE
theorem jd(hR22:iK R22):V0 0 (.loop (cA U5 55)) (kF R22 s1 s2 t12 t13) jV (ga s1 s2) (ey s1 s2 t12 t13):=DF λ_=>oC _ _ _ _ _ hR22
end
theorem su(R22:eB)(hR22:iK R22){s1:(List aa)}{s2:(List aa)}:LY 60 [sl ac s1,sl ac s2,.func (.func 20) [] []] (oB R22 s1 s2) (λr=>.int .i64 r) []:=Wc.v<|
 ck (bE.ln s1)<|t2 (λo7 bo7=>dn (jd R22 s1 s2 (s1.length:Int) 0 hR22 _ bo7)<|tE) λo7 bo7=>dn (jd R22 s1 s2 (s1.length:Int) 0 hR22 _ bo7)<|ck (bE.ln s1)<|ck (bE.ln s2)<|tF tE<|tE
theorem yO(R22:eB)(hR22:iK R22){a:aa}{a2:aa}:LY 20 [.agg (ac a),.agg (ac a2)] (tn R22 a a2) (λr=>.int .i64 r) []:=WW.v<|
 tb λr1 br1=>tb λr2 br2=>tb λr3 br3=>tb λr4 br4=>tb λr5 br5=>tb λr6 br6=>tb λr7 br7=>te (cD a)<|te (cD a2)<|oY [0,1,0,7,15,0,32,0,128,511,0,1024,0,4096,16383,0,32768,0,131072,524287,1048575,2097151,4194303]<|tv (aB a)<|bP (vQ _ br1)<|tv (aB a2)<|bP (vQ _ br2)<|bP (sN _ br3)<|tw (aJ a)<|tw (aJ a2)<|bP (zw _ br4)<|tw (aC a)<|tw (aC a2)<|bP (sN _ br5)<|tw (bH a)<|tw (bH a2)<|bP (zx _ br6)<|tv (PG.mk' (v:=(PVal.int .i64)) (XW .i64) ([r3,r4,r5,r6]:List Int) 4 (by kernel_rfl))<|bP (K7 _ br7)<|tF tE<|tb λr9 br9=>tw (aU a)<|tw (aU a2)<|bP (su R22 hR22 _ br9)<|tE
theorem An{a:aa}{a2:aa}:LY 20 [.agg (ac a),.agg (ac a2)] (qq a a2) (λr=>.int .i64 r) []:=mP λ_ h=>
 ct (F:=tp) (M:=λ(x:aa×aa) (r:Int)=>CC Pg P4 20 [.agg (ac x.1),.agg (ac x.2)] (.int .i64 r) []) (λrec hrec x r h=>yO _ (λa a2=>mP λr h=>hrec (a,a2) r h) _ h) h
theorem Qy:Uq P4=true:=by kernel_rfl
theorem P6(x:Nat×List PVal):x∈P4↔x∈GE:=by
 unfold P4
 split
 ·rename_i a r e
  rw[e]
  simp
 ·rename_i e
  rw[e]
abbrev Wt:Nat:=96
abbrev Ww:Nat:=99
abbrev Vq:Nat:=20
abbrev tM:Nat:=133
noncomputable def Qe:Code:=f67.body.getD .skip
abbrev WK:Code:=be Qe [false]
abbrev WL:Code:=be Qe [true,false]
abbrev MA:Code:=be Qe [true,true,false,false]
abbrev WM:Code:=be Qe [true,true,false,true,false]
abbrev WN:Code:=be Qe [true,true,false,true,true,false,false]
abbrev sX:Code:=be Qe [true,true,true]
abbrev TX:Code:=be sX [false]
abbrev Uw:Code:=be sX [true,false,false]
abbrev N3:Code:=be sX [true,false,true,true]
abbrev s7:Code:=be N3 [false]
abbrev TU:Code:=be N3 [true,false,false]
abbrev Dh:Code:=be N3 [true,false,true,false]
abbrev TV:Code:=be N3 [true,true,false]
abbrev Su:Code:=be N3 [true,true,true,false,false]
abbrev Sv:Code:=be N3 [true,true,true,false,true,false]
abbrev BA:Code:=be N3 [true,true,true,false,true,true,false]
abbrev sY:Code:=be sX [true,true]
abbrev Kn:Code:=be sY [false]
abbrev yE:Code:=be sY [true,false]
abbrev GQ:Code:=be sY [true,true,false]
abbrev TW:Code:=be sY [true,true,true,false]
abbrev NL(c:Code)(b:Bool):Code:=.region (xn c) (bY c) b
theorem RR:Qe=.seq WK (.seq WL (.seq (.seq (NL MA false) (.seq WM (.cond (.tmp 26) (.seq WN .ret) .skip))) sX)):=by kernel_rfl
theorem T1:sX=.seq (NL TX false) (.seq (.seq Uw (.block 0 N3)) sY):=by kernel_rfl
theorem St:N3=.seq s7 (.cond (.tmp 30) (.seq TU (.cond (.tmp 35) (NL Dh false) .skip)) (.seq TV (.cond (.tmp 39) (.seq Su (.seq Sv (.cond (.tmp 55) (NL BA false) .skip))) .skip))):=by kernel_rfl
theorem T3:sY=.seq (NL Kn false) (.seq (NL yE false) (.seq (NL GQ false) (.seq TW .ret))):=by kernel_rfl
abbrev ji(m:al)(mb:Nat)(t:ae)(size:Int)(L:List (Nat×PVal)):List PVal:=(bO 72 ((2,.int .i64 size)::(3,.eptr (pY m mb))::(4,.eptr (af t))::(6,.slice [])::L) [] []).tmps
theorem qe(m:al)(mb:Nat)(t:ae)(size:Int){L:List (Nat×PVal)}(h:Jw 0 L):dO 0 (ji m mb t size L):=pD ⟨vzz,qf m mb,(show dO 0 (af t)from dy t),(bB cQ []:(sl ac []).cl 0),h⟩
section
variable(m:al)(mb:Nat)(t:ae)(size:Int)(key:ai)(l:List aa)(b:Bool)(v:Value)(d:aN)
theorem X2:cO Pg GE 0 WK (EX .normal ⟨ji m mb t size [],[.dead,.dead],[]⟩) (bO 72 [(0,.agg (pY m mb)),(1,.agg (af t)),(2,.int .i64 size)] [] []):=by
 have z:=se (rfl:bA (.agg (pY m mb))=some (pY m mb))<|se (rfl:bA (.agg (af t))=some (af t))<|eF .normal ⟨ji m mb t size [],[.dead,.dead],[]⟩
 exact cK (A:=[]) mixed z (by kernel_rfl)
theorem X3{tx k1 nt:ai}(h1:yM t=some tx)(h2:Jk tx [32]=some k1)(h3:u9 size=some nt)(h4:Jk k1 nt=some key):cO Pg GE 0 WL (EX .normal ⟨ji m mb t size [(7,.str key)],[],[]⟩) ⟨ji m mb t size [],[],[]⟩:=by
 have z:=sv (cw t)<|Sy (GX tx h1)<|sv (kD (P:=Pg) (t:=9) h2)<|Sy (vb nt h3)<|sv (kD (P:=Pg) (t:=9) h4)<|eF .normal ⟨ji m mb t size [(7,.str key)],[],[]⟩
 exact cK (A:=[]) mixed z (by kernel_rfl)
theorem X5:cO Pg GE 0 WM (EX .normal ⟨ji m mb t size [(7,.str key),(8,sl ac l),(9,.bool b),(26,.bool b)],[],[]⟩) ⟨ji m mb t size [(7,.str key),(8,sl ac l),(9,.bool b)],[],[]⟩:=by
 have z:=eF .normal ⟨ji m mb t size [(7,.str key),(8,sl ac l),(9,.bool b),(26,.bool b)],[],[]⟩
 exact cK (A:=[]) mixed z (by kernel_rfl)
theorem X6:cO Pg GE 0 (.seq WN .ret) (EX .ret (bO 72 [(6,sl ac l)] [] [])) ⟨ji m mb t size [(7,.str key),(8,sl ac l)],[],[]⟩:=by
 have z:=eF .ret (bO 72 [(6,sl ac l)] [] [])
 exact cK (A:=[]) mixed z (by kernel_rfl)
theorem X7:cO Pg GE 0 Uw (EX .normal ⟨ji m mb t size [(7,.str key),(10,.val v),(29,.int .i64 t.Op)],[],[]⟩) ⟨ji m mb t size [(7,.str key),(10,.val v)],[],[]⟩:=by
 have z:=sv (xm t)<|sv (xp t)<|eF .normal ⟨ji m mb t size [(7,.str key),(10,.val v),(29,.int .i64 t.Op)],[],[]⟩
 exact cK (A:=[]) mixed z (by kernel_rfl)
theorem X8:cO Pg GE 0 s7 (EX .normal ⟨ji m mb t size [(7,.str key),(10,.val v),(29,.int .i64 t.Op),(30,.bool ((t.Op==1)||(t.Op==3)||(t.Op==2)))],[],[]⟩) ⟨ji m mb t size [(7,.str key),(10,.val v),(29,.int .i64 t.Op)],[],[]⟩:=by
 cases c1:(t.Op==1)with
 |true=>
  have z:=sg 0 c1<|eF .normal ⟨ji m mb t size [(7,.str key),(10,.val v),(29,.int .i64 t.Op),(30,.bool (t.Op==1))],[],[]⟩
  have:cO Pg GE 0 s7 (EX .normal ⟨ji m mb t size [(7,.str key),(10,.val v),(29,.int .i64 t.Op),(30,.bool (t.Op==1))],[],[]⟩) ⟨ji m mb t size [(7,.str key),(10,.val v),(29,.int .i64 t.Op)],[],[]⟩:=cK (A:=[]) mixed z (by kernel_rfl)
  rw[c1]at this
  exact this
 | false =>
  cases c2:(t.Op==3)with
  |true=>
   have z:=sg 0 c1<|sg 0 c2<|eF .normal ⟨ji m mb t size [(7,.str key),(10,.val v),(29,.int .i64 t.Op),(30,.bool (t.Op==3))],[],[]⟩
   have:cO Pg GE 0 s7 (EX .normal ⟨ji m mb t size [(7,.str key),(10,.val v),(29,.int .i64 t.Op),(30,.bool (t.Op==3))],[],[]⟩) ⟨ji m mb t size [(7,.str key),(10,.val v),(29,.int .i64 t.Op)],[],[]⟩:=cK (A:=[]) mixed z (by kernel_rfl)
   rw[c2]at this
   exact this
  |false=>
   have z:=sg 0 c1<|sg 0 c2<|eF .normal ⟨ji m mb t size [(7,.str key),(10,.val v),(29,.int .i64 t.Op),(30,.bool (t.Op==2))],[],[]⟩
   have:cO Pg GE 0 s7 (EX .normal ⟨ji m mb t size [(7,.str key),(10,.val v),(29,.int .i64 t.Op),(30,.bool (t.Op==2))],[],[]⟩) ⟨ji m mb t size [(7,.str key),(10,.val v),(29,.int .i64 t.Op)],[],[]⟩:=cK (A:=[]) mixed z (by kernel_rfl)
   exact this
theorem VK:cO Pg GE 0 TU (EX .normal ⟨ji m mb t size [(7,.str key),(10,.val v),(35,.bool (size==1))],[],[]⟩) ⟨ji m mb t size [(7,.str key),(10,.val v)],[],[]⟩:=by
 have z:=eF .normal ⟨ji m mb t size [(7,.str key),(10,.val v),(35,.bool (size==1))],[],[]⟩
 exact cK (A:=[]) mixed z (by kernel_rfl)
theorem VM:cO Pg GE 0 TV (EX .normal ⟨ji m mb t size [(7,.str key),(10,.val v),(39,.bool (t.Op==4))],[],[]⟩) ⟨ji m mb t size [(7,.str key),(10,.val v),(29,.int .i64 t.Op)],[],[]⟩:=by
 have z:=eF .normal ⟨ji m mb t size [(7,.str key),(10,.val v),(39,.bool (t.Op==4))],[],[]⟩
 exact cK (A:=[]) mixed z (by kernel_rfl)
theorem VN{r:aN×Bool}(h:vL m t.Name=some r):cO Pg GE 0 Su (EX .normal ⟨ji m mb t size [(7,.str key),(10,.val v),(11,.eptr (ax r.1)),(12,.bool r.2)],[.dead],[]⟩) ⟨ji m mb t size [(7,.str key),(10,.val v)],[],[]⟩:=by
 have hx:ax r.1=[.str r.1.Name,sl cS r.1.Vars,sl bG r.1.Preds,sl aF r.1.Cons]:=jp r.1
 have z:=sv (Iq m mb)<|sv (IH m mb)<|sv (Gv t)<|sv (IJ t)<|Sy (Fu r h)<|sx By<|sx (eS r.1)<|eF .normal ⟨ji m mb t size [(7,.str key),(10,.val v),(11,.bptr 0 0),(12,.bool r.2)],[.cells [.str r.1.Name,sl cS r.1.Vars,sl bG r.1.Preds,sl aF r.1.Cons] []],[]⟩
 have h1:cO Pg GE 0 Su (EX .normal ⟨ji m mb t size [(7,.str key),(10,.val v),(11,.bptr 0 0),(12,.bool r.2)],[.cells [.str r.1.Name,sl cS r.1.Vars,sl bG r.1.Preds,sl aF r.1.Cons] []],[]⟩) ⟨ji m mb t size [(7,.str key),(10,.val v)],[],[]⟩:=cK (A:=[]) mixed z (by kernel_rfl)
 have hcl:dO 0 ([.str r.1.Name,sl cS r.1.Vars,sl bG r.1.Preds,sl aF r.1.Cons]:List PVal):=by rw[<-hx];exact gG r.1
 have z2:=VU 0 [[.str r.1.Name,sl cS r.1.Vars,sl bG r.1.Preds,sl aF r.1.Cons]] [2,3,4,6,7,10,11,12] [] (Vr (m:=0) (b:=0) rfl [.str r.1.Name,sl cS r.1.Vars,sl bG r.1.Preds,sl aF r.1.Cons] rfl) (Vs 0 (l:=[.str r.1.Name,sl cS r.1.Vars,sl bG r.1.Preds,sl aF r.1.Cons]) hcl) (Vt (l:=[.str r.1.Name,sl cS r.1.Vars,sl bG r.1.Preds,sl aF r.1.Cons]) (r:=[.str r.1.Name,sl cS r.1.Vars,sl bG r.1.Preds,sl aF r.1.Cons]) rfl)<|sf (Lt 0 (p:=pY m mb) (qf m mb))<|sf (Lt 0 (p:=af t) (dy t))<|sf (Ut 0 (p:=.slice []) (bB cQ []:(sl ac []).cl 0))<|en (fr ⟨ji m mb t size [(7,.str key),(10,.val v),(11,.eptr [.str r.1.Name,sl cS r.1.Vars,sl bG r.1.Preds,sl aF r.1.Cons]),(12,.bool r.2)],[.dead],[]⟩)
 rw[hx]
 exact h1.thenW (Vu z2 (by kernel_rfl))
theorem T4:cO Pg GE 0 Sv (EX .normal ⟨ji m mb t size [(7,.str key),(10,.val v),(55,.bool false)],[],[]⟩) ⟨ji m mb t size [(7,.str key),(10,.val v),(11,.eptr (ax d)),(12,.bool false)],[],[]⟩:=by
 have z:=sg 2 (rfl:false=false)<|eF .normal ⟨ji m mb t size [(7,.str key),(10,.val v),(55,.bool false)],[],[]⟩
 exact cK (A:=[]) mixed z (by kernel_rfl)
theorem T6:cO Pg GE 0 Sv (EX .normal ⟨ji m mb t size [(7,.str key),(10,.val v),(11,.eptr (ax d)),(55,.bool ((t.Args.length:Int)==0))],[],[]⟩) ⟨ji m mb t size [(7,.str key),(10,.val v),(11,.eptr (ax d)),(12,.bool true)],[],[]⟩:=by
 have z:=sg 2 (rfl:true=true)<|sv (Gw t)<|sv (GG t)<|Ux (dl.ln t.Args)<|eF .normal ⟨ji m mb t size [(7,.str key),(10,.val v),(11,.eptr (ax d)),(55,.bool ((t.Args.length:Int)==0))],[],[]⟩
 exact cK (A:=[]) mixed z (by kernel_rfl)
theorem VT:cO Pg GE 0 (.seq TW .ret) (EX .ret (bO 72 [(6,sl ac l)] [] [])) (bO 72 [(10,sl ac l)] [] []):=by
 have z:=eF .ret (bO 72 [(6,sl ac l)] [] [])
 exact cK (A:=[]) mixed z (by kernel_rfl)
end
section
variable{mb:Nat}{K:fe}{Γ:ay}{w:World}
theorem WF{mb:Nat}:∀b,ch [some mb] (λ_=>none) b↔b=mb:=λb=>⟨λh=>by
  rcases h with⟨i,hi⟩|h
  ·cases i with
   |zero=>simpa using hi.symm
   |succ i=>simp at hi
  ·exact absurd rfl h,λh=>.inl ⟨0,by rw[h];rfl⟩⟩
theorem TE(hB:dJ GE Γ w)(hk:KM mb K Γ w):SR Pg ⟨GE,Γ,w,ch [some mb] λ_=>none⟩ Γ [some mb] (λ_=>none) w #[] ⟨[],[.map (jo (sl ac) K)],[]⟩:={
 wi:=hB.wi
 sz:=rfl
 tm:=λi p v hp hv=>by simp at hp
 bl:=rfl
 bx:=λi b B hb hBx=>by
  cases i with
  |zero=>
   simp at hb hBx;subst hb;subst hBx
   exact⟨hk.off.1,hk.off.2.1,hk.br.up⟩
  |succ i=>simp at hb
 inj:=λi j b hi hj=>by
  cases i<;>cases j<;>simp at hi hj ⊢
 bn:=λi b hb=>.inl (.inl ⟨i,hb⟩)
 on:=λb L hL=>by cases hL
 ot:=λt k e he=>by simp at he
 ob:=λi j e cs own b hBx=>by
  cases i<;>simp at hBx
 gl:=λg cs hg=>(hB.gl g cs hg).mono (.refl _ _) (λi b h=>by simp at h)
 gc:=hB.gc
 gx:=λg cs hg=>⟨(hB.gx g cs hg).1,λh=>hk.off.2.2 g cs hg ((WF g).1 h),(hB.gx g cs hg).2⟩
 step:=.refl _ _ _ _}
theorem Ua:Pg.underlying tM=some (.map 9 tV):=underlying133
theorem M8(hB:dJ GE Γ w)(hk:KM mb K Γ w){k:ai}{vk:Value}(hvk:VR Γ [] w (.str k) vk):∃u,(Instr.lookup tM (.map (some mb)) vk true).run Pg w=.ok u w/\VR Γ [] w (.tuple [sl ac ((sa K k).getD []),.bool (sa K k).isSome]) u:=by
 obtain⟨u,h1,h2⟩:=Co (TE hB hk) (.mapr 0 mb rfl) (hvk.mono (.refl _ _) (λi b h=>by simp at h)) (HK (i:=0) rfl (QM Ua (P:=Pg) underlying9 (f:=sl ac) (z:=[]) (by kernel_rfl) K k))
 exact⟨u,h1,h2.clo ⟨bB cQ _,vzz,vzz⟩⟩
theorem M9(hB:dJ GE Γ w)(hk:KM mb K Γ w){k:ai}{vk vu:Value}{l:List aa}(hvk:VR Γ [] w (.str k) vk)(hvu:VR Γ [] w (sl ac l) vu):∃w',(Instr.mapUpdate tM (.map (some mb)) vk vu).run Pg w=.ok () w'/\Mv GE (λb=>b=mb) Γ w Γ w'/\KM mb (IN K k l) Γ w':=by
 have up:∀{p v},VR Γ [] w p v->VR Γ [some mb] w p v:=λh=>h.mono (.refl _ _) (λi b h=>by simp at h)
 obtain⟨w',h1,h2,_⟩:=vD (TE hB hk) (t:=tM) (.mapr 0 mb rfl) (up hvk) (up hvu) (Fa (i:=0) rfl (Sl (P:=Pg) Ua underlying9 (f:=sl ac) K k l))
 obtain⟨k1,k2,k3⟩:=h2.bx 0 mb _ rfl rfl
 exact⟨w',h1,(Mv.of h2).mono λb hb=>.inl ((WF b).1 hb),⟨k1,k2,hk.off.2.2⟩,k3.down (KT _)⟩
end
def JG(y:aa):Bool:=y.Kids.isEmpty&&y.Params.isEmpty&&y.Body.isEmpty&&y.Binds.isEmpty
theorem QB{y:aa}(h:JG y=true):ac y=[.int .i64 y.Op,.int .i64 y.N,.str y.Name,.slice [],.slice [],.slice [],.slice []]:=by
 simp only[JG,vae,vb3]at h
 obtain⟨⟨⟨h1,h2⟩,h3⟩,h4⟩:=h
 rw[bz,h1,h2,h3,h4];rfl
theorem VR.flat{Γ Γ':ay}{bs bs':bo}{w w':World}{p:PVal}{v:Value}(hp:(∃n,p=.int .i64 n)\/(∃s,p=.str s)\/p=.slice [])(h:VR Γ bs w p v):VR Γ' bs' w' p v:=by
 rcases hp with⟨n,rfl⟩|⟨s,rfl⟩|rfl
 ·cases h;exact .int _ _
 ·cases h;exact .str _
 ·generalize he:([]:List (List PVal))=es at h
  cases h with
  |sliceNil=>exact .sliceNil
  |sliceE a cap=>exact .sliceE a cap
  |slice _ b off cap n sz vals h0 hcap hg hn hsz hc hv=>subst he;exact .sliceE _ _
theorem KK{op:Int}{l:List aa}{Γ:ay}{w:World}(h:p7 op=some l)(hf:l.all JG=true)(hB:dJ GE Γ w):Calls Pg Wt #[.int .i64 op] w λe w'=>∃v Γ',e=.returned v/\Mv GE no Γ w Γ' w'/\fj Pg GE eV Γ' w' (pG ac l) l.length v/\∀b,v.ownBlock=some b->w.heap.size<=b:=by
 have hT:(ch [] λ_=>none)=λ_=>False:=funext λb=>propext ⟨λh=>by
  rcases h with⟨i,hi⟩|h
  ·simp at hi
  ·exact h rfl,λh=>h.elim⟩
 have hS:=hB.fresh (P:=Pg) (a:=#[.int .i64 op]) (tmps:=[.int .i64 op]) 0 rfl λt p v hp hv=>by
  match t with
  |0=>simp at hp hv;subst hp;subst hv;exact .int _ _
  |t+1=>simp at hp
 refine((FK l h).2.2 Γ [] (λ_=>none) w _ (by rw[hT];exact hS)).mono λe w' he=>?_
 obtain⟨v0,Γ',ow',rfl,h'⟩:=he
 rw[hT]at h'
 obtain⟨u,v,hu,hpv,⟨n,xs,hown,hgh⟩,how⟩:=h'.ot 0 0 36 (by simp)
 obtain rfl:v0=u:=by simpa using hu
 have hvr:VR Γ' [] w' (sl ac l) v0:=h'.tm 0 _ _ rfl rfl
 have hm0:Mv GE no Γ w Γ' w':=.of h'
 have hsl:v=v0:=by
  unfold sl at hvr
  generalize l.map ac=es at hvr
  cases hvr<;>·simp[eN]at hpv;exact hpv.symm
 subst hsl
 have hge:∀b,v.ownBlock=some b->w.heap.size<=b/\b<w'.heap.size:=λb hb=>by
  have:=h'.on b _ (how b hb)
  exact⟨this.2.resolve_left id,this.1⟩
 let Γ2:ay:=λb=>if v.ownBlock=some b then none else Γ' b
 have hle:Γ.Le w Γ2 w':=λb m hb hm=>by
  obtain⟨m',k1,k2,k3⟩:=hm0.le b m hb hm
  refine⟨m',?_,k2,k3⟩
  show(if v.ownBlock=some b then none else Γ' b)=_
  rw[vay λhx=>by have:=(hge b hx).1;have:=hB.lt hb;omega]
  exact k1
 have hm:Mv GE no Γ w Γ2 w':=⟨hB.world hle (λb m hb=>by
   have hb:(if v.ownBlock=some b then none else Γ' b)=some m:=hb
   split at hb
   ·cases hb
   ·exact hm0.base.wi b m hb) hm0.size (λg cs hg=>hm0.keep (hB.gx g cs hg).1 id),{hm0.step with
  keep:=λb hb hn=>⟨hm0.keep hb hn,by
   show(if v.ownBlock=some b then none else Γ' b)=_
   rw[vay λhx=>by have:=(hge b hx).1;have hb:b<w.heap.size:=hb;omega]
   exact hm0.gk hb hn⟩
  le:=hle}⟩
 have hflat:∀q∈pG ac l,(∃n,q=.int .i64 n)\/(∃s,q=.str s)\/q=.slice []:=λq hq=>by
  unfold pG at hq
  rw[vcQ]at hq
  obtain⟨y',hy',hq⟩:=hq
  obtain⟨y,hy,rfl⟩:=vah.1 hy'
  rw[QB (vao.1 hf y hy)]at hq
  simp only[vau,vaN,or_false]at hq
  rcases hq with rfl|rfl|rfl|rfl|rfl|rfl|rfl<;>simp
 have hfl:(pG ac l).length=l.length * Pg.cellsOf eV:=bE.flat_len l
 have hml:(l.map ac).length=l.length:=vbD _
 have hn:n=l.length/\∀(i:Nat) p x,(pG ac l)[i]? =some p->xs[i]? =some x->VR Γ2 [] w' p x:=by
  unfold sl at hvr
  generalize hes:l.map ac=es at hvr
  cases hvr with
  | sliceNil =>
   have hl:l=[]:=by cases l with
    |nil=>rfl
    |cons x l=>simp at hes
   subst hl
   refine⟨?_,λi p x hp=>by simp[pG]at hp⟩
   rcases hown.2 with⟨_,h0⟩|⟨g,cap,cur,hx,_⟩
   ·exact h0
   ·cases hx
  | sliceE a cap =>
   have hl:l=[]:=by cases l with
    |nil=>rfl
    |cons x l=>simp at hes
   subst hl
   refine⟨?_,λi p x hp=>by simp[pG]at hp⟩
   rcases hown.2 with⟨hx,h0⟩|⟨g,cap,cur,hx,_⟩
   ·exact h0
   ·cases hx;rfl
  | slice _ b off cap n' sz vals h0 hcap hg hn' hsz hc hv =>
   rcases hown.2 with⟨hx,_⟩|⟨g,cap',cur,hx,hrest⟩
   ·cases hx
   cases hx
   have hcells:=hown.cells (g:=b) rfl
   refine⟨by rw[<-hes,hml],λi p x hp hx=>?_⟩
   have hsl:∀x∈es,x.length=Pg.cellsOf eV:=λx hx=>by
    rw[<-hes]at hx
    obtain⟨z,_,rfl⟩:=vah.1 hx;exact bE.hc z
   have hk:0<Pg.cellsOf eV:=bE.hp
   have hil:i<l.length * Pg.cellsOf eV:=by rw[<-hfl];exact ah hp
   have a1:i / Pg.cellsOf eV<l.length:=vcD (by rw[vcb];exact hil)
   have a2:i % Pg.cellsOf eV<Pg.cellsOf eV:=vcV _ hk
   have a3:i=i / Pg.cellsOf eV * Pg.cellsOf eV+i % Pg.cellsOf eV:=(vcT i _).symm
   have hei:es[i / Pg.cellsOf eV]? =some (ac l[i / Pg.cellsOf eV]):=by rw[<-hes,vav,vaa a1];rfl
   have hsz':sz=Pg.cellsOf eV:=by rw[<-hsz _ _ hei,bE.hc]
   subst hsz'
   have hq2:i % Pg.cellsOf eV<(ac l[i / Pg.cellsOf eV]).length:=by rw[bE.hc];exact a2
   have hfa:=rV hsl hei (vaa hq2)
   rw[<-a3]at hfa
   have hp':es.flatten[i]? =some p:=by rw[<-hes];exact hp
   rw[hp']at hfa
   have hc1:=hc _ _ _ p hei (by rw[vaa hq2];exact hfa.symm)
   have hv1:=hv _ _ _ p hei (by rw[vaa hq2];exact hfa.symm)
   have hx1:=hcells i x hx
   rw[Addr.add_lit]at hx1
   rw[show 0+i / Pg.cellsOf eV * Pg.cellsOf eV+i % Pg.cellsOf eV=0+i by omega]at hc1
   rw[hc1]at hx1
   cases hx1
   exact hv1.flat (hflat p (vaq hp))
 obtain⟨rfl,hxv⟩:=hn
 have hxl:xs.length=(pG ac l).length:=by rw[hfl];exact hown.1
 refine⟨v,Γ2,rfl,hm,⟨⟨xs,hown,hxl,λu hu=>?_,hxv⟩,λb hb=>⟨by show(if v.ownBlock=some b then none else Γ' b)=_;rw[vaD hb],(hge b hb).2,λg cs hg e=>?_⟩⟩,λb hb=>(hge b hb).1⟩
 ·obtain⟨i,hi⟩:=vbC hu
  have hil:i<(pG ac l).length:=by rw[<-hxl];exact ah hi
  have hp:=vaa hil
  refine(hxv i _ u hp hi).one ?_
  have:=hflat _ (vaJ hil)
  rcases this with⟨n,h⟩|⟨s,h⟩|h<;>rw[h]<;>rfl
 ·have:=(hge b hb).1
  have:=(hB.gx g cs hg).1
  omega
def Qv(v:Value)(n:Nat):Value:=match v with
 |.slice a _ cap=>.slice a n cap
 |v=>v
section
variable{P:Program}{GE:List (Nat×List PVal)}{e:TypeId}{α:Type}{c:α->List PVal}{Γ:ay}{w:World}{l:List α}{v:Value}
theorem fj.freeze(hcl:∀x,(c x).length=P.cellsOf e)(hkp:0<P.cellsOf e)(hB:dJ GE Γ w)(h:fj P GE e Γ w (pG c l) l.length v)(n:Nat)(hn:n<=l.length):((v=.slice none 0 0/\l=[])\/∃g cap,v=.slice (some ⟨g,0,none⟩) l.length cap/\l.length<=cap)/\
  ∀u,u=Qv v n->∃Γ',Mv GE (λb=>v.ownBlock=some b) Γ w Γ' w/\VR Γ' [] w (sl c (l.take n)) u:=by
 obtain⟨xs,hown,hxl,hx1,hxv⟩:=h.row
 rcases hown.2 with⟨rfl,h0⟩|⟨g,cap,cur,rfl,_,hg,hnc,hcm,hcs,htake⟩
 ·have hl:=vai h0
  subst hl
  refine⟨.inl ⟨rfl,rfl⟩,λu hu=>⟨Γ,.refl hB,?_⟩⟩
  have:n=0:=by simpa using hn
  subst this
  subst hu
  exact .sliceNil
 refine⟨.inr ⟨g,cap,rfl,hnc⟩,λu hu=>?_⟩
 subst hu
 have hoff:=h.off g rfl
 have hle0:n * P.cellsOf e<=l.length * P.cellsOf e:=vaI _ hn
 have m2:=Mv.freeze (k:=n * P.cellsOf e) hB hoff hg (by rw[hcs];exact vax hle0 (vaI _ hnc))
 refine⟨_,m2.mono λb hb=>.inl (by have hb:b=g:=hb;rw[hb];rfl),?_⟩
 have hlm:((l.take n).map c).length=n:=by simp;omega
 have:=kz (Γ:=Γ.put g (n * P.cellsOf e)) (bs:=[]) (w:=w) (es:=(l.take n).map c) (cap:=cap) (size:=P.cellsOf e) hg (Γ.put_same _ _) (by rw[hlm];exact vaj _) hkp (by rw[hlm];omega) (λi x hx=>by
  obtain⟨y,_,rfl⟩:=vah.1 (vaq hx)
  exact hcl y) (λi x k q hx hq=>by
  have hin:i<n:=by have:=ah hx;omega
  have hxg:(l.map c)[i]? =some x:=by
   rw[vav]at hx ⊢
   rw[var hin]at hx
   exact hx
  have hkl:k<P.cellsOf e:=by
   obtain⟨y,_,rfl⟩:=vah.1 (vaq hx)
   have:=ah hq;rw[hcl y]at this;exact this
  have hlt:i * P.cellsOf e+k<l.length * P.cellsOf e:=uX (by omega) hkl
  have hpos:(pG c l)[i * P.cellsOf e+k]? =some q:=by
   unfold pG
   exact rV (λx hx=>by obtain⟨y,_,rfl⟩:=vah.1 hx;exact hcl y) hxg hq
  have hxi:i * P.cellsOf e+k<xs.length:=by rw[hown.1];exact hlt
  refine⟨xs[i * P.cellsOf e+k],?_,(hxv _ q _ hpos (vaa hxi)).mono m2.le (.refl _)⟩
  have h1:(cur.toList.take (l.length * P.cellsOf e))[i * P.cellsOf e+k]? =xs[i * P.cellsOf e+k]?:=by rw[htake]
  rw[var hlt,vaa hxi]at h1
  simpa using h1)
 rw[hlm]at this
 exact this
end
section
variable(m:al)(R:ae->Int->fe->Option (List aa×fe))(t:ae)(size:Int)(K:fe)
def Sn:Option (List aa×fe):=
 if((t.Op==1)||(t.Op==3)||(t.Op==2))=true then
  if(size==1)=true then(p7 t.Op).bind λl=>if l.all JG=true then some (l,K)else none else some ([],K)
 else if(t.Op==4)=true then(vL m t.Name).bind λr=>if(r.2&&((t.Args.length:Int)==0))=true then Qu R m r.1 size K else some ([],K)
 else some ([],K)
end
abbrev Cu(m:al)(mb:Nat)(t:ae)(size:Int)(key:ai)(o:List aa×fe)(Γ:ay)(w:World)(ds:List Deferred)(a':Act)(w':World):Prop:=
 a'.defers=ds/\∃Γ' v',Mv GE (λb=>b=mb) Γ w Γ' w'/\KM mb o.2 Γ' w'/\fj Pg GE eV Γ' w' (pG ac o.1) o.1.length v'/\(∀b,v'.ownBlock=some b->w.heap.size<=b)/\Fr Γ' w' a'.tmps (ji m mb t size [(7,.str key),(10,.val v')])
section
variable{mb:Nat}{K:fe}{o:List aa×fe}{key:ai}{v:Value}{Γ Γ':ay}{w w':World}{m:al}{t:ae}{size:Int}{nn:Nat}{a:Array Value}{ds:List Deferred}{R:ae->Int->fe->Option (List aa×fe)}
theorem MC(hk:KM mb K Γ w)(hm:Mv GE no Γ w Γ' w')(g:Fr Γ' w' a (ji m mb t size [(7,.str key),(10,.val (.slice none 0 0))])):Cu m mb t size key ([],K) Γ w ds ⟨a,ds⟩ w':=
 ⟨rfl,Γ',_,hm.mono λb h=>h.elim,hk.mv hm id,fj.nil,λb hb=>by simp[Value.ownBlock]at hb,g⟩
theorem VL{l:List aa}(hb:p7 t.Op=some l)(hf:l.all JG=true)(hB:dJ GE Γ w)(hk:KM mb K Γ w)(g:Fr Γ w a (ji m mb t size [(7,.str key),(10,.val v)])):(NL Dh false).wpIn Fence.wide nn Pg (λe a' w'=>e=.normal/\Cu m mb t size key (l,K) Γ w ds a' w') ⟨a,ds⟩ w:=by
 refine wpIn_region ?_
 rw[show List.range (bY Dh).size=[0,1,2,3] by kernel_rfl]
 have e0:iu Pg (bF Dh 0).op 0 (opv GE (ji m mb t size [(7,.str key),(10,.val v)])) []=(au Pg 44 (.eptr (af t)) 0).map (λp=>(p,[])):=by kernel_rfl
 refine bU (o:=bF Dh 0) (by kernel_rfl) (by kernel_rfl) (g.opS hB (d:=36) (p:=.eptr ((af t).drop 0)) (by kernel_rfl) (by kernel_rfl) (by kernel_rfl) (by rw[e0,xm];rfl) λa1 Γ1 w1 m1 g1=>?_)
 have e1:iu Pg (bF Dh 1).op 0 (opv GE ((ji m mb t size [(7,.str key),(10,.val v)]).set 36 (.eptr ((af t).drop 0)))) []=(aG Pg 37 ((af t).drop 0)).map (λp=>(p,[])):=by kernel_rfl
 refine bU (o:=bF Dh 1) (by kernel_rfl) (by kernel_rfl) (g1.opS m1.base (d:=37) (p:=.int .i64 t.Op) (by kernel_rfl) (by kernel_rfl) (by kernel_rfl) (by rw[e1,xp];rfl) λa2 Γ2 w2 m2 g2=>?_)
 have q37:(Act.mk a2 ds).eval (.tmp 37)=.int .i64 t.Op:=by
  have:=g2.ev (t:=37) (p:=.int .i64 t.Op) (by kernel_rfl) ds
  generalize (Act.mk a2 ds).eval (.tmp 37)=q at this
  cases this;rfl
 have hop:(bF Dh 2).op=.call {callee:=.value (.func Wt),args:=#[.tmp 37],argTypes:=Kt (bF Dh 2)}:=by kernel_rfl
 refine bU (o:=bF Dh 2) (by kernel_rfl) (by kernel_rfl) (Id hop (by kernel_rfl) call96 (by
  have e:(#[.tmp 37]:Array Operand).map (Act.mk a2 ds).eval=#[.int .i64 t.Op]:=by simp[q37]
  rw[e];exact KK hb hf m2.base) ?_)
 rintro e w3 ⟨u,Γ3,rfl,m3,row3,own3⟩
 refine⟨u,rfl,?_⟩
 rw[show(bF Dh 2).dst=some 38 by kernel_rfl]
 have g3:=(g2.mv m3.le).set (d:=38) (p:=.val u) (.val u)
 refine bU (o:=bF Dh 3) (by kernel_rfl) (by kernel_rfl) (g3.opS m3.base (d:=10) (p:=.val u) (by kernel_rfl) (by kernel_rfl) (by kernel_rfl) (by kernel_rfl) λa4 Γ4 w4 m4 g4=>?_)
 have m04:Mv GE no Γ w Γ4 w4:=((m1.trans m2 λb h=>.inl h).trans m3 λb h=>.inl h).trans m4 λb h=>.inl h
 have m02:=m1.trans m2 λb h=>.inl h
 exact⟨rfl,rfl,Γ4,u,m04.mono λb h=>h.elim,hk.mv m04 id,row3.mv m4 λb _=>id,λb hb=>vax m02.size (own3 b hb),g4.forget (by kernel_rfl)⟩
theorem VO(hR:Od m R)(hlong:∀t n K r,R t n K=some r->r.1.length<4611686018427387904){d:aN}(hc:Qu R m d size K=some o)(hB:dJ GE Γ w)(hk:KM mb K Γ w)(g:Fr Γ w a (ji m mb t size [(7,.str key),(10,.val v),(11,.eptr (ax d))])):(NL BA false).wpIn Fence.wide nn Pg (λe a' w'=>e=.normal/\Cu m mb t size key o Γ w ds a' w') ⟨a,ds⟩ w:=by
 refine wpIn_region ?_
 rw[show List.range (bY BA).size=[0,1,2,3,4] by kernel_rfl]
 have e0:iu Pg (bF BA 0).op 0 (opv GE (ji m mb t size [(7,.str key),(10,.val v),(11,.eptr (ax d))])) []=(aG Pg 135 (pY m mb)).map (λp=>(p,[])):=by kernel_rfl
 refine bU (o:=bF BA 0) (by kernel_rfl) (by kernel_rfl) (g.opS hB (d:=56) (p:=.agg (pY m mb)) (by kernel_rfl) (by kernel_rfl) (by kernel_rfl) (by rw[e0,O2];rfl) λa1 Γ1 w1 m1 g1=>?_)
 have e1:iu Pg (bF BA 1).op 0 (opv GE ((ji m mb t size [(7,.str key),(10,.val v),(11,.eptr (ax d))]).set 56 (.agg (pY m mb)))) []=(aG Pg 74 (ax d)).map (λp=>(p,[])):=by kernel_rfl
 refine bU (o:=bF BA 1) (by kernel_rfl) (by kernel_rfl) (g1.opS m1.base (d:=57) (p:=.agg (ax d)) (by kernel_rfl) (by kernel_rfl) (by kernel_rfl) (by rw[e1,zI];rfl) λa2 Γ2 w2 m2 g2=>?_)
 refine bU (o:=bF BA 2) (by kernel_rfl) (by kernel_rfl) (g2.opS m2.base (d:=58) (p:=.int .i64 size) (by kernel_rfl) (by kernel_rfl) (by kernel_rfl) (by kernel_rfl) λa3 Γ3 w3 m3 g3=>?_)
 have m03:Mv GE no Γ w Γ3 w3:=(m1.trans m2 λb h=>.inl h).trans m3 λb h=>.inl h
 have q58:(Act.mk a3 ds).eval (.tmp 58)=.int .i64 size:=by
  have:=g3.ev (t:=58) (p:=.int .i64 size) (by kernel_rfl) ds
  generalize (Act.mk a3 ds).eval (.tmp 58)=q at this
  cases this;rfl
 have v56:=g3.ev (t:=56) (p:=.agg (pY m mb)) (by kernel_rfl) ds
 have v57:=g3.ev (t:=57) (p:=.agg (ax d)) (by kernel_rfl) ds
 have hop:(bF BA 3).op=.call {callee:=.value (.func Wv),args:=#[.tmp 56,.tmp 57,.tmp 58],argTypes:=Kt (bF BA 3)}:=by kernel_rfl
 refine bU (o:=bF BA 3) (by kernel_rfl) (by kernel_rfl) (Id hop (by kernel_rfl) call98 (by
  have e:(#[.tmp 56,.tmp 57,.tmp 58]:Array Operand).map (Act.mk a3 ds).eval=#[(Act.mk a3 ds).eval (.tmp 56),(Act.mk a3 ds).eval (.tmp 57),.int .i64 size]:=by simp[q58]
  rw[e];exact callsIn_wide.1 (R3 (nn:=0) hR hlong hc m3.base (hk.mv m03 id) v56 v57)) ?_)
 rintro e w4 ⟨u,Γ4,rfl,m4,k4,row4,own4⟩
 refine⟨u,rfl,?_⟩
 rw[show(bF BA 3).dst=some 59 by kernel_rfl]
 have g4:=(g3.mv m4.le).set (d:=59) (p:=.val u) (.val u)
 refine bU (o:=bF BA 4) (by kernel_rfl) (by kernel_rfl) (g4.opS m4.base (d:=10) (p:=.val u) (by kernel_rfl) (by kernel_rfl) (by kernel_rfl) (by kernel_rfl) λa5 Γ5 w5 m5 g5=>?_)
 exact⟨rfl,rfl,Γ5,u,((m03.mono (M:=λb=>b=mb) λb h=>h.elim).trans m4 λb h=>.inl h).trans m5 λb h=>h.elim,k4.mv m5 id,row4.mv m5 λb _=>id,λb hb=>vax m03.size (own4 b hb),g5.forget (by kernel_rfl)⟩
theorem Cu.pre{Γ0:ay}{w0:World}{a':Act}(hm:Mv GE no Γ0 w0 Γ w)(h:Cu m mb t size key o Γ w ds a' w'):Cu m mb t size key o Γ0 w0 ds a' w':=by
 obtain⟨h1,Γ',v',h2,h3,h4,h5,h6⟩:=h
 exact⟨h1,Γ',v',(hm.mono (M:=λb=>b=mb) λb h=>h.elim).trans h2 λb h=>.inl h,h3,h4,λb hb=>vax hm.size (h5 b hb),h6⟩
theorem T7(hR:Od m R)(hlong:∀t n K r,R t n K=some r->r.1.length<4611686018427387904)(ho:Sn m R t size K=some o)(hB:dJ GE Γ w)(hk:KM mb K Γ w)(g:Fr Γ w a (ji m mb t size [(7,.str key),(10,.val (.slice none 0 0))])):(Code.seq Uw (.block 0 N3)).wpIn Fence.wide nn Pg (λe a' w'=>e=.normal/\Cu m mb t size key o Γ w ds a' w') ⟨a,ds⟩ w:=by
 unfold Sn at ho
 refine wpIn_seq (wpIn_mono (g.piece0 (k:=0) (X7 m mb t size key (.slice none 0 0)) hB (qe m mb t size ⟨vzz,vzz,vzz,vzz⟩) ds) ?_)
 rintro e ⟨a1,ds1⟩ w1 ⟨rfl,rfl,Γ1,m1,g1⟩
 refine wpIn_block ?_
 suffices hx:N3.wpIn Fence.wide nn Pg (λe a' w'=>e=.normal/\Cu m mb t size key o Γ w ds1 a' w') ⟨a1,ds1⟩ w1 by
  refine wpIn_mono hx ?_
  rintro e a' w' ⟨rfl,h⟩
  exact⟨rfl,h⟩
 rw[St]
 refine wpIn_seq (wpIn_mono (g1.piece0 (k:=0) (X8 m mb t size key (.slice none 0 0)) m1.base (qe m mb t size ⟨vzz,vzz,vzz,vzz,vzz⟩) ds1) ?_)
 rintro e ⟨a2,ds2⟩ w2 ⟨rfl,rfl,Γ2,m2,g2⟩
 have m02:Mv GE no Γ w Γ2 w2:=m1.trans m2 λb h=>.inl h
 refine wpIn_cond (g2.evb (t:=30) (x:=(t.Op==1)||(t.Op==3)||(t.Op==2)) (by kernel_rfl) ds2) ?_
 rcases OE ho with⟨c1,ho⟩|⟨c1,ho⟩
 ·rw[c1]
  refine wpIn_seq (wpIn_mono ((g2.forget (tm':=ji m mb t size [(7,.str key),(10,.val (.slice none 0 0))]) (by kernel_rfl)).piece0 (k:=0) (VK m mb t size key (.slice none 0 0)) m2.base (qe m mb t size ⟨vzz,vzz,vzz,vzz⟩) ds2) ?_)
  rintro e ⟨a3,ds3⟩ w3 ⟨rfl,rfl,Γ3,m3,g3⟩
  have m03:Mv GE no Γ w Γ3 w3:=m02.trans m3 λb h=>.inl h
  have g3':=g3.forget (tm':=ji m mb t size [(7,.str key),(10,.val (.slice none 0 0))]) (by kernel_rfl)
  refine wpIn_cond (g3.evb (t:=35) (x:=size==1) (by kernel_rfl) ds3) ?_
  rcases OE ho with⟨c2,ho⟩|⟨c2,ho⟩
  ·rw[c2]
   obtain⟨l,hl,ho⟩:=A6 ho
   rcases OE ho with⟨c3,ho⟩|⟨c3,ho⟩
   ·cases ho
    refine wpIn_mono (VL hl c3 m3.base (hk.mv m03 id) g3') ?_
    rintro e a' w' ⟨rfl,h⟩
    exact⟨rfl,h.pre m03⟩
   ·cases ho
  ·rw[c2]
   cases ho
   exact wpIn_skip ⟨rfl,MC hk m03 g3'⟩
 ·rw[c1]
  refine wpIn_seq (wpIn_mono ((g2.forget (tm':=ji m mb t size [(7,.str key),(10,.val (.slice none 0 0)),(29,.int .i64 t.Op)]) (by kernel_rfl)).piece0 (k:=0) (VM m mb t size key (.slice none 0 0)) m2.base (qe m mb t size ⟨vzz,vzz,vzz,vzz⟩) ds2) ?_)
  rintro e ⟨a3,ds3⟩ w3 ⟨rfl,rfl,Γ3,m3,g3⟩
  have m03:Mv GE no Γ w Γ3 w3:=m02.trans m3 λb h=>.inl h
  have g3':=g3.forget (tm':=ji m mb t size [(7,.str key),(10,.val (.slice none 0 0))]) (by kernel_rfl)
  refine wpIn_cond (g3.evb (t:=39) (x:=t.Op==4) (by kernel_rfl) ds3) ?_
  rcases OE ho with⟨c2,ho⟩|⟨c2,ho⟩
  rotate_left
  ·rw[c2]
   cases ho
   exact wpIn_skip ⟨rfl,MC hk m03 g3'⟩
  rw[c2]
  obtain⟨⟨d,ok⟩,hr,ho⟩:=A6 ho
  refine wpIn_seq (wpIn_mono (g3'.piece0 (k:=0) (VN m mb t size key (.slice none 0 0) hr) m3.base (qe m mb t size ⟨vzz,vzz,(show dO 0 (ax d)from gG d),vzz,vzz⟩) ds3) ?_)
  rintro e ⟨a4,ds4⟩ w4 ⟨rfl,rfl,Γ4,m4,g4⟩
  have m04:Mv GE no Γ w Γ4 w4:=m03.trans m4 λb h=>.inl h
  cases ok with
  |false=>
   cases ho
   refine wpIn_seq (wpIn_mono (g4.piece0 (k:=0) (T4 m mb t size key (.slice none 0 0) d) m4.base (qe m mb t size ⟨vzz,vzz,vzz,vzz⟩) ds4) ?_)
   rintro e ⟨a5,ds5⟩ w5 ⟨rfl,rfl,Γ5,m5,g5⟩
   refine wpIn_cond (g5.evb (t:=55) (x:=false) (by kernel_rfl) ds5) ?_
   exact wpIn_skip ⟨rfl,MC hk (m04.trans m5 λb h=>.inl h) (g5.forget (by kernel_rfl))⟩
  | true =>
   refine wpIn_seq (wpIn_mono (g4.piece0 (k:=0) (T6 m mb t size key (.slice none 0 0) d) m4.base (qe m mb t size ⟨vzz,vzz,(show dO 0 (ax d)from gG d),vzz,vzz⟩) ds4) ?_)
   rintro e ⟨a5,ds5⟩ w5 ⟨rfl,rfl,Γ5,m5,g5⟩
   have m05:Mv GE no Γ w Γ5 w5:=m04.trans m5 λb h=>.inl h
   refine wpIn_cond (g5.evb (t:=55) (x:=(t.Args.length:Int)==0) (by kernel_rfl) ds5) ?_
   simp only[Bool.true_and]at ho
   rcases OE ho with⟨c3,ho⟩|⟨c3,ho⟩
   ·rw[c3]
    refine wpIn_mono (VO hR hlong ho m5.base (hk.mv m05 id) (g5.forget (tm':=ji m mb t size [(7,.str key),(10,.val (.slice none 0 0)),(11,.eptr (ax d))]) (by kernel_rfl))) ?_
    rintro e a' w' ⟨rfl,h⟩
    exact⟨rfl,h.pre m05⟩
   ·rw[c3]
    cases ho
    exact wpIn_skip ⟨rfl,MC hk m05 (g5.forget (by kernel_rfl))⟩
end
end Go.Proofs.YtjddnhkahpfhdaaGreatDoor
