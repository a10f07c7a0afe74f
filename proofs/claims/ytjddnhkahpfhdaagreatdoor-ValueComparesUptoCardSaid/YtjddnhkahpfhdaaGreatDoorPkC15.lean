/- PROVED: a part of the proof. Conditions: none. -/
import Derived.Test.YtjddnhkahpfhdaaGreatDoorPkC14
import Derived.Test.YtjddnhkahpfhdaaGreatDoorPkC9
import Derived.Test.YtjddnhkahpfhdaaGreatDoorPkC11
import Derived.Shelf.SlSortCmp.NoneTotal
import Derived.Test.YtjddnhkahpfhdaaGreatDoorPkC13
set_option linter.unusedSimpArgs false
set_option linter.unusedVariables false
noncomputable section
namespace Go.Proofs.YtjddnhkahpfhdaaGreatDoor
open Go Go.RowKit Go.Proofs.Tryz
set_option linter.unusedVariables false
set_option linter.unusedSimpArgs false
set_option maxRecDepth 100000
abbrev XX:Nat:=123
noncomputable def XR:Code:=f123.body.getD .skip
abbrev SN(m:am)(mb:Nat)(l:List ae)(size:Int):PVal:=.func (.func U3) [] [.eptr (pT m mb),.eptr [sl af l],.eptr [.int .i64 size]]
theorem On(m:am)(mb:Nat)(l:List ae)(size:Int):(SN m mb l size).cl 0:=⟨vzz,p9 m mb,⟨ba dD l,vzz⟩,⟨vzz,vzz⟩,vzz⟩
theorem O4(m:am)(mb:Nat)(l:List ae)(size:Int):CC Pg GE XX [.agg (pT m mb),sl af l,.int .i64 size] (SN m mb l size) []:=by
 have z:=se (rfl:bv (.agg (pT m mb))=some (pT m mb))<|se (rfl:bv (sl af l)=some [sl af l])<|se (rfl:bv (.int .i64 size)=some [.int .i64 size])<|en (aI (rP (SN m mb l size)) (On m mb l size))
 have hc:dU 0 [.agg (pT m mb),sl af l,.int .i64 size]:=⟨p9 m mb,ba dD l,vzz,vzz⟩
 exact C.evp (A:=[]) mixed call123 func123 (c:=XR) rfl hc z (by kernel_rfl)
abbrev WU:Code:=bg RF [false]
abbrev Tt:Code:=bg RF [true,false]
abbrev VF:Code:=bg RF [true,true,false,false]
abbrev WV:Code:=bg Tq [false]
abbrev VG:Code:=bg Su [false]
abbrev Ts:Code:=bg Su [true,false]
abbrev Qv:Code:=bg cT [false]
abbrev VH:Code:=bg cT [true,false]
abbrev TS:Code:=bg Tq [true,true,true]
abbrev Dk:Code:=bg RF [true,true,true,false]
theorem Sn:RF=.seq WU (.seq (.region (wJ Tt) (bW Tt) false) (.seq (.seq VF (.block 0 (.loop Tq))) (.seq (.region (wJ Dk) (bW Dk) false) .ret))):=by kernel_rfl
theorem Sw:Tq=.seq WV (.seq (.cond (.tmp 19) .skip (.exit 0)) (.seq (.block 1 Su) TS)):=by kernel_rfl
theorem Sv:Su=.seq VG (.seq Ts (.seq (.region (wJ Qv) (bW Qv) false) (.seq VH (.block 2 (.rangeFunc (.tmp 47) #[48] (PT NY) dB))))):=by kernel_rfl
abbrev Bk(m:am)(mb:Nat)(d:aM)(size j:Int)(ob:Nat)(L:List (Nat×PVal)):List PVal:=
 (cc 65 ([(2,.int .i64 size),(3,.eptr (pT m mb)),(4,.eptr (ay d)),(7,.val (.pointer (some ⟨ob,0,none⟩)))]++L++[(16,sl aG d.Cons),(17,.int .i64 (d.Cons.length:Int)),(18,.int .i64 j)]) [] []).tmps
theorem Hm(m:am)(mb:Nat)(d:aM)(size j:Int)(ob:Nat):dU 0 (Bk m mb d size j ob []):=pp ⟨vzz,p9 m mb,(show dU 0 (ay d)from gZ d),vzz,ba lK d.Cons,vzz,vzz,vzz⟩
section
variable(m:am)(mb:Nat)(d:aM)(c:aO)(size j:Int)(ob nb:Nat)
theorem XS:cQ Pg GE 0 WU (EX .normal (cc 65 [(2,.int .i64 size),(3,.eptr (pT m mb)),(4,.eptr (ay d))] [.dead,.dead] [])) (cc 65 [(0,.agg (pT m mb)),(1,.agg (ay d)),(2,.int .i64 size)] [] []):=by
 have z:=se (rfl:bv (.agg (pT m mb))=some (pT m mb))<|se (rfl:bv (.agg (ay d))=some (ay d))<|eF .normal (cc 65 [(2,.int .i64 size),(3,.eptr (pT m mb)),(4,.eptr (ay d))] [.dead,.dead] [])
 exact cN (A:=[]) mixed z (by kernel_rfl)
theorem XT:cQ Pg GE 0 VF (EX .normal ⟨Bk m mb d size 0 ob [],[],[]⟩) (cc 65 [(2,.int .i64 size),(3,.eptr (pT m mb)),(4,.eptr (ay d)),(7,.val (.pointer (some ⟨ob,0,none⟩)))] [] []):=by
 have z:=sv (Fj d)<|sv (Ft d)<|U8 (Im.ln d.Cons)<|eF .normal ⟨Bk m mb d size 0 ob [],[],[]⟩
 exact cN (A:=[]) mixed z (by kernel_rfl)
theorem XU:cQ Pg GE 0 WV (EX .normal ⟨(Bk m mb d size j ob []).set 19 (.bool (decide (j<(d.Cons.length:Int)))),[],[]⟩) ⟨Bk m mb d size j ob [],[],[]⟩:=by
 have z:=eF .normal ⟨(Bk m mb d size j ob []).set 19 (.bool (decide (j<(d.Cons.length:Int)))),[],[]⟩
 exact cN (A:=[]) mixed z (by kernel_rfl)
theorem XV(hc:dn d.Cons j=some c):cQ Pg GE 0 VG (EX .normal ⟨Bk m mb d size j ob [(8,.int .i64 j),(9,.eptr (aG c))],[.dead],[]⟩) ⟨Bk m mb d size j ob [],[],[]⟩:=by
 have z:=sv (Im.ia (k:=.i64) hc)<|sv (L3 c)<|sx Ux<|sx (Jv c)<|eF .normal ⟨Bk m mb d size j ob [(8,.int .i64 j),(9,.bptr 0 0)],[.cells [.str c.Name,sl cS c.Names,sl af c.Fields] []],[]⟩
 have h1:cQ Pg GE 0 VG (EX .normal ⟨Bk m mb d size j ob [(8,.int .i64 j),(9,.bptr 0 0)],[.cells [.str c.Name,sl cS c.Names,sl af c.Fields] []],[]⟩) ⟨Bk m mb d size j ob [],[],[]⟩:=cN (A:=[]) mixed z (by kernel_rfl)
 have z2:=Wp 0 [[.str c.Name,sl cS c.Names,sl af c.Fields]] [2,3,4,7,8,9,16,17,18] [] (VV (m:=0) (b:=0) rfl [.str c.Name,sl cS c.Names,sl af c.Fields] rfl) (VW 0 (l:=[.str c.Name,sl cS c.Names,sl af c.Fields]) (lK c)) (VX (l:=[.str c.Name,sl cS c.Names,sl af c.Fields]) (r:=[.str c.Name,sl cS c.Names,sl af c.Fields]) rfl)<|sf (KQ 0 (p:=pT m mb) (p9 m mb))<|sf (KQ 0 (p:=ay d) (gZ d))<|sf (U4 0 (p:=sl aG d.Cons) (ba lK d.Cons))<|en (fr ⟨Bk m mb d size j ob [(8,.int .i64 j),(9,.eptr (aG c))],[.dead],[]⟩)
 exact h1.thenW (VY z2 (by kernel_rfl))
abbrev Kd(m:am)(mb:Nat)(d:aM)(c:aO)(size j:Int)(ob:Nat):List PVal:=Bk m mb d size j ob [(8,.int .i64 j),(9,.eptr (aG c))]
theorem Hv:au Pg 135 (.eptr (pT m mb)) 0=some (.eptr ((pT m mb).drop 0)):=by kernel_rfl
theorem HM:aC Pg 29 ((pT m mb).drop 0)=some (.agg (aq m)):=by kernel_rfl
theorem O6:aC Pg 135 (pT m mb)=some (.agg (pT m mb)):=by kernel_rfl
theorem VJ{r:aM×Int×Bool}(h:fZ m c.Name=some r)(c1:(!(r.1.Name==d.Name))=true):cQ Pg GE 0 Ts (EX (.exit 1) ⟨Bk m mb d size j ob [],[.dead],[]⟩) ⟨Kd m mb d c size j ob,[],[]⟩:=by
 have z:=sv (Hv m mb)<|sv (HM m mb)<|sv (nk c)<|sv (pL c)<|Ta (jT r h)<|sx FI<|sx (iy r.1)<|ss<|sv (qb d)<|sv (rU d)<|sg 6 c1<|sk<|eF (.exit 1) ⟨Bk m mb d size j ob [],[.dead],[]⟩
 exact cN (A:=[]) mixed z (by kernel_rfl)
theorem VK{r:aM×Int×Bool}(h:fZ m c.Name=some r)(c1:(!(r.1.Name==d.Name))=false)(c2:(!(r.2.1==j))=true):cQ Pg GE 0 Ts (EX (.exit 1) ⟨Bk m mb d size j ob [],[.dead],[]⟩) ⟨Kd m mb d c size j ob,[],[]⟩:=by
 have z:=sv (Hv m mb)<|sv (HM m mb)<|sv (nk c)<|sv (pL c)<|Ta (jT r h)<|sx FI<|sx (iy r.1)<|ss<|sv (qb d)<|sv (rU d)<|sg 6 c1<|sg 0 c2<|eF (.exit 1) ⟨Bk m mb d size j ob [],[.dead],[]⟩
 exact cN (A:=[]) mixed z (by kernel_rfl)
theorem VL{r:aM×Int×Bool}(h:fZ m c.Name=some r)(c1:(!(r.1.Name==d.Name))=false)(c2:(!(r.2.1==j))=false):cQ Pg GE 0 Ts (EX .normal ⟨Kd m mb d c size j ob,[.dead],[]⟩) ⟨Kd m mb d c size j ob,[],[]⟩:=by
 have z:=sv (Hv m mb)<|sv (HM m mb)<|sv (nk c)<|sv (pL c)<|Ta (jT r h)<|sx FI<|sx (iy r.1)<|ss<|sv (qb d)<|sv (rU d)<|sg 6 c1<|sg 0 c2<|eF .normal ⟨Kd m mb d c size j ob,[.dead],[]⟩
 exact cN (A:=[]) mixed z (by kernel_rfl)
abbrev Ld(m:am)(mb:Nat)(d:aM)(c:aO)(size j:Int)(ob nb:Nat):List PVal:=NC (pT m mb) d.Cons d c size (d.Cons.length:Int) j j ob nb []
theorem XW:cQ Pg GE 0 VH (EX .normal ⟨(Ld m mb d c size j ob nb).set 47 (SN m mb c.Fields (bw (size - 1))),[],[]⟩) ⟨Ld m mb d c size j ob nb,[],[]⟩:=by
 have z:=sv (O6 m mb)<|sv (Hw c)<|sv (HN c)<|Ta (O4 m mb c.Fields (bw (size - 1)))<|eF .normal ⟨(Ld m mb d c size j ob nb).set 47 (SN m mb c.Fields (bw (size - 1))),[],[]⟩
 exact cN (A:=[]) mixed z (by kernel_rfl)
theorem VI:cQ Pg GE 0 TS (EX .normal ⟨Bk m mb d size (bw (j+1)) ob [],[],[]⟩) ⟨Bk m mb d size j ob [],[],[]⟩:=by
 have z:=eF .normal ⟨Bk m mb d size (bw (j+1)) ob [],[],[]⟩
 exact cN (A:=[]) mixed z (by kernel_rfl)
theorem Qz:dU 0 ((Ld m mb d c size j ob nb).set 47 (SN m mb c.Fields (bw (size - 1)))):=by
 have h1:dU 0 (Ld m mb d c size j ob nb):=pp ⟨vzz,p9 m mb,(show dU 0 (ay d)from gZ d),vzz,vzz,(show dU 0 (aG c)from lK c),vzz,ba lK d.Cons,vzz,vzz,vzz⟩
 exact Hk λp hp=>by
  rcases vcf hp with hp|rfl
  ·obtain⟨i,hi⟩:=vbC hp
   exact gN h1 hi
  ·exact On m mb c.Fields _
theorem RI:dU 0 (Kd m mb d c size j ob):=pp ⟨vzz,p9 m mb,(show dU 0 (ay d)from gZ d),vzz,vzz,(show dU 0 (aG c)from lK c),ba lK d.Cons,vzz,vzz,vzz⟩
end
section
variable(R:ae->Int->fq->Option (List aa×fq))(m:am)(d:aM)(size:Int)
abbrev T9(size:Int)(c:aO):Bool:=decide (-HP<=bw (size - 1))&&decide (bw (size - 1)<=HP)&&decide ((c.Fields.length:Int)<=HP)
def P0(j:Nat)(c:aO)(o:List aa×fq):Option (List aa×fq):=
 (fZ m c.Name).bind λr=>if(!(r.1.Name==d.Name))=true then some o else if(!(r.2.1==(j:Int)))=true then some o else
  if T9 size c=true then(FY R (IL c.Name) c.Fields (bw (size - 1)) [] ((o.1,0),o.2)).bind λq=>some (q.2.1.1,q.2.2)else none
def IY:Nat->List aO->List aa×fq->Option (List aa×fq)
 |_,[],o=>some o
 |j,c::cs,o=>(P0 R m d size j c o).bind λo=>IY (j+1) cs o
def QI(K:fq):Option (List aa×fq):=if d.Cons.length<4611686018427387904 then IY R m d size 0 d.Cons ([],K)else none
end
abbrev Fv(Ds:List Nat):List Deferred:=Ds.map λD=>{target:=.collected D,args:=#[]}
structure CI(lo mb ob:Nat)(o:List aa×fq)(v:Value)(Ds:List Nat)(Γ:ax)(w:World):Prop where
 k:KM mb o.2 Γ w
 hd:wc w ob v
 ho:nD GE Γ w ob
 row:fA Pg GE eV Γ w (py ac o.1) o.1.length v
 vo:∀b,v.ownBlock=some b->lo<=b/\b≠ob/\b∉Ds
 lb:lo<=ob
 mlo:mb<lo
 ds:∀D∈Ds,lo<=D/\D≠ob/\nD GE Γ w D/\w.heap[D]? =some (.deferred (some []))
 nd:Ds.Nodup
section
variable{lo mb ob:Nat}{o:List aa×fq}{v:Value}{Ds:List Nat}{Γ Γ':ax}{w w':World}{M:Nat->Prop}
theorem CI.mv(h:CI lo mb ob o v Ds Γ w)(hm:Mv GE M Γ w Γ' w')(hM:∀b,M b->b≠mb/\b≠ob/\v.ownBlock≠some b/\b∉Ds):CI lo mb ob o v Ds Γ' w' where
 k:=h.k.mv hm λhb=>(hM _ hb).1 rfl
 hd:=h.hd.mv hm λhb=>(hM _ hb).2.1 rfl
 ho:=h.ho.mv hm λhb=>(hM _ hb).2.1 rfl
 row:=h.row.mv hm λb hb hM'=>(hM b hM').2.2.1 hb
 vo:=h.vo
 lb:=h.lb
 mlo:=h.mlo
 ds:=λD hD=>⟨(h.ds D hD).1,(h.ds D hD).2.1,(h.ds D hD).2.2.1.mv hm λhb=>(hM _ hb).2.2.2 hD,(hm.keep (h.ds D hD).2.2.1.2.1 λhb=>(hM _ hb).2.2.2 hD).trans (h.ds D hD).2.2.2⟩
 nd:=h.nd
theorem CI.mv0(h:CI lo mb ob o v Ds Γ w)(hm:Mv GE no Γ w Γ' w'):CI lo mb ob o v Ds Γ' w':=h.mv hm λb h=>h.elim
end
abbrev LD(m:am)(mb:Nat)(d:aM)(size:Int)(j:Nat)(ob lo:Nat)(o:List aa×fq)(Γ:ax)(w:World)(e:Exit)(a':Act)(w':World):Prop:=
 ∃Γ' v' Ds',Mv GE (λb=>b=mb\/lo<=b) Γ w Γ' w'/\CI lo mb ob o v' Ds' Γ' w'/\a'.defers=Fv Ds'/\Fr Γ' w' a'.tmps (Bk m mb d size j ob [])
section
variable{lo mb ob:Nat}{o o':List aa×fq}{v:Value}{Ds:List Nat}{Γ Γ':ax}{w w':World}{m:am}{d:aM}{c:aO}{size:Int}{j nn:Nat}{a:Array Value}{R:ae->Int->fq->Option (List aa×fq)}
theorem TJ{α:Type}{cs:Array α}(h:cs.size=3):∃a b c,cs=#[a,b,c]:=by
 match cs,h with
 |⟨[a,b,c]⟩,_=>exact⟨a,b,c,rfl⟩
theorem Qw(hR:Ob m R)(hlong:∀t n K r,R t n K=some r->r.1.length<4611686018427387904)(hc:dn d.Cons (j:Int)=some c)(h:P0 R m d size j c o=some o')(hB:dQ GE Γ w)(hI:CI lo mb ob o v Ds Γ w)(g:Fr Γ w a (Bk m mb d size j ob [])):(Code.block 1 Su).wpIn Fence.wide nn Pg (λe a' w'=>e=.normal/\LD m mb d size j ob lo o' Γ w e a' w') ⟨a,Fv Ds⟩ w:=by
 have key:Su.wpIn Fence.wide nn Pg (λe a' w'=>(e=.normal\/e=.exit 1)/\LD m mb d size j ob lo o' Γ w e a' w') ⟨a,Fv Ds⟩ w:=by
  unfold P0 at h
  obtain⟨r,hr,h⟩:=Af h
  rw[Sv]
  refine wpIn_seq (wpIn_mono (g.piece0 (k:=0) (XV m mb d c size j ob hc) hB (RI m mb d c size j ob) (Fv Ds)) ?_)
  rintro e ⟨a1,ds1⟩ w1 ⟨rfl,rfl,Γ1,m1,g1⟩
  have hI1:=hI.mv0 m1
  have skip:∀{c0:Code},cQ Pg GE 0 Ts (EX (.exit 1) ⟨Bk m mb d size j ob [],[.dead],[]⟩) ⟨Kd m mb d c size j ob,[],[]⟩->o'=o->(Code.seq Ts c0).wpIn Fence.wide nn Pg (λe a' w'=>(e=.normal\/e=.exit 1)/\LD m mb d size j ob lo o' Γ w e a' w') ⟨a1,Fv Ds⟩ w1:=λhS ho=>by
   subst ho
   refine wpIn_seq (wpIn_mono (g1.piece0 (k:=0) hS m1.base (Hm m mb d size j ob) (Fv Ds)) ?_)
   rintro e ⟨a2,ds2⟩ w2 ⟨rfl,rfl,Γ2,m2,g2⟩
   exact⟨.inr rfl,Γ2,v,Ds,(m1.trans m2 λb h=>.inl h).mono λb h=>h.elim,hI1.mv0 m2,rfl,g2⟩
  rcases OI h with⟨c1,h⟩|⟨c1,h⟩
  ·exact skip (VJ m mb d c size j ob hr c1) (vaw h).symm
  rcases OI h with⟨c2,h⟩|⟨c2,h⟩
  ·exact skip (VK m mb d c size j ob hr c1 c2) (vaw h).symm
  rcases OI h with⟨c3,h⟩|⟨c3,h⟩
  rotate_left
  ·cases h
  obtain⟨q,hq,h⟩:=Af h
  obtain rfl:=vaw h
  simp only[T9,vae,vam]at c3
  refine wpIn_seq (wpIn_mono (g1.piece0 (k:=0) (VL m mb d c size j ob hr c1 c2) m1.base (RI m mb d c size j ob) (Fv Ds)) ?_)
  rintro e ⟨a2,ds2⟩ w2 ⟨rfl,rfl,Γ2,m2,g2⟩
  have m02:Mv GE no Γ w Γ2 w2:=m1.trans m2 λb h=>.inl h
  have hI2:=hI1.mv0 m2
  have zi:(zeroValue 3).run Pg w2=.ok (.int .i64 0) w2:=Tryz.zeroValue3 w2
  refine wpIn_seq (wpIn_region ?_)
  rw[show List.range (bW Qv).size=[0,1] by kernel_rfl]
  refine bM (o:=bD Qv 0) (by kernel_rfl) (by kernel_rfl) (cC (by kernel_rfl) (by simp only[execOp,show(bD Qv 0).op=.alloc 3 by kernel_rfl,Sem.run_bind,vX zi];rfl) ?_)
  rw[show(bD Qv 0).dst=some 13 by kernel_rfl]
  have m3:Mv GE no Γ2 w2 Γ2 (w2.alloc (.cells #[.int .i64 0] 3)):=.alloc m2.base _
  have hn3:wc (w2.alloc (.cells #[.int .i64 0] 3)) w2.heap.size (.int .i64 0):=.new _ _ w2
  have on3:nD GE Γ2 (w2.alloc (.cells #[.int .i64 0] 3)) w2.heap.size:=.new m2.base _
  have g3:=(g2.mv m3.le).set (d:=13) (p:=.val (.pointer (some ⟨w2.heap.size,0,none⟩))) (.val _)
  have sz3:(w2.alloc (.cells #[.int .i64 0] 3)).heap.size=w2.heap.size+1:=World.size_alloc _ _
  show wpOpsIn Fence.wide nn Pg _ _ _ ⟨a2.setIfInBounds 13 (.pointer (some ⟨w2.heap.size,0,none⟩)),Fv Ds⟩ (w2.alloc (.cells #[.int .i64 0] 3))
  generalize w2.alloc (.cells #[.int .i64 0] 3)=w3 at m3 hn3 on3 g3 sz3
  generalize a2.setIfInBounds 13 (.pointer (some ⟨w2.heap.size,0,none⟩))=a3 at g3
  generalize hnb:w2.heap.size=nb at hn3 on3 g3 sz3
  have e13:(Act.mk a3 (Fv Ds)).eval (.tmp 13)=.pointer (some ⟨nb,0,none⟩):=aL (g3.raw (by kernel_rfl))
  obtain⟨w4,hrun4,m4,hn4⟩:=hn3.store (P:=Pg) (T:=3) (u:=.int .i64 0) m3.base (by kernel_rfl) (by kernel_rfl) rfl on3
  have ec:(Act.mk a3 (Fv Ds)).eval (.const (.int .i64 0))=.int .i64 0:=rfl
  refine bM (o:=bD Qv 1) (by kernel_rfl) (by kernel_rfl) (ku (a:=a3) (by kernel_rfl) (w':=w4) (by simp[execOp,show(bD Qv 1).op=.store 3 (.tmp 13) (.const (.int .i64 0)) by kernel_rfl,e13,ec,hrun4]) ?_)
  rw[show(bD Qv 1).dst=none by kernel_rfl]
  show(Code.seq VH (.block 2 (.rangeFunc (.tmp 47) #[48] (PT NY) dB))).wpIn Fence.wide nn Pg _ ⟨a3,Fv Ds⟩ w4
  have on4:nD GE Γ2 w4 nb:=on3.keep m4.size
  have nM:∀b,b=nb->b≠mb/\b≠ob/\v.ownBlock≠some b/\b∉Ds:=λb hb=>by
   subst hb
   refine⟨λe=>?_,λe=>?_,λe=>?_,λe=>?_⟩
   ·have:=hI2.k.off.2.1;omega
   ·have:=hI2.ho.2.1;omega
   ·have:=(hI2.row.off _ e).2.1;omega
   ·have:=(hI2.ds _ e).2.2.1.2.1;omega
  have hI4:=(hI2.mv0 m3).mv m4 nM
  have m24:Mv GE no Γ2 w2 Γ2 w4:=m3.trans m4 λb h=>by
   have h:b=nb:=h
   exact .inr (by omega)
  have g4:Fr Γ2 w4 a3 (Ld m mb d c size j ob nb):=(g3.mv m4.le).forget (by kernel_rfl)
  refine wpIn_seq (wpIn_mono (g4.piece0 (k:=0) (XW m mb d c size j ob nb) m4.base (Qz m mb d c size j ob nb) (Fv Ds)) ?_)
  rintro e ⟨a5,ds5⟩ w5 ⟨rfl,rfl,Γ5,m5,g5⟩
  have hI5:=hI4.mv0 m5
  have hn5:=hn4.mv m5 id
  have on5:=on4.mv m5 id
  have m05:Mv GE no Γ w Γ5 w5:=(m02.trans m24 λb h=>.inl h).trans m5 λb h=>.inl h
  have hlo:lo<=w.heap.size:=by have:=hI.lb;have:=hI.ho.2.1;omega
  obtain⟨f1,e47,v47⟩:=g5.get (t:=47) (p:=SN m mb c.Fields (bw (size - 1))) (by kernel_rfl)
  have e47':(Act.mk a5 (Fv Ds)).eval (.tmp 47)=f1:=aL e47
  cases v47 with
  |func _ _ _ fs cs hl1 hl2 hf hcp=>
  obtain rfl:fs=#[]:=va2 hl1
  obtain⟨k1,k2,k3,rfl⟩:=TJ hl2
  have v1:VR Γ5 [] w5 (.eptr (pT m mb)) k1:=hcp 0 _ _ rfl rfl
  have v2:VR Γ5 [] w5 (.eptr [sl af c.Fields]) k2:=hcp 1 _ _ rfl rfl
  have v3:VR Γ5 [] w5 (.eptr [.int .i64 (bw (size - 1))]) k3:=hcp 2 _ _ rfl rfl
  refine wpIn_block (wpIn_rangeFunc λfn _=>?_)
  have mA1:Mv GE no Γ5 w5 Γ5 (w5.alloc (.deferred (some []))):=.alloc m5.base _
  have mA2:Mv GE no Γ5 (w5.alloc (.deferred (some []))) Γ5 ((w5.alloc (.deferred (some []))).alloc (.loop (mw fn a5 w5.heap.size true))):=.alloc mA1.base _
  have oD1:nD GE Γ5 (w5.alloc (.deferred (some []))) w5.heap.size:=.new m5.base _
  have ol2:nD GE Γ5 ((w5.alloc (.deferred (some []))).alloc (.loop (mw fn a5 w5.heap.size true))) (w5.heap.size+1):=by
   have:=nD.new mA1.base (.loop (mw fn a5 w5.heap.size true))
   rwa[World.size_alloc]at this
  have rl2:((w5.alloc (.deferred (some []))).alloc (.loop (mw fn a5 w5.heap.size true))).heap[w5.heap.size+1]? =some (.loop (mw fn a5 w5.heap.size true)):=by
   have:=World.alloc_heap_new (w5.alloc (.deferred (some []))) (.loop (mw fn a5 w5.heap.size true))
   rwa[World.size_alloc]at this
  have rD2:((w5.alloc (.deferred (some []))).alloc (.loop (mw fn a5 w5.heap.size true))).heap[w5.heap.size]? =some (.deferred (some [])):=by
   rw[dK _ _ (by rw[World.size_alloc];omega)]
   exact World.alloc_heap_new w5 _
  have mA:Mv GE no Γ5 w5 Γ5 ((w5.alloc (.deferred (some []))).alloc (.loop (mw fn a5 w5.heap.size true))):=mA1.trans mA2 λb h=>.inl h
  have hen':(Instr.enterLoop fn a5 #[48] (PT NY) dB Fence.wide.round).run Pg w5=.ok (w5.heap.size+1,[{target:=.collected w5.heap.size,args:=#[]}]) ((w5.alloc (.deferred (some []))).alloc (.loop (mw fn a5 w5.heap.size true))):=run_enterLoop_outer fn a5 #[48] (PT NY) dB
  have oD2:=oD1.mv mA2 id
  generalize ((w5.alloc (.deferred (some []))).alloc (.loop (mw fn a5 w5.heap.size true)))=wA at mA ol2 rl2 rD2 hen' oD2
  have hbob:ob<w5.heap.size:=hI5.ho.2.1
  have hbnb:nb<w5.heap.size:=on5.2.1
  have hob:ob≠nb:=λe=>(nM ob e).2.1 rfl
  have hJ:JC (pT m mb) d.Cons d c size (d.Cons.length:Int) j j ob nb (w5.heap.size+1) w5.heap.size a5 fn (FC ob nb (w5.heap.size+1) w5.heap.size v) true (o.1,0) Γ5 wA:={
   base:=mA.base
   fr:=(g5.forget (tm':=Ld m mb d c size j ob nb) (by kernel_rfl)).mv mA.le
   ex:=⟨v,rfl,hI5.hd.mv mA id,hI5.row.mv mA λb _=>id,λe=>(hI5.vo _ e).2.1 rfl,λe=>(nM nb rfl).2.2.1 e,λe=>by have:=(hI5.row.off _ e).2.1;omega,λe=>by have:=(hI5.row.off _ e).2.1;omega⟩
   oo:=hI5.ho.mv mA id
   on:=on5.mv mA id
   ol:=ol2
   oD:=oD2
   hn:=hn5.mv mA id
   rl:=rl2
   rD:=rD2
   ds:=⟨hob,by omega,by omega,by omega,by omega,by omega⟩}
  have hmbF:¬FC ob nb (w5.heap.size+1) w5.heap.size v mb:=λh=>by
   have:=hI5.k.off.2.1
   have:=hI5.mlo
   rcases h with h|h|h|h|h
   ·have:=hI5.lb;omega
   ·exact(nM mb h).1 rfl
   ·omega
   ·omega
   ·have:=(hI5.vo _ h).1;omega
  refine⟨_,_,_,{target:=.fn (.func U3) #[k1,k2,k3],args:=#[.func (.yield (w5.heap.size+1)) #[] #[]]},wA,U3,#[.func (.yield (w5.heap.size+1)) #[] #[],k1,k2,k3],wA,hen',?_,λ_ _=>trivial,?_,λhx=>by simp[Fence.wide]at hx,?_⟩
  ·simp only[resolve,e47',Deferred.ofValue]
   simp[Act.eval]
  ·simp[invoke,call146]
  refine(M5 (TA (c:=c)) hR hlong hq c3.1.1 c3.1.2 c3.2 hJ (hI5.k.mv mA id) hmbF (vaQ _) (v1.mono mA.le (.refl _)) (v2.mono mA.le (.refl _)) (v3.mono mA.le (.refl _))).mono ?_
  rintro e w6 ⟨⟨u,rfl⟩,Γ6,F6,m6,hF6,hJ6,hk6⟩
  refine⟨_,_,run_endLoop hJ6.rl (by cases q.1<;>simp),?_⟩
  obtain⟨v6,hF6e,a1',a2',a3',a4',a5',a6'⟩:=hJ6.ex
  have m7:=Mv.putObj m6.base hJ6.ol (.loop {mw fn a5 w5.heap.size q.1 with state:=.exhausted})
  generalize w6.putObj (w5.heap.size+1) (.loop {mw fn a5 w5.heap.size q.1 with state:=.exhausted})=w7 at m7
  obtain⟨d1,d2,d3,d4,d5,d6⟩:=hJ6.ds
  have hwA:w5.heap.size<=wA.heap.size:=mA.size
  have hlo5:lo<=w5.heap.size:=vav hlo m05.size
  have own6:∀b,v6.ownBlock=some b->v.ownBlock=some b\/wA.heap.size<=b:=λb hb=>by
   rcases hF6 b (by rw[hF6e];exact .inr (.inr (.inr (.inr hb))))with(rfl|rfl|rfl|rfl|h)|h
   ·exact absurd hb a3'
   ·exact absurd hb a4'
   ·exact absurd hb a5'
   ·exact absurd hb a6'
   ·exact .inl h
   ·exact .inr h
  have hDnew:∀x,x∈Ds->x<w5.heap.size:=λx hx=>(hI5.ds x hx).2.2.1.2.1
  have nDs:∀x∈Ds,¬(FC ob nb (w5.heap.size+1) w5.heap.size v x\/x=mb):=λx hx h=>by
   have h1:=hDnew x hx
   have h2:=hI5.ds x hx
   have h3:=hI5.mlo
   rcases h with(h|h|h|h|h)|h
   ·exact h2.2.1 h
   ·exact(nM x h).2.2.2 hx
   ·omega
   ·omega
   ·exact(hI5.vo _ h).2.2 hx
   ·omega
  have nmb:¬mb=w5.heap.size+1:=by have:=hI5.k.off.2.1;omega
  have hI7:CI lo mb ob (q.2.1.1,q.2.2) v6 (w5.heap.size::Ds) Γ6 w7:={
   k:=hk6.mv m7 nmb
   hd:=a1'.mv m7 d2
   ho:=hJ6.oo.mv m7 d2
   row:=a2'.mv m7 λb hb e=>a5' (by have e:b=w5.heap.size+1:=e;rw[<-e];exact hb)
   vo:=λb hb=>⟨(own6 b hb).elim (λh=>(hI5.vo b h).1) λh=>by omega,λe=>a3' (e▸hb),λhx=>by
    rcases vat.1 hx with hx|hx
    ·exact a6' (hx▸hb)
    ·rcases own6 b hb with h|h
     ·exact(hI5.vo b h).2.2 hx
     ·have:=hDnew b hx;omega⟩
   lb:=hI5.lb
   mlo:=hI5.mlo
   ds:=λx hx=>by
    rcases vat.1 hx with rfl|hx
    ·exact⟨hlo5,λe=>d3 e.symm,hJ6.oD.mv m7 λe=>d6 e.symm,(m7.keep hJ6.oD.2.1 λe=>d6 e.symm).trans hJ6.rD⟩
    ·obtain⟨b1,b2,b3,b4⟩:=hI5.ds x hx
     have b3A:=b3.mv mA id
     have hxl:¬x=w5.heap.size+1:=by have:=hDnew x hx;omega
     refine⟨b1,b2,(b3A.mv m6 (nDs x hx)).mv m7 hxl,?_⟩
     exact(m7.keep (b3A.mv m6 (nDs x hx)).2.1 hxl).trans ((m6.keep b3A.2.1 (nDs x hx)).trans ((mA.keep b3.2.1 id).trans b4))
   nd:=vbz.2 ⟨λhx=>by have:=hDnew _ hx;omega,hI5.nd⟩}
  have mAll:Mv GE (λb=>b=mb\/lo<=b) Γ w Γ6 w7:=by
   refine Mv.trans (M1:=λb=>b=mb\/lo<=b) (((m05.trans mA λb h=>.inl h).mono (M:=λb=>b=mb\/lo<=b) λb h=>h.elim).trans m6 λb hb=>.inl ?_) (m7.mono (M:=λb=>b=mb\/lo<=b) λb hb=>.inl (.inr (by have hb:b=w5.heap.size+1:=hb;show lo<=b;rw[hb];exact Nat.le_succ_of_le hlo5))) λb hb=>.inl hb
   have:=hI5.lb
   have:=m02.size
   rcases hb with(h|h|h|h|h)|h
   ·exact .inr (by omega)
   ·exact .inr (by omega)
   ·exact .inr (by omega)
   ·exact .inr (by omega)
   ·exact .inr (hI5.vo _ h).1
   ·exact .inl h
  have g7:Fr Γ6 w7 a5 (Bk m mb d size j ob []):=(hJ6.fr.mv m7.le).forget (by kernel_rfl)
  have fin:LD m mb d size j ob lo (q.2.1.1,q.2.2) Γ w .normal ⟨a5,Fv (w5.heap.size::Ds)⟩ w7:=⟨Γ6,v6,w5.heap.size::Ds,mAll,hI7,rfl,g7⟩
  cases hq1:q.1 with
  |true=>exact⟨.inl rfl,fin⟩
  |false=>exact wpIn_exit ⟨.inl rfl,fin⟩
 refine wpIn_block (wpIn_mono key ?_)
 rintro e a' w' ⟨rfl|rfl,h⟩
 ·exact⟨rfl,h⟩
 ·exact⟨rfl,h⟩
end
theorem Sz{tm:List PVal}{i:Nat}{p:PVal}(h:dU 0 tm)(hp:p.cl 0):dU 0 (tm.set i p):=Hk λq hq=>by
 rcases vcf hq with hq|rfl
 ·obtain⟨i,hi⟩:=vbC hq
  exact gN h hi
 ·exact hp
theorem yO{fn:Func}{n:Nat}{tmps:Array Value}{R:Ending->World->Prop}:∀(Ds:List Nat) {Γ:ax} {w:World},dQ GE Γ w->(∀D∈Ds,nD GE Γ w D/\w.heap[D]? =some (.deferred (some [])))->Ds.Nodup->
  (∀w',Mv GE (λb=>b∈Ds) Γ w Γ w'->LeavesIn Fence.wide n Pg fn tmps R [] .returning w')->LeavesInM Fence.wide n Pg fn tmps R (Fv Ds) .returning w
 |[],Γ,w,hB,_,_,h=>h w (.refl hB)
 |D::Ds,Γ,w,hB,hd,hn,h=>by
  obtain⟨h1,h2⟩:=hd D (by simp)
  obtain⟨n1,n2⟩:=vbz.1 hn
  have m1:=Mv.putObj hB h1 (.deferred none)
  refine⟨by simp,.inl ⟨D,_,rfl,run_takeDeferred h2,yO Ds m1.base (λx hx=>?_) n2 λw' hw=>h w' ((m1.mono (M:=λb=>b∈D::Ds) λb hb=>.inl (by have hb:b=D:=hb;simp[hb])).trans hw λb hb=>.inl (vaH _ hb))⟩⟩
  obtain⟨q1,q2⟩:=hd x (vaH _ hx)
  have hne:¬x=D:=λe=>n1 (e▸hx)
  exact⟨q1.mv m1 hne,(m1.keep q1.2.1 hne).trans q2⟩
section
variable{mb:Nat}{K:fq}{r:List aa×fq}{v:Value}{Γ Γ':ax}{w w':World}{m:am}{d:aM}{size:Int}{nn:Nat}{a:Array Value}{R:ae->Int->fq->Option (List aa×fq)}
theorem SC(hR:Ob m R)(hlong:∀t n K r,R t n K=some r->r.1.length<4611686018427387904)(h:QI R m d size K=some r)(hB:dQ GE Γ w)(hk:KM mb K Γ w){u0 u1:Value}(h0:VR Γ [] w (.agg (pT m mb)) u0)(h1:VR Γ [] w (.agg (ay d)) u1):CallsIn Fence.wide nn Pg W1 #[u0,u1,.int .i64 size] w λe w'=>∃v Γ',e=.returned v/\Mv GE (λb=>b=mb) Γ w Γ' w'/\KM mb r.2 Γ' w'/\fA Pg GE eV Γ' w' (py ac r.1) r.1.length v/\∀b,v.ownBlock=some b->w.heap.size<=b:=by
 unfold QI at h
 split at h
 rotate_left
 ·cases h
 rename_i hlen
 refine callsIn_of_wp_marks func98 (c:=RF) rfl vzz ?_
 have g0:Fr Γ w (#[u0,u1,.int .i64 size]++Array.replicate 62 undef) (cc 65 [(0,.agg (pT m mb)),(1,.agg (ay d)),(2,.int .i64 size)] [] []).tmps:=by
  refine⟨by kernel_rfl,λk p u hp hu=>?_⟩
  have htm:(cc 65 [(0,.agg (pT m mb)),(1,.agg (ay d)),(2,.int .i64 size)] [] []).tmps=[.agg (pT m mb),.agg (ay d),.int .i64 size]++List.replicate 62 .undef:=by kernel_rfl
  rw[htm]at hp
  by_cases hk:k<3
  ·rw[vac (by simpa using hk)]at hp
   rw[vaT (by simpa using hk)]at hu
   match k,hk with
   |0,_=>simp at hp hu;subst hp;subst hu;exact h0
   |1,_=>simp at hp hu;subst hp;subst hu;exact h1
   |2,_=>simp at hp hu;subst hp;subst hu;exact .int _ _
  ·rw[vad (by simpa using hk),vaX]at hp
   split at hp<;>cases hp
   exact .undef u
 show RF.wpIn Fence.wide nn Pg _ ⟨#[u0,u1,.int .i64 size]++Array.replicate 62 undef,[]⟩ w
 rw[Sn]
 refine wpIn_seq (wpIn_mono (g0.piece0 (k:=0) (XS m mb d size) hB (pp ⟨vzz,p9 m mb,(show dU 0 (ay d)from gZ d),vzz⟩) []) ?_)
 rintro e ⟨a1,ds1⟩ w1 ⟨rfl,rfl,Γ1,m1,g1⟩
 have z31:(zeroValue tV).run Pg w1=.ok (.slice none 0 0) w1:=Tryz.zeroValue31 w1
 refine wpIn_seq (wpIn_region ?_)
 rw[show List.range (bW Tt).size=[0] by kernel_rfl]
 refine bM (o:=bD Tt 0) (by kernel_rfl) (by kernel_rfl) (cC (by kernel_rfl) (by simp only[execOp,show(bD Tt 0).op=.alloc tV by kernel_rfl,Sem.run_bind,vX z31];rfl) ?_)
 rw[show(bD Tt 0).dst=some 7 by kernel_rfl]
 have m2:Mv GE no Γ1 w1 Γ1 (w1.alloc (.cells #[.slice none 0 0] tV)):=.alloc m1.base _
 have hd2:wc (w1.alloc (.cells #[.slice none 0 0] tV)) w1.heap.size (.slice none 0 0):=.new _ _ w1
 have of2:nD GE Γ1 (w1.alloc (.cells #[.slice none 0 0] tV)) w1.heap.size:=.new m1.base _
 have g2:=((g1.mv m2.le).set (d:=7) (p:=.val (.pointer (some ⟨w1.heap.size,0,none⟩))) (.val _)).forget (tm':=(cc 65 [(2,.int .i64 size),(3,.eptr (pT m mb)),(4,.eptr (ay d)),(7,.val (.pointer (some ⟨w1.heap.size,0,none⟩)))] [] []).tmps) (by kernel_rfl)
 show(Code.seq (.seq VF (.block 0 (.loop Tq))) (.seq (.region (wJ Dk) (bW Dk) false) .ret)).wpIn Fence.wide nn Pg _ ⟨a1.setIfInBounds 7 (.pointer (some ⟨w1.heap.size,0,none⟩)),[]⟩ (w1.alloc (.cells #[.slice none 0 0] tV))
 generalize a1.setIfInBounds 7 (.pointer (some ⟨w1.heap.size,0,none⟩))=a2 at g2
 generalize w1.alloc (.cells #[.slice none 0 0] tV)=w2 at m2 hd2 of2 g2
 have hob1:w.heap.size<=w1.heap.size:=m1.size
 generalize w1.heap.size=ob at hd2 of2 g2 hob1
 refine wpIn_seq (wpIn_seq (wpIn_mono (g2.piece0 (k:=0) (XT m mb d size ob) m2.base (Hm m mb d size 0 ob) []) ?_))
 rintro e ⟨a3,ds3⟩ w3 ⟨rfl,rfl,Γ3,m3,g3⟩
 have m03:Mv GE no Γ w Γ3 w3:=(m1.trans m2 λb h=>.inl h).trans m3 λb h=>.inl h
 have hmb:mb<w.heap.size:=hk.off.2.1
 have hI3:CI w.heap.size mb ob ([],K) (.slice none 0 0) [] Γ3 w3:={
  k:=hk.mv m03 id
  hd:=hd2.mv m3 id
  ho:=of2.mv m3 id
  row:=fA.nil
  vo:=λb hb=>by simp[Value.ownBlock]at hb
  lb:=hob1
  mlo:=hmb
  ds:=λD hD=>by cases hD
  nd:=List.nodup_nil}
 refine wpIn_block (wpIn_loop_ghost (λk a' w'=>∃(j:Nat) (o:List aa×fq) (v':Value) (Ds:List Nat) (Γ':ax),k=d.Cons.length - j/\j<=d.Cons.length/\IY R m d size j (d.Cons.drop j) o=some r/\
  Mv GE (λb=>b=mb\/w.heap.size<=b) Γ w Γ' w'/\CI w.heap.size mb ob o v' Ds Γ' w'/\a'.defers=Fv Ds/\Fr Γ' w' a'.tmps (Bk m mb d size j ob [])) d.Cons.length ⟨0,([],K),_,[],Γ3,rfl,vaQ _,h,m03.mono λb h=>h.elim,hI3,rfl,g3⟩ ?_)
 rintro k ⟨a4,ds4⟩ w4 ⟨j,o,v4,Ds,Γ4,rfl,hj,hf4,m4,hI4,hd4,g4⟩
 simp only at hd4;subst hd4
 rw[Sw]
 refine wpIn_seq (wpIn_mono (g4.piece0 (k:=0) (XU m mb d size j ob) m4.base (Sz (Hm m mb d size j ob) trivial) (Fv Ds)) ?_)
 rintro e ⟨a5,ds5⟩ w5 ⟨rfl,rfl,Γ5,m5,g5⟩
 have hI5:=hI4.mv0 m5
 have m05:Mv GE (λb=>b=mb\/w.heap.size<=b) Γ w Γ5 w5:=m4.trans m5 λb h=>h.elim
 have g5':=g5.forget (tm':=Bk m mb d size j ob []) (by kernel_rfl)
 refine wpIn_seq (wpIn_cond (g5.evb (t:=19) (x:=decide ((j:Int)<(d.Cons.length:Int))) (by kernel_rfl) (Fv Ds)) ?_)
 by_cases hlt:j<d.Cons.length
 ·rw[vce (by omega)]
  refine wpIn_skip ?_
  have hdrop:d.Cons.drop j=d.Cons[j]::d.Cons.drop (j+1):=vaR hlt
  rw[hdrop,IY]at hf4
  obtain⟨o',ho',hf5⟩:=Af hf4
  refine wpIn_seq (wpIn_mono (Qw hR hlong (aU _ _ hlt) ho' m5.base hI5 g5') ?_)
  rintro e ⟨a6,ds6⟩ w6 ⟨rfl,Γ6,v6,Ds6,m6,hI6,hd6,g6⟩
  simp only at hd6;subst hd6
  refine wpIn_mono (g6.piece0 (k:=0) (VI m mb d size j ob) m6.base (Hm m mb d size _ ob) (Fv Ds6)) ?_
  rintro e ⟨a7,ds7⟩ w7 ⟨rfl,rfl,Γ7,m7,g7⟩
  have ew:bw ((j:Int)+1)=((j+1:Nat):Int):=by rw[bK (by omega) (by omega)];omega
  rw[ew]at g7
  exact⟨d.Cons.length - (j+1),by omega,j+1,o',v6,Ds6,Γ7,rfl,hlt,hf5,(m05.trans m6 λb h=>.inl h).trans m7 λb h=>h.elim,hI6.mv0 m7,rfl,g7⟩
 ·rw[decide_eq_false (by omega)]
  refine wpIn_exit ?_
  rw[vbq (by omega),IY]at hf4
  obtain rfl:=vaw hf4
  show(Code.seq (.region (wJ Dk) (bW Dk) false) .ret).wpIn Fence.wide nn Pg _ ⟨a5,Fv Ds⟩ w5
  refine wpIn_seq (wpIn_region ?_)
  rw[show List.range (bW Dk).size=[0,1] by kernel_rfl]
  have e7:(Act.mk a5 (Fv Ds)).eval (.tmp 7)=.pointer (some ⟨ob,0,none⟩):=aL (g5'.raw (by kernel_rfl))
  refine bM (o:=bD Dk 0) (by kernel_rfl) (by kernel_rfl) (cC (by kernel_rfl) (v:=v4) (w':=w5) (by simp[execOp,show(bD Dk 0).op=.load tV (.tmp 7) by kernel_rfl,e7,hI5.hd.load (P:=Pg) (T:=tV) (by kernel_rfl)]) ?_)
  rw[show(bD Dk 0).dst=some 64 by kernel_rfl]
  have g6:=g5'.set (d:=64) (p:=.val v4) (.val v4)
  refine bM (o:=bD Dk 1) (by kernel_rfl) (by kernel_rfl) (g6.opS m5.base (d:=6) (p:=.val v4) (by kernel_rfl) (by kernel_rfl) (by kernel_rfl) (by kernel_rfl) λa7 Γ7 w7 m7 g7=>?_)
  refine wpIn_ret ?_
  have hI7:=hI5.mv0 m7
  refine yO Ds m7.base (λD hD=>⟨(hI7.ds D hD).2.2.1,(hI7.ds D hD).2.2.2⟩) hI7.nd λw8 m8=>?_
  have g8:=g7.mv m8.le
  obtain⟨u,e1,e2,_⟩:=qN (g8.sr (P:=Pg) m8.base 0) (fn:=f98) (r:=.val v4) (by kernel_rfl)
  cases e2
  have nmb:¬mb∈Ds:=λhx=>by have:=(hI7.ds _ hx).1;omega
  refine⟨v4,e1,v4,Γ7,rfl,?_,hI7.k.mv m8 nmb,hI7.row.mv m8 λb hb hx=>(hI7.vo b hb).2.2 hx,λb hb=>(hI7.vo b hb).1⟩
  exact((m05.trans m7 λb h=>h.elim).trans m8 λb hb=>.inl (.inr (hI7.ds b hb).1)).mono λb hb=>hb
end
open Go
section
variable{α:Type}
def L4(ord:α->α->Option Int)(x y:α):Bool:=match ord x y with
 |some r=>decide (r<0)
 |none=>false
def Kz(lt:α->α->Bool)(x:α):List α->List α
 |[]=>[x]
 |y::r=>if lt y x=true then y::Kz lt x r else x::y::r
def xz(lt:α->α->Bool):List α->List α
 |[]=>[]
 |x::r=>Kz lt x (xz lt r)
structure Qm(lt:α->α->Bool)(S:α->Prop):Prop where
 irr:∀x,S x->lt x x=false
 trans:∀x y z,S x->S y->S z->lt x y=true->lt y z=true->lt x z=true
 ntrans:∀x y z,S x->S y->S z->lt x y=false->lt y z=false->lt x z=false
 tot:∀x y,S x->S y->lt x y=false->lt y x=false->x=y
theorem Ao(lt:α->α->Bool)(x:α):∀l,(Kz lt x l).Perm (x::l)
 |[]=>.refl _
 | y :: r => by
  unfold Kz
  split
  ·exact((Ao lt x r).cons y).trans (List.Perm.swap x y r)
  ·exact .refl _
theorem pD(lt:α->α->Bool):∀l,(xz lt l).Perm l
 |[]=>.refl _
 |x::r=>(Ao lt x (xz lt r)).trans ((pD lt r).cons x)
abbrev E0(lt:α->α->Bool)(l:List α):Prop:=l.Pairwise λx y=>lt y x=false
theorem Bq{lt:α->α->Bool}{S:α->Prop}(h:Qm lt S)(x:α)(hx:S x):∀{l},(∀y∈l,S y)->E0 lt l->E0 lt (Kz lt x l)
 |[],_,_=>by simp[Kz,E0]
 | y :: r,hS,hs => by
  unfold E0 at hs ⊢
  have h':=vbL.1 hs
  have hy:=hS y (by simp)
  have hr:∀z∈r,S z:=λz hz=>hS z (by simp[hz])
  unfold Kz
  split
  ·rename_i hyx
   rw[vbL]
   refine⟨λz hz=>?_,Bq h x hx hr h'.2⟩
   rcases vat.1 ((Ao lt x r).mem_iff.1 hz)with rfl|hz
   ·cases hc:lt z y with
    |false=>rfl
    |true=>
     have:=h.trans _ _ _ hy hx hy hyx hc
     rw[h.irr _ hy]at this;cases this
   ·exact h'.1 z hz
  ·rename_i hyx
   have hyx:lt y x=false:=by simpa using hyx
   rw[vbL]
   refine⟨λz hz=>?_,hs⟩
   rcases vat.1 hz with rfl|hz
   ·exact hyx
   ·exact h.ntrans _ _ _ (hr z hz) hy hx (h'.1 z hz) hyx
theorem wK{lt:α->α->Bool}{S:α->Prop}(h:Qm lt S):∀{l},(∀y∈l,S y)->E0 lt (xz lt l)
 |[],_=>by simp[xz,E0]
 |x::r,hS=>by
  unfold xz
  exact Bq h x (hS x (by simp)) (λy hy=>hS y (by have:=(pD lt r).mem_iff.1 hy;simp[this])) (wK h λy hy=>hS y (by simp[hy]))
theorem BE{lt:α->α->Bool}{S:α->Prop}(h:Qm lt S):∀{l r:List α},(∀y∈l,S y)->l.Perm r->E0 lt l->E0 lt r->l=r
 |[],r,_,hp,_,_=>(List.Perm.nil_eq hp)
 | x :: l,r,hS,hp,hl,hr => by
  cases r with
  |nil=>exact absurd hp.length_eq (by simp)
  | cons y r =>
   have hl':=vbL.1 hl
   have hr':=vbL.1 hr
   have hxS:=hS x (by simp)
   have hyS:=hS y (hp.mem_iff.2 (by simp))
   have hxy:x=y:=by
    have h1:x∈y::r:=hp.mem_iff.1 (by simp)
    have h2:y∈x::l:=hp.mem_iff.2 (by simp)
    rcases vat.1 h1 with h1|h1
    ·exact h1
    ·rcases vat.1 h2 with h2|h2
     ·exact h2.symm
     ·exact h.tot _ _ hxS hyS (hr'.1 x h1) (hl'.1 y h2)
   subst hxy
   rw[BE h (λz hz=>hS z (by simp[hz])) hp.cons_inv hl'.2 hr'.2]
end
class SoundEq (α:Type) where
 eqb:α->α->Bool
 sound:∀x y,eqb x y=true->x=y
section
variable{α:Type}[SoundEq α]
def U5(ord:α->α->Option Int)(l:List α):Bool:=
 decide (l.length<=cy)&&(l.all (λx=>l.all λy=>(ord x y).isSome)&&(l.all (λx=>!L4 ord x x)&&
 (l.all (λx=>l.all λy=>l.all λz=>(!(L4 ord x y&&L4 ord y z)||L4 ord x z)&&((L4 ord x y||L4 ord y z)||!L4 ord x z))&&
 l.all λx=>l.all λy=>L4 ord x y||(L4 ord y x||SoundEq.eqb x y))))
def Eu(ord:α->α->Option Int)(l:List α):Option (List α):=if U5 ord l=true then some (xz (L4 ord) l)else none
theorem DX{ord:α->α->Option Int}{l:List α}(h:U5 ord l=true):l.length<=cy/\(∀x∈l,∀y∈l,∃r,ord x y=some r)/\Qm (L4 ord) (·∈l):=by
  unfold U5 at h
  simp only[vae,vam,vao,va4,va1]at h
  obtain⟨h1,h2,h3,h4,h5⟩:=h
  refine⟨h1,λx hx y hy=>vaC.1 (h2 x hx y hy),λx hx=>h3 x hx,λx y z hx hy hz a b=>?_,λx y z hx hy hz a b=>?_,λx y hx hy a b=>?_⟩
  · rcases (h4 x hx y hy z hz).1 with h | h
    ·rw[a,b]at h;cases h
    ·exact h
  · rcases (h4 x hx y hy z hz).2 with (h | h) | h
    ·rw[a]at h;cases h
    ·rw[b]at h;cases h
    ·exact h
  · rcases h5 x hx y hy with h | h | h
    ·rw[a]at h;cases h
    ·rw[b]at h;cases h
    ·exact SoundEq.sound _ _ h
theorem Ip{ord:α->α->Option Int}{l r l':List α}(h:Eu ord l=some r)(hp:l'.Perm l)(hs:E0 (L4 ord) l'):l'=r:=by
 unfold Eu at h
 split at h
 ·rename_i hk
  cases h
  obtain⟨_,_,ho⟩:=DX hk
  exact BE ho (λy hy=>hp.mem_iff.1 hy) (hp.trans (pD _ l).symm) hs (wK ho λy hy=>hy)
 ·cases h
theorem JT{ord:α->α->Option Int}{l r:List α}(h:Eu ord l=some r):U5 ord l=true/\r.length=l.length:=by
 unfold Eu at h
 split at h
 ·rename_i hk
  cases h
  exact⟨hk,(pD _ l).length_eq⟩
 ·cases h
end
open Go Go.Shelf Go.RowKit Go.Lib Go.Sort
def N8(P:Program)(fs:FuncId)(k:Nat):Prop:=
 (∀vs w,(callFunc fs vs).run P w=.ok (.enter fs vs) w)/\
 (∀(enc:Nat->List Value) (cf:Nat->Nat->Int) (g blk cap:Nat) (d:Array Nat) (w:World),(∀x,(enc x).length=k)->(∀x,∀v∈enc x,v.oneCell'=true)->SWO (ltOf cf)->(∀vs w,(callFunc g vs).run P w=.ok (.enter g vs) w)->
  CmpLays P g #[] enc k cf blk 0 d.size w->HoldsK enc k w blk 0 d->blk<w.heap.size->d.size<4611686018427387904->
  Calls P fs #[.slice (some ⟨blk,0,none⟩) d.size cap,.func (.func g) #[] #[]] w λe w'=>e=.returned (.tuple #[])/\∃d' n os,PermIn 0 d.size d d'/\SortedIn (ltOf cf) 0 d.size d'/\w'=sortWorldK enc k w blk 0 n d' os)/\
 ∀(p:Option Addr) (cap:Nat) (fv:Value) (w:World),Calls P fs #[.slice p 0 cap,fv] w λe w'=>e=.returned (.tuple #[])/\w'=w
theorem Lm{enc:Nat->List Value}{k b m:Nat}{dk:Array Nat}{os:Array Obj}{w:World}{x:Nat}(hx:x<w.heap.size)(hb:x≠b):(sortWorldK enc k w b 0 m dk os).heap[x]? =w.heap[x]?:=by
 show((putRowK enc k (Sort.ahead w m) b 0 dk).heap++os)[x]? =_
 have hsz:(putRowK enc k (Sort.ahead w m) b 0 dk).heap.size=w.heap.size:=by simp[putRowK,putRow,mapBlock,Sort.ahead]
 rw[vaT (by rw[hsz];exact hx)]
 show(w.heap.modify b (onCells _))[x]? =_
 rw[vbN,vaz (λe=>hb e.symm)]
theorem Ln{enc:Nat->List Value}{k b m:Nat}{dk:Array Nat}{os:Array Obj}{w:World}:w.heap.size<=(sortWorldK enc k w b 0 m dk os).heap.size:=by
 show _<=((putRowK enc k (Sort.ahead w m) b 0 dk).heap++os).size
 have hsz:(putRowK enc k (Sort.ahead w m) b 0 dk).heap.size=w.heap.size:=by simp[putRowK,putRow,mapBlock,Sort.ahead]
 rw[Array.size_append,hsz];omega
theorem NJ{enc:Nat->List Value}{k b m:Nat}{dk:Array Nat}{os:Array Obj}{w:World}{cur:Array Value}{e:TypeId}(hh:w.heap[b]? =some (.cells cur e (0,0))):(sortWorldK enc k w b 0 m dk os).heap[b]? =some (.cells (putCells id 0 (flatK enc k dk) cur) e (0,0)):=by
 have hb:b<w.heap.size:=(vaf.1 hh).1
 show((putRowK enc k (Sort.ahead w m) b 0 dk).heap++os)[b]? =_
 have hsz:(putRowK enc k (Sort.ahead w m) b 0 dk).heap.size=w.heap.size:=by simp[putRowK,putRow,mapBlock,Sort.ahead]
 rw[vaT (by rw[hsz];exact hb)]
 show(w.heap.modify b (onCells _))[b]? =_
 rw[vbN,vaA rfl,hh]
 rfl
section
variable{P:Program}{ρ:Ren}
theorem PY(L:SlLaysF0.n6 P ρ){fs e:Nat}(hf:ρ.f 6=fs)(he:ρ.t 24=e)(ha:(P.underlying e).any Qq=true)(hi:(P.info? e).isSome=true)(hcall:∀vs w,(callFunc fs vs).run P w=.ok (.enter fs vs) w):N8 P fs (P.cellsOf e):=by
 subst hf;subst he
 obtain⟨i0,hi0⟩:=vaC.1 hi
 have hagg:∀w,(Go.isAgg (ρ.t 24)).run P w=.ok true w:=λw=>by
  cases hd:P.underlying (ρ.t 24)with
  |none=>rw[hd]at ha;cases ha
  |some d=>
   rw[hd]at ha
   cases d<;>simp[Qq]at ha<;>simp[Go.isAgg,run_underlying hd]
 refine⟨hcall,λenc cf g blk cap d w hk h1 hO eg hcmp hH hb hs=>?_,λp cap fv w=>AnyF.slices_SortFunc_none L p cap fv w⟩
 exact AnyQ.slices_SortFunc L (P.cellsOf (ρ.t 24)) hagg (λw=>run_sizeOf w hi0) enc hk h1 cf hO g #[] blk 0 cap d w eg hcmp hH hb hs
end
section
variable{P:Program}{GE:List (Nat×List PVal)}{Γ:ax}{w:World}
theorem Qx{f:FuncId}{args:List PVal}{r:PVal}(h:CC P GE f args r [])(hB:dQ GE Γ w)(hr:r.cl 0){vs:Array Value}(hs:vs.size=args.length)(hv:∀(t:Nat) p v,args[t]? =some p->vs[t]? =some v->VR Γ [] w p v):Calls P f vs w λe w'=>∃v Γ',e=.returned v/\Mv GE no Γ w Γ' w'/\VR Γ' [] w' r v:=by
 have hT:(cj [] λ_=>none)=λ_=>False:=funext λb=>propext ⟨λh=>by
  rcases h with⟨i,hi⟩|h
  ·simp at hi
  ·exact h rfl,λh=>h.elim⟩
 have hS:=hB.fresh (P:=P) (a:=vs) 0 hs hv
 refine(h.2.2 Γ [] (λ_=>none) w vs (by rw[hT];exact hS)).mono λe w' he=>?_
 obtain⟨v,Γ',ow',rfl,h'⟩:=he
 rw[hT]at h'
 exact⟨v,Γ',rfl,.of h',(h'.tm 0 _ v rfl rfl).clo hr⟩
end
section
variable{P:Program}{GE:List (Nat×List PVal)}{GD:List (Nat×List PVal)}{Γ:ax}{w:World}{e:TypeId}{α:Type}[SoundEq α]{c:α->List PVal}{ord:α->α->Option Int}
theorem PZ{fs fo:FuncId}(hS:N8 P fs (P.cellsOf e))(hcc:∀x y r,ord x y=some r->CC P GD fo [.agg (c x),.agg (c y)] (.int .i64 r) [])(hof:∀vs w,(callFunc fo vs).run P w=.ok (.enter fo vs) w)
  (hD:U1 GD=true) (hG:∀x,x∈GD↔x∈GE) (hcl:∀x,(c x).length=P.cellsOf e) (hkp:0<P.cellsOf e) (ho:∀x,∀q∈c x,q.one=true) {l r:List α} (hs:Eu ord l=some r) (hB:dQ GE Γ w) {v:Value} (h:fA P GE e Γ w (py c l) l.length v):
  Calls P fs #[v,.func (.func fo) #[] #[]] w λex w'=>ex=.returned (.tuple #[])/\Mv GE (λb=>v.ownBlock=some b) Γ w Γ w'/\fA P GE e Γ w' (py c r) r.length v:=by
 obtain⟨hokS,hrl⟩:=JT hs
 obtain⟨happ,hord,hO⟩:=DX hokS
 have hempty:l=[]->∀(p:Option Addr) cap,v=.slice p 0 cap->Calls P fs #[v,.func (.func fo) #[] #[]] w λex w'=>ex=.returned (.tuple #[])/\Mv GE (λb=>v.ownBlock=some b) Γ w Γ w'/\fA P GE e Γ w' (py c r) r.length v:=λhl p cap hv=>by
  subst hl
  have hr:r=[]:=vai hrl
  subst hr
  subst hv
  refine(hS.2.2 p cap _ w).mono λq w' hq=>?_
  obtain⟨rfl,rfl⟩:=hq
  exact⟨rfl,.refl hB,h⟩
 rcases h.form with⟨rfl,h0⟩|⟨g,cap,rfl⟩
 ·exact hempty (vai h0) _ _ rfl
 by_cases hl0:l=[]
 ·exact hempty hl0 (some ⟨g,0,none⟩) cap (by rw[hl0];rfl)
 have hN:0<l.length:=vcK.2 hl0
 obtain⟨xs,hown,hxl,hx1,hxv⟩:=h.row
 have hoff:=h.off g rfl
 rcases hown.2 with⟨hx,_⟩|⟨g',cap',cur,hx,_,hheap,hnc,hcm,hcs,htake⟩
 ·cases hx
 cases hx
 have hxsl:=hown.1
 generalize hkk:P.cellsOf e=k at *
 let cl:Nat->Nat:=λx=>if x<l.length then x else 0
 have hcl1:∀x,cl x<l.length:=λx=>by show(if x<l.length then x else 0)<_;split<;>omega
 have hcl0:∀x,x<l.length->cl x=x:=λx hx=>by show(if x<l.length then x else 0)=_;rw[vaA hx]
 let el:Nat->α:=λx=>l[cl x]'(hcl1 x)
 have hel:∀x,el x∈l:=λx=>vay (hcl1 x)
 let enc:Nat->List Value:=λx=>(xs.drop (cl x * k)).take k
 have hrow:∀x,cl x * k+k<=xs.length:=λx=>by
  rw[hxsl]
  have:(cl x+1) * k<=l.length * k:=vaK k (hcl1 x)
  rw[vaN,vbw]at this
  exact this
 have hencl:∀x,(enc x).length=k:=λx=>by
  show((xs.drop (cl x * k)).take k).length=k
  rw[vaV,vbf];have:=hrow x;omega
 have hencj:∀(x j:Nat),j<k->(enc x)[j]? =xs[cl x * k+j]?:=λx j hj=>by
  show((xs.drop (cl x * k)).take k)[j]? =_
  rw[vas hj,va6]
 have hencg:∀(x j:Nat),j<k->(enc x)[j]? =some ((enc x)[j]!):=λx j hj=>by
  rw[List.getElem!_eq_getElem?_getD,vaa (by rw[hencl];exact hj)];rfl
 have hone:∀x,∀u∈enc x,u.oneCell'=true:=λx u hu=>hx1 u (List.mem_of_mem_drop (vbR hu))
 have hget':∀j,(hj:j<l.length)->(l.map c)[j]? =some (c l[j]):=λj hj=>by rw[vax,vaa hj];rfl
 have hvre:∀(x j:Nat) q u,(c (el x))[j]? =some q->(enc x)[j]? =some u->VR Γ [] w q u:=λx j q u hq hu=>by
  have hj:j<k:=by have:=ag hq;rw[hcl]at this;exact this
  rw[hencj x j hj]at hu
  refine hxv (cl x * k+j) q u ?_ hu
  unfold py
  exact rQ (λy hy=>by obtain⟨z,_,rfl⟩:=vah.1 hy;exact hcl z) (hget' _ (hcl1 x)) hq
 let cf:Nat->Nat->Int:=λx y=>(ord (el x) (el y)).getD 0
 have hcf:∀x y,ord (el x) (el y)=some (cf x y):=λx y=>by
  obtain⟨z,hz⟩:=hord _ (hel x) _ (hel y)
  show _=some ((ord (el x) (el y)).getD 0)
  rw[hz];rfl
 have hlt:∀x y,ltOf cf x y=L4 ord (el x) (el y):=λx y=>by
  unfold ltOf L4
  rw[hcf x y]
 have hswo:SWO (ltOf cf):=⟨λx=>by rw[hlt];exact hO.irr _ (hel x),λx y z p q=>by rw[hlt]at *;exact hO.trans _ _ _ (hel x) (hel y) (hel z) p q,λx y z p q=>by rw[hlt]at *;exact hO.ntrans _ _ _ (hel x) (hel y) (hel z) p q⟩
 have hd0:(Array.range l.length).size=l.length:=by simp
 have hcellr:∀{W:World} {cu:Array Value},W.heap[g]? =some (.cells cu e (0,0))->∀o,W.cell? ⟨g,o,none⟩=cu[o]?:=λhW o=>cell_of_row _ g o _ e _ hW
 have hdm:∀o,o<l.length * k->o / k<l.length/\o % k<k/\o=o / k * k+o % k:=λo ho=>⟨vcF (by rw[vcb];exact ho),vcW _ hkp,(vcU o k).symm⟩
 have hcurx:∀o,o<l.length * k->cur[o]? =xs[o]?:=λo ho=>by
  rw[<-htake,vas ho];simp
 have hHold:HoldsK enc k w g 0 (Array.range l.length):=by
  intro j hj
  rw[size_flatK,hd0]at hj
  obtain⟨a1,a2,a3⟩:=hdm j hj
  refine⟨?_,frozen_of_row w g _ cur e hheap⟩
  rw[get_flatK _ _ _ _ (by rw[hd0];exact hj)]
  have e1:(Array.range l.length)[j / k]! =j / k:=by rw[getElem!_pos _ _ (by rw[hd0];exact a1)];simp
  rw[e1]
  show w.cell? ⟨g,0+j,none⟩=some ((enc (j / k))[j % k]!)
  rw[<-hencg _ _ a2,hencj _ _ a2,hcl0 _ a1,<-a3,vaG,hcellr hheap,hcurx j hj]
 have hmv:∀(m:Nat) (os:Array Obj) (dk:Array Nat),Mv GE (λb=>b=g) Γ w Γ (sortWorldK enc k w g 0 m dk os):=λm os dk=>
  Mv.raw hB rfl rfl rfl Ln (jV (vbI _ _)) (λb hb hn=>Lm hb hn) λb hb=>.inl (hb▸hoff)
 have hcmp:CmpLays P fo #[] enc k cf g 0 (Array.range l.length).size w:=by
  intro m os dk hdk x y
  have hm:=hmv m os dk
  generalize sortWorldK enc k w g 0 m dk os=W at hm
  have hagg:∀i,VR Γ [] W (.agg (c (el i))) (.agg (enc i).toArray):=λi=>.agg _ _ (by simp[hencl,hcl]) λj p v hp hv=>(hvre i j p v hp (by simpa using hv)).mono hm.le (.refl _)
  have hBD:dQ GD Γ W:=⟨hm.base.wi,λg cs hg=>hm.base.gl g cs ((hG _).1 hg),λg cs hg=>hm.base.gc g cs ((hG _).1 hg),λg cs hg=>hm.base.gx g cs ((hG _).1 hg)⟩
  refine(Qx (hcc _ _ _ (hcf x y)) hBD vzz (vs:=#[.agg (enc x).toArray,.agg (enc y).toArray]) rfl λt p v hp hv=>?_).mono λex w' he=>?_
  ·match t with
   |0=>simp at hp hv;subst hp;subst hv;exact hagg x
   |1=>simp at hp hv;subst hp;subst hv;exact hagg y
   |t+2=>simp at hp
  obtain⟨v,Γ',rfl,hM,hv⟩:=he
  cases hv
  refine⟨rfl,w'.drawn - W.drawn,w'.heap.extract W.heap.size w'.heap.size,?_⟩
  have h1:=hM.step.os
  have h2:=hM.step.tape
  have h3:=hM.step.output
  have h4:=hM.step.size
  have h5:=hM.step.drawn
  simp only[dr,hD,if_true]at h1 h2 h3 h4 h5
  have hheap:w'.heap=W.heap++w'.heap.extract W.heap.size w'.heap.size:=by
   apply vcO
   intro i
   by_cases hi:i<W.heap.size
   ·rw[vaT hi,hM.keep hi id]
   ·rw[vbO (by omega)]
    by_cases hi2:i<w'.heap.size
    ·rw[vcs]
     rw[vaA (by omega)]
     congr 1;omega
    ·rw[vbr (by omega),vbr (by simp;omega)]
  show w'={heap:=W.heap++_,tape:=W.tape,drawn:=W.drawn+(w'.drawn - W.drawn),os:=W.os,output:=W.output}
  rw[<-hheap,show W.drawn+(w'.drawn - W.drawn)=w'.drawn by omega,<-h1,<-h2,<-h3]
 have happ2:l.length<4611686018427387904:=by unfold cy at happ;omega
 have hcall:=hS.2.1 enc cf fo g cap (Array.range l.length) w hencl hone hswo hof hcmp hHold hoff.2.1 (by rw[hd0];exact happ2)
 rw[hd0]at hcall
 refine hcall.mono λq w' hr=>?_
 obtain⟨rfl,d',n',os,hperm,hsorted,rfl⟩:=hr
 have hd'0:d'.size=l.length:=hperm.1.trans hd0
 have hm:=hmv n' os d'
 have hrowW:=NJ (enc:=enc) (k:=k) (m:=n') (dk:=d') (os:=os) hheap
 have hholdW:HoldsK enc k (sortWorldK enc k w g 0 n' d' os) g 0 d':=holdsK_sortWorldK_c enc k w g 0 _ d' n' os hHold hoff.2.1 hperm.1
 generalize sortWorldK enc k w g 0 n' d' os=W at hm hrowW hholdW
 have hcsW:(putCells id 0 (flatK enc k d') cur).size=cap * k:=by rw[<-hcs];simp[putCells]
 generalize putCells id 0 (flatK enc k d') cur=cu at hrowW hcsW
 have hrd:d'.toList.map el=r:=by
  refine Ip hs ?_ ?_
  ·have hp:=hperm.2.2
   have e1:d'.extract 0 l.length=d':=by rw[<-hd'0];exact vcP
   have e2:(Array.range l.length).extract 0 l.length=Array.range l.length:=by
    have:(Array.range l.length).extract 0 (Array.range l.length).size=Array.range l.length:=vcP
    rwa[hd0]at this
   rw[e1,e2]at hp
   have h3:(Array.range l.length).toList.map el=l:=by
    rw[Array.toList_range]
    refine vbi λj=>?_
    by_cases hj:j<l.length
    ·rw[vax,vbk hj,vaa hj]
     show some (l[cl j]'(hcl1 j))=some l[j]
     congr 1
     simp only[hcl0 j hj]
    ·rw[vaU (by simp;omega),vaU (by omega)]
   rw[<-h3]
   exact hp.map el
  ·unfold E0
   rw[List.pairwise_map,List.pairwise_iff_getElem]
   intro x y hx hy hxy
   have hx':x<d'.size:=by simpa using hx
   have hy':y<d'.size:=by simpa using hy
   have:=hsorted x y (vaQ _) hxy (by rw[<-hd'0];exact hy')
   rw[getElem!_pos d' x hx',getElem!_pos d' y hy',hlt]at this
   simpa using this
 have hri:∀x,(hx:x<l.length)->(r.map c)[x]? =some (c (el d'[x]!)):=λx hx=>by
  rw[<-hrd,List.map_map,vax]
  have hxd:x<d'.size:=by rw[hd'0];exact hx
  rw[va0,vaE hxd,getElem!_pos d' x hxd]
  rfl
 have hnk:l.length * k<=cap * k:=vaK k hnc
 have hcuL:cu.toList.length=cap * k:=by rw[<-hcsW];exact Array.length_toList
 have hcux:∀o,o<l.length * k->cu[o]? =(enc d'[o / k]!)[o % k]?:=λo ho=>by
  obtain⟨a1,a2,a3⟩:=hdm o ho
  have:=(hholdW.cell (i:=o / k) (c:=o % k) (by rw[hd'0];exact a1) a2).1
  rw[hcellr hrowW,vaG,<-a3]at this
  rw[this,<-hencg _ _ a2]
 refine⟨rfl,hm.mono λb hb=>.inl (by rw[hb];rfl),⟨cu.toList.take (r.length * k),⟨?_,.inr ⟨g,cap,cu,by rw[hrl],vaQ _,hrowW,by rw[hrl];exact hnc,hcm,hcsW.trans (by rw[hkk]),by rw[hkk]⟩⟩,?_,λu hu=>?_,λo p u hp hu=>?_⟩,λb hb=>?_⟩
 ·rw[vaV,hcuL,hkk,hrl];omega
 ·rw[vaV,hcuL]
  have:(py c r).length=r.length * k:=by
   unfold py
   rw[flat_len (sz:=k) λx hx=>by obtain⟨z,_,rfl⟩:=vah.1 hx;exact hcl z,vbD]
  rw[this,hrl];omega
 ·obtain⟨o,ho⟩:=vbC hu
  have hol:o<l.length * k:=by have:=ag ho;rw[vaV,hrl]at this;omega
  rw[vas (by rw[hrl];exact hol),va0,hcux o hol]at ho
  exact hone _ u (vaq ho)
 ·have hol:o<l.length * k:=by have:=ag hu;rw[vaV,hrl]at this;omega
  obtain⟨a1,a2,a3⟩:=hdm o hol
  rw[vas (by rw[hrl];exact hol),va0,hcux o hol]at hu
  have hjl:o % k<(c (el d'[o / k]!)).length:=by rw[hcl];exact a2
  have hq:=rQ (sz:=k) (es:=r.map c) (λx hx=>by obtain⟨z,_,rfl⟩:=vah.1 hx;exact hcl z) (hri _ a1) (vaa hjl)
  rw[<-a3]at hq
  have hp:(r.map c).flatten[o]? =some p:=hp
  rw[hp]at hq
  exact(hvre _ _ p u (by rw[vaa hjl];exact hq.symm) hu).mono hm.le (.refl _)
 ·simp[Value.ownBlock]at hb;subst hb
  exact⟨hoff.1,vaF hoff.2.1 hm.size,hoff.2.2⟩
end
set_option linter.defProp false
abbrev Qk:List (Nat×List PVal):=match GE with
 |a::r=>a::a::r
 |[]=>[]
abbrev Lv(f:FuncId)(args:List PVal){R:Type}(o:Option R)(res:R->PVal)(ro:List (Nat×TypeId)):Prop:=Tl Pg Qk f args o res ro
abbrev Wv(m:Nat)(c:Code){X:Type}(o:Option X)(ex:X->Exit)(so:X->az)(st:az):Prop:=Vd Pg Qk m c o ex so st
abbrev Ve(m:Nat)(c:Code){σ X:Type}(o:Option (σ⊕X))(S:σ->az)(ex:X->Exit)(so:X->az)(st:az):Prop:=Tk Pg Qk m c o S ex so st
abbrev jb(R:cO):Prop:=∀(a:aa) (a2:aa),Lv 20 [.agg (ac a),.agg (ac a2)] (R a a2) (λr=>.int .i64 r) []
abbrev p5(R:gM):Prop:=∀(v:aa),Lv 22 [.agg (ac v)] (R v) (λr=>.int .i64 r) []
section
variable(R23:gM)(t7:(List aa))(t8:Int)(n:Int)(t9:Int)
theorem xX(hR23:p5 R23):Ve 0 (cA Vp 119) (dT R23 t7 t8 n t9) (λ(zz:Int×Int)=>ij t7 t8 zz.1 zz.2) (λ_=>.exit 0) mK (ij t7 t8 n t9):=UT.lx<|
 tF (tb λx2 bx2=>tb λr3 br3=>tv (bz.ia (k:=.i64) bx2)<|tv (aK x2)<|tx wo<|tx (dG x2)<|tv (aF x2 [])<|bV (hR23 _ _ br3)<|tE)<|tE
def zD(hR23:p5 R23):=uO (s:=(n,t9)) λzz=>xX R23 t7 t8 zz.1 zz.2 hR23
end
theorem Cs(R23:gM)(hR23:p5 R23){v:aa}:Lv 22 [.agg (ac v)] (kU R23 v) (λr=>.int .i64 r) []:=UT.v<|
 tb λo4 bo4=>te (dP v)<|tw (bh v)<|cE (bz.ln v.Kids)<|eo (zD R23 v.Kids (v.Kids.length:Int) 1 0 hR23 _ bo4)<|tE
theorem vC{v:aa}:Lv 22 [.agg (ac v)] (ly v) (λr=>.int .i64 r) []:=pM λ_ h=>
 cV (F:=nC) (M:=λ(x:aa) (r:Int)=>CC Pg Qk 22 [.agg (ac x)] (.int .i64 r) []) (λrec hrec x r h=>Cs _ (λv=>pM λr h=>hrec v r h) _ h) h
theorem wE{a:Int}:Lv 80 [.int .i64 a] (qC a) (λr=>.bool r) []:=WM.v<|
 tE
theorem sJ{a:Int}{a2:Int}:Lv 57 [.int .i64 a,.int .i64 a2] (km a a2) (λr=>.int .i64 r) []:=WE.v<|
 tb λr1 br1=>tb λr2 br2=>bV (wE _ br1)<|bV (wE _ br2)<|tF (tF tE<|tE)<|tF tE<|tF tE<|tF tE<|tE
theorem sL{a:Int}:Lv 81 [.int .i64 a] (lX a) (λr=>.bool r) []:=WN.v<|
 tE
theorem yC{a:Int}{a2:Int}:Lv 58 [.int .i64 a,.int .i64 a2] (jM a a2) (λr=>.int .i64 r) []:=WF.v<|
 tb λr1 br1=>tb λr2 br2=>bV (sL _ br1)<|bV (sL _ br2)<|tF (tF tE<|tE)<|tF tE<|tF tE<|tF tE<|tE
theorem sM{a:ai}:Lv 82 [.str a] (lY a) (λr=>.bool r) []:=WO.v<|
 tE
theorem yD{a:ai}{a2:ai}:Lv 59 [.str a,.str a2] (jN a a2) (λr=>.int .i64 r) []:=WG.v<|
 tb λr1 br1=>tb λr2 br2=>bV (sM _ br1)<|bV (sM _ br2)<|tF (tF tE<|tE)<|tF tE<|tF tE<|tF tE<|tE
section
variable(t6:(List Int))(t7:Int)(t8:Int)
theorem Dq:Ve 0 (cA TM 119) (eS t6 t7 t8) (λ(zz:Int)=>kn t6 t7 zz) pq pr (kn t6 t7 t8):=UV.l<|
 tF (tb λx2 bx2=>tv (GZ.ia (k:=.i64) bx2)<|tv (AL Xi (.int .i64 x2) [])<|tF tE<|tE)<|tE
theorem wD:Wv 0 (.loop (cA TM 119)) (vJ t6 t7 t8) pq pr (kn t6 t7 t8):=Iy λ_=>Dq _ _ _
end
theorem Ko{vals:(List Int)}:Lv 56 [sl (cI .i64) vals] (Dp vals) (λr=>.int .i64 r) []:=UV.v<|
 cE (GZ.ln vals)<|t2 (λo4 bo4=>eo (wD vals (vals.length:Int) 0 _ bo4)<|tE) λo4 bo4=>eo (wD vals (vals.length:Int) 0 _ bo4)<|tE
section
variable(R22:cO)(s1:(List aa))(s2:(List aa))(t12:Int)(t13:Int)
theorem oz(hR22:jb R22):Ve 0 (cA TN 55) (bC R22 s1 s2 t12 t13) (λ(zz:Int)=>cm s1 s2 t12 zz) eB (dq s1 s2) (cm s1 s2 t12 t13):=UW.lx<|
 tF (tb λx2 bx2=>tv (bz.ia (k:=.i64) bx2)<|tv (aK x2)<|tx wo<|tx (dG x2)<|cE (bz.ln s2)<|tF tE<|tb λx4 bx4=>tb λr5 br5=>tv (bz.ia (k:=.i64) bx4)<|tv (aK x4)<|tx wo<|tx (dG x4)<|tv (aF x2 [])<|tv (aF x4 [])<|bV (hR22 _ _ _ br5)<|tF tE<|tE)<|tE
theorem jz(hR22:jb R22):Wv 0 (.loop (cA TN 55)) (fw R22 s1 s2 t12 t13) eB (dq s1 s2) (cm s1 s2 t12 t13):=Iy λ_=>oz _ _ _ _ _ hR22
end
theorem sj(R22:cO)(hR22:jb R22){s1:(List aa)}{s2:(List aa)}:Lv 60 [sl ac s1,sl ac s2,.func (.func 20) [] []] (fi R22 s1 s2) (λr=>.int .i64 r) []:=UW.v<|
 cE (bz.ln s1)<|t2 (λo7 bo7=>eo (jz R22 s1 s2 (s1.length:Int) 0 hR22 _ bo7)<|tE) λo7 bo7=>eo (jz R22 s1 s2 (s1.length:Int) 0 hR22 _ bo7)<|cE (bz.ln s1)<|cE (bz.ln s2)<|tF tE<|tE
theorem xU(R22:cO)(hR22:jb R22){a:aa}{a2:aa}:Lv 20 [.agg (ac a),.agg (ac a2)] (ii R22 a a2) (λr=>.int .i64 r) []:=Wx.v<|
 tb λr1 br1=>tb λr2 br2=>tb λr3 br3=>tb λr4 br4=>tb λr5 br5=>tb λr6 br6=>tb λr7 br7=>te (dP a)<|te (dP a2)<|tK [0,1,0,7,15,0,32,0,128,511,0,1024,0,4096,16383,0,32768,0,131072,524287,1048575,2097151,4194303]<|tv (aK a)<|bV (vC _ br1)<|tv (aK a2)<|bV (vC _ br2)<|bV (sJ _ br3)<|tw (bA a)<|tw (bA a2)<|bV (yC _ br4)<|tw (aS a)<|tw (aS a2)<|bV (sJ _ br5)<|tw (bJ a)<|tw (bJ a2)<|bV (yD _ br6)<|tv (GZ.mk' (v:=(PVal.int .i64)) (Xc .i64) ([r3,r4,r5,r6]:List Int) 4 (by kernel_rfl))<|bV (Ko _ br7)<|tF tE<|tb λr9 br9=>tw (bh a)<|tw (bh a2)<|bV (sj R22 hR22 _ br9)<|tE
theorem zy{a:aa}{a2:aa}:Lv 20 [.agg (ac a),.agg (ac a2)] (ek a a2) (λr=>.int .i64 r) []:=pM λ_ h=>
 cV (F:=j2) (M:=λ(x:aa×aa) (r:Int)=>CC Pg Qk 20 [.agg (ac x.1),.agg (ac x.2)] (.int .i64 r) []) (λrec hrec x r h=>xU _ (λa a2=>pM λr h=>hrec (a,a2) r h) _ h) h
theorem QM:U1 Qk=true:=by kernel_rfl
theorem Ql(x:Nat×List PVal):x∈Qk↔x∈GE:=by
 unfold Qk
 split
 ·rename_i a r e
  rw[e]
  simp
 ·rename_i e
  rw[e]
abbrev WZ:Nat:=96
abbrev W2:Nat:=99
abbrev VU:Nat:=20
abbrev tM:Nat:=133
noncomputable def Qt:Code:=f67.body.getD .skip
abbrev Xe:Code:=bg Qt [false]
abbrev Xf:Code:=bg Qt [true,false]
abbrev Mj:Code:=bg Qt [true,true,false,false]
abbrev Xg:Code:=bg Qt [true,true,false,true,false]
abbrev Xh:Code:=bg Qt [true,true,false,true,true,false,false]
abbrev sX:Code:=bg Qt [true,true,true]
abbrev UD:Code:=bg sX [false]
abbrev U7:Code:=bg sX [true,false,false]
abbrev N0:Code:=bg sX [true,false,true,true]
abbrev s7:Code:=bg N0 [false]
abbrev UA:Code:=bg N0 [true,false,false]
abbrev Cl:Code:=bg N0 [true,false,true,false]
abbrev UB:Code:=bg N0 [true,true,false]
abbrev S6:Code:=bg N0 [true,true,true,false,false]
abbrev S7:Code:=bg N0 [true,true,true,false,true,false]
abbrev AP:Code:=bg N0 [true,true,true,false,true,true,false]
abbrev sY:Code:=bg sX [true,true]
abbrev JQ:Code:=bg sY [false]
abbrev xK:Code:=bg sY [true,false]
abbrev FJ:Code:=bg sY [true,true,false]
abbrev UC:Code:=bg sY [true,true,true,false]
abbrev NE(c:Code)(b:Bool):Code:=.region (wJ c) (bW c) b
theorem Sp:Qt=.seq Xe (.seq Xf (.seq (.seq (NE Mj false) (.seq Xg (.cond (.tmp 26) (.seq Xh .ret) .skip))) sX)):=by kernel_rfl
theorem UH:sX=.seq (NE UD false) (.seq (.seq U7 (.block 0 N0)) sY):=by kernel_rfl
theorem S5:N0=.seq s7 (.cond (.tmp 30) (.seq UA (.cond (.tmp 35) (NE Cl false) .skip)) (.seq UB (.cond (.tmp 39) (.seq S6 (.seq S7 (.cond (.tmp 55) (NE AP false) .skip))) .skip))):=by kernel_rfl
theorem UI:sY=.seq (NE JQ false) (.seq (NE xK false) (.seq (NE FJ false) (.seq UC .ret))):=by kernel_rfl
abbrev jF(m:am)(mb:Nat)(t:ae)(size:Int)(L:List (Nat×PVal)):List PVal:=(cc 72 ((2,.int .i64 size)::(3,.eptr (pT m mb))::(4,.eptr (af t))::(6,.slice [])::L) [] []).tmps
theorem p8(m:am)(mb:Nat)(t:ae)(size:Int){L:List (Nat×PVal)}(h:IS 0 L):dU 0 (jF m mb t size L):=pp ⟨vzz,p9 m mb,(show dU 0 (af t)from dD t),(ba cq []:(sl ac []).cl 0),h⟩
section
variable(m:am)(mb:Nat)(t:ae)(size:Int)(key:ai)(l:List aa)(b:Bool)(v:Value)(d:aM)
theorem Yh:cQ Pg GE 0 Xe (EX .normal ⟨jF m mb t size [],[.dead,.dead],[]⟩) (cc 72 [(0,.agg (pT m mb)),(1,.agg (af t)),(2,.int .i64 size)] [] []):=by
 have z:=se (rfl:bv (.agg (pT m mb))=some (pT m mb))<|se (rfl:bv (.agg (af t))=some (af t))<|eF .normal ⟨jF m mb t size [],[.dead,.dead],[]⟩
 exact cN (A:=[]) mixed z (by kernel_rfl)
theorem Yi{tx k1 nt:ai}(h1:xS t=some tx)(h2:Iw tx [32]=some k1)(h3:uM size=some nt)(h4:Iw k1 nt=some key):cQ Pg GE 0 Xf (EX .normal ⟨jF m mb t size [(7,.str key)],[],[]⟩) ⟨jF m mb t size [],[],[]⟩:=by
 have z:=sv (fT t)<|Ta (FQ tx h1)<|sv (kS (P:=Pg) (t:=9) h2)<|Ta (uN nt h3)<|sv (kS (P:=Pg) (t:=9) h4)<|eF .normal ⟨jF m mb t size [(7,.str key)],[],[]⟩
 exact cN (A:=[]) mixed z (by kernel_rfl)
theorem Yk:cQ Pg GE 0 Xg (EX .normal ⟨jF m mb t size [(7,.str key),(8,sl ac l),(9,.bool b),(26,.bool b)],[],[]⟩) ⟨jF m mb t size [(7,.str key),(8,sl ac l),(9,.bool b)],[],[]⟩:=by
 have z:=eF .normal ⟨jF m mb t size [(7,.str key),(8,sl ac l),(9,.bool b),(26,.bool b)],[],[]⟩
 exact cN (A:=[]) mixed z (by kernel_rfl)
theorem Yl:cQ Pg GE 0 (.seq Xh .ret) (EX .ret (cc 72 [(6,sl ac l)] [] [])) ⟨jF m mb t size [(7,.str key),(8,sl ac l)],[],[]⟩:=by
 have z:=eF .ret (cc 72 [(6,sl ac l)] [] [])
 exact cN (A:=[]) mixed z (by kernel_rfl)
theorem Ym:cQ Pg GE 0 U7 (EX .normal ⟨jF m mb t size [(7,.str key),(10,.val v),(29,.int .i64 t.Op)],[],[]⟩) ⟨jF m mb t size [(7,.str key),(10,.val v)],[],[]⟩:=by
 have z:=sv (wI t)<|sv (wL t)<|eF .normal ⟨jF m mb t size [(7,.str key),(10,.val v),(29,.int .i64 t.Op)],[],[]⟩
 exact cN (A:=[]) mixed z (by kernel_rfl)
theorem Yn:cQ Pg GE 0 s7 (EX .normal ⟨jF m mb t size [(7,.str key),(10,.val v),(29,.int .i64 t.Op),(30,.bool ((t.Op==1)||(t.Op==3)||(t.Op==2)))],[],[]⟩) ⟨jF m mb t size [(7,.str key),(10,.val v),(29,.int .i64 t.Op)],[],[]⟩:=by
 cases c1:(t.Op==1)with
 |true=>
  have z:=sg 0 c1<|eF .normal ⟨jF m mb t size [(7,.str key),(10,.val v),(29,.int .i64 t.Op),(30,.bool (t.Op==1))],[],[]⟩
  have:cQ Pg GE 0 s7 (EX .normal ⟨jF m mb t size [(7,.str key),(10,.val v),(29,.int .i64 t.Op),(30,.bool (t.Op==1))],[],[]⟩) ⟨jF m mb t size [(7,.str key),(10,.val v),(29,.int .i64 t.Op)],[],[]⟩:=cN (A:=[]) mixed z (by kernel_rfl)
  rw[c1]at this
  exact this
 | false =>
  cases c2:(t.Op==3)with
  |true=>
   have z:=sg 0 c1<|sg 0 c2<|eF .normal ⟨jF m mb t size [(7,.str key),(10,.val v),(29,.int .i64 t.Op),(30,.bool (t.Op==3))],[],[]⟩
   have:cQ Pg GE 0 s7 (EX .normal ⟨jF m mb t size [(7,.str key),(10,.val v),(29,.int .i64 t.Op),(30,.bool (t.Op==3))],[],[]⟩) ⟨jF m mb t size [(7,.str key),(10,.val v),(29,.int .i64 t.Op)],[],[]⟩:=cN (A:=[]) mixed z (by kernel_rfl)
   rw[c2]at this
   exact this
  |false=>
   have z:=sg 0 c1<|sg 0 c2<|eF .normal ⟨jF m mb t size [(7,.str key),(10,.val v),(29,.int .i64 t.Op),(30,.bool (t.Op==2))],[],[]⟩
   have:cQ Pg GE 0 s7 (EX .normal ⟨jF m mb t size [(7,.str key),(10,.val v),(29,.int .i64 t.Op),(30,.bool (t.Op==2))],[],[]⟩) ⟨jF m mb t size [(7,.str key),(10,.val v),(29,.int .i64 t.Op)],[],[]⟩:=cN (A:=[]) mixed z (by kernel_rfl)
   exact this
theorem Wf:cQ Pg GE 0 UA (EX .normal ⟨jF m mb t size [(7,.str key),(10,.val v),(35,.bool (size==1))],[],[]⟩) ⟨jF m mb t size [(7,.str key),(10,.val v)],[],[]⟩:=by
 have z:=eF .normal ⟨jF m mb t size [(7,.str key),(10,.val v),(35,.bool (size==1))],[],[]⟩
 exact cN (A:=[]) mixed z (by kernel_rfl)
theorem Wh:cQ Pg GE 0 UB (EX .normal ⟨jF m mb t size [(7,.str key),(10,.val v),(39,.bool (t.Op==4))],[],[]⟩) ⟨jF m mb t size [(7,.str key),(10,.val v),(29,.int .i64 t.Op)],[],[]⟩:=by
 have z:=eF .normal ⟨jF m mb t size [(7,.str key),(10,.val v),(39,.bool (t.Op==4))],[],[]⟩
 exact cN (A:=[]) mixed z (by kernel_rfl)
theorem Wi{r:aM×Bool}(h:vj m t.Name=some r):cQ Pg GE 0 S6 (EX .normal ⟨jF m mb t size [(7,.str key),(10,.val v),(11,.eptr (ay r.1)),(12,.bool r.2)],[.dead],[]⟩) ⟨jF m mb t size [(7,.str key),(10,.val v)],[],[]⟩:=by
 have hx:ay r.1=[.str r.1.Name,sl cS r.1.Vars,sl bT r.1.Preds,sl aG r.1.Cons]:=kE r.1
 have z:=sv (Hv m mb)<|sv (HM m mb)<|sv (Fk t)<|sv (HO t)<|Ta (Ev r h)<|sx FI<|sx (iy r.1)<|eF .normal ⟨jF m mb t size [(7,.str key),(10,.val v),(11,.bptr 0 0),(12,.bool r.2)],[.cells [.str r.1.Name,sl cS r.1.Vars,sl bT r.1.Preds,sl aG r.1.Cons] []],[]⟩
 have h1:cQ Pg GE 0 S6 (EX .normal ⟨jF m mb t size [(7,.str key),(10,.val v),(11,.bptr 0 0),(12,.bool r.2)],[.cells [.str r.1.Name,sl cS r.1.Vars,sl bT r.1.Preds,sl aG r.1.Cons] []],[]⟩) ⟨jF m mb t size [(7,.str key),(10,.val v)],[],[]⟩:=cN (A:=[]) mixed z (by kernel_rfl)
 have hcl:dU 0 ([.str r.1.Name,sl cS r.1.Vars,sl bT r.1.Preds,sl aG r.1.Cons]:List PVal):=by rw[<-hx];exact gZ r.1
 have z2:=Wp 0 [[.str r.1.Name,sl cS r.1.Vars,sl bT r.1.Preds,sl aG r.1.Cons]] [2,3,4,6,7,10,11,12] [] (VV (m:=0) (b:=0) rfl [.str r.1.Name,sl cS r.1.Vars,sl bT r.1.Preds,sl aG r.1.Cons] rfl) (VW 0 (l:=[.str r.1.Name,sl cS r.1.Vars,sl bT r.1.Preds,sl aG r.1.Cons]) hcl) (VX (l:=[.str r.1.Name,sl cS r.1.Vars,sl bT r.1.Preds,sl aG r.1.Cons]) (r:=[.str r.1.Name,sl cS r.1.Vars,sl bT r.1.Preds,sl aG r.1.Cons]) rfl)<|sf (KQ 0 (p:=pT m mb) (p9 m mb))<|sf (KQ 0 (p:=af t) (dD t))<|sf (U4 0 (p:=.slice []) (ba cq []:(sl ac []).cl 0))<|en (fr ⟨jF m mb t size [(7,.str key),(10,.val v),(11,.eptr [.str r.1.Name,sl cS r.1.Vars,sl bT r.1.Preds,sl aG r.1.Cons]),(12,.bool r.2)],[.dead],[]⟩)
 rw[hx]
 exact h1.thenW (VY z2 (by kernel_rfl))
theorem UJ:cQ Pg GE 0 S7 (EX .normal ⟨jF m mb t size [(7,.str key),(10,.val v),(55,.bool false)],[],[]⟩) ⟨jF m mb t size [(7,.str key),(10,.val v),(11,.eptr (ay d)),(12,.bool false)],[],[]⟩:=by
 have z:=sg 2 (rfl:false=false)<|eF .normal ⟨jF m mb t size [(7,.str key),(10,.val v),(55,.bool false)],[],[]⟩
 exact cN (A:=[]) mixed z (by kernel_rfl)
theorem UK:cQ Pg GE 0 S7 (EX .normal ⟨jF m mb t size [(7,.str key),(10,.val v),(11,.eptr (ay d)),(55,.bool ((t.Args.length:Int)==0))],[],[]⟩) ⟨jF m mb t size [(7,.str key),(10,.val v),(11,.eptr (ay d)),(12,.bool true)],[],[]⟩:=by
 have z:=sg 2 (rfl:true=true)<|sv (Fl t)<|sv (Fu t)<|U8 (fe.ln t.Args)<|eF .normal ⟨jF m mb t size [(7,.str key),(10,.val v),(11,.eptr (ay d)),(55,.bool ((t.Args.length:Int)==0))],[],[]⟩
 exact cN (A:=[]) mixed z (by kernel_rfl)
theorem Wn:cQ Pg GE 0 (.seq UC .ret) (EX .ret (cc 72 [(6,sl ac l)] [] [])) (cc 72 [(10,sl ac l)] [] []):=by
 have z:=eF .ret (cc 72 [(6,sl ac l)] [] [])
 exact cN (A:=[]) mixed z (by kernel_rfl)
end
section
variable{mb:Nat}{K:fq}{Γ:ax}{w:World}
theorem Xb{mb:Nat}:∀b,cj [some mb] (λ_=>none) b↔b=mb:=λb=>⟨λh=>by
  rcases h with⟨i,hi⟩|h
  ·cases i with
   |zero=>simpa using hi.symm
   |succ i=>simp at hi
  ·exact absurd rfl h,λh=>.inl ⟨0,by rw[h];rfl⟩⟩
theorem Uk(hB:dQ GE Γ w)(hk:KM mb K Γ w):SR Pg ⟨GE,Γ,w,cj [some mb] λ_=>none⟩ Γ [some mb] (λ_=>none) w #[] ⟨[],[.map (jO (sl ac) K)],[]⟩:={
 wi:=hB.wi
 sz:=rfl
 tm:=λi p v hp hv=>by simp at hp
 bl:=rfl
 bx:=λi b B hb hBx=>by
  cases i with
  |zero=>
   simp at hb hBx;subst hb;subst hBx
   exact⟨hk.off.1,hk.off.2.1,hk.br.up⟩
  |succ i=>simp at hb
 inj:=λi j b hi hj=>by
  cases i<;>cases j<;>simp at hi hj ⊢
 bn:=λi b hb=>.inl (.inl ⟨i,hb⟩)
 on:=λb L hL=>by cases hL
 ot:=λt k e he=>by simp at he
 ob:=λi j e cs own b hBx=>by
  cases i<;>simp at hBx
 gl:=λg cs hg=>(hB.gl g cs hg).mono (.refl _ _) (λi b h=>by simp at h)
 gc:=hB.gc
 gx:=λg cs hg=>⟨(hB.gx g cs hg).1,λh=>hk.off.2.2 g cs hg ((Xb g).1 h),(hB.gx g cs hg).2⟩
 step:=.refl _ _ _ _}
theorem UN:Pg.underlying tM=some (.map 9 tV):=underlying133
theorem MZ(hB:dQ GE Γ w)(hk:KM mb K Γ w){k:ai}{vk:Value}(hvk:VR Γ [] w (.str k) vk):∃u,(Instr.lookup tM (.map (some mb)) vk true).run Pg w=.ok u w/\VR Γ [] w (.tuple [sl ac ((rW K k).getD []),.bool (rW K k).isSome]) u:=by
 obtain⟨u,h1,h2⟩:=Bz (Uk hB hk) (.mapr 0 mb rfl) (hvk.mono (.refl _ _) (λi b h=>by simp at h)) (GR (i:=0) rfl (Q3 UN (P:=Pg) underlying9 (f:=sl ac) (z:=[]) (by kernel_rfl) K k))
 exact⟨u,h1,h2.clo ⟨ba cq _,vzz,vzz⟩⟩
theorem M0(hB:dQ GE Γ w)(hk:KM mb K Γ w){k:ai}{vk vu:Value}{l:List aa}(hvk:VR Γ [] w (.str k) vk)(hvu:VR Γ [] w (sl ac l) vu):∃w',(Instr.mapUpdate tM (.map (some mb)) vk vu).run Pg w=.ok () w'/\Mv GE (λb=>b=mb) Γ w Γ w'/\KM mb (HS K k l) Γ w':=by
 have up:∀{p v},VR Γ [] w p v->VR Γ [some mb] w p v:=λh=>h.mono (.refl _ _) (λi b h=>by simp at h)
 obtain⟨w',h1,h2,_⟩:=uW (Uk hB hk) (t:=tM) (.mapr 0 mb rfl) (up hvk) (up hvu) (Ee (i:=0) rfl (SO (P:=Pg) UN underlying9 (f:=sl ac) K k l))
 obtain⟨k1,k2,k3⟩:=h2.bx 0 mb _ rfl rfl
 exact⟨w',h1,(Mv.of h2).mono λb hb=>.inl ((Xb b).1 hb),⟨k1,k2,hk.off.2.2⟩,k3.down (Kf _)⟩
end
def I2(y:aa):Bool:=y.Kids.isEmpty&&y.Params.isEmpty&&y.Body.isEmpty&&y.Binds.isEmpty
theorem QP{y:aa}(h:I2 y=true):ac y=[.int .i64 y.Op,.int .i64 y.N,.str y.Name,.slice [],.slice [],.slice [],.slice []]:=by
 simp only[I2,vae,vb4]at h
 obtain⟨⟨⟨h1,h2⟩,h3⟩,h4⟩:=h
 rw[aZ,h1,h2,h3,h4];rfl
theorem VR.flat{Γ Γ':ax}{bs bs':bp}{w w':World}{p:PVal}{v:Value}(hp:(∃n,p=.int .i64 n)\/(∃s,p=.str s)\/p=.slice [])(h:VR Γ bs w p v):VR Γ' bs' w' p v:=by
 rcases hp with⟨n,rfl⟩|⟨s,rfl⟩|rfl
 ·cases h;exact .int _ _
 ·cases h;exact .str _
 ·generalize he:([]:List (List PVal))=es at h
  cases h with
  |sliceNil=>exact .sliceNil
  |sliceE a cap=>exact .sliceE a cap
  |slice _ b off cap n sz vals h0 hcap hg hn hsz hc hv=>subst he;exact .sliceE _ _
theorem J9{op:Int}{l:List aa}{Γ:ax}{w:World}(h:pY op=some l)(hf:l.all I2=true)(hB:dQ GE Γ w):Calls Pg WZ #[.int .i64 op] w λe w'=>∃v Γ',e=.returned v/\Mv GE no Γ w Γ' w'/\fA Pg GE eV Γ' w' (py ac l) l.length v/\∀b,v.ownBlock=some b->w.heap.size<=b:=by
 have hT:(cj [] λ_=>none)=λ_=>False:=funext λb=>propext ⟨λh=>by
  rcases h with⟨i,hi⟩|h
  ·simp at hi
  ·exact h rfl,λh=>h.elim⟩
 have hS:=hB.fresh (P:=Pg) (a:=#[.int .i64 op]) (tmps:=[.int .i64 op]) 0 rfl λt p v hp hv=>by
  match t with
  |0=>simp at hp hv;subst hp;subst hv;exact .int _ _
  |t+1=>simp at hp
 refine((EJ l h).2.2 Γ [] (λ_=>none) w _ (by rw[hT];exact hS)).mono λe w' he=>?_
 obtain⟨v0,Γ',ow',rfl,h'⟩:=he
 rw[hT]at h'
 obtain⟨u,v,hu,hpv,⟨n,xs,hown,hgh⟩,how⟩:=h'.ot 0 0 36 (by simp)
 obtain rfl:v0=u:=by simpa using hu
 have hvr:VR Γ' [] w' (sl ac l) v0:=h'.tm 0 _ _ rfl rfl
 have hm0:Mv GE no Γ w Γ' w':=.of h'
 have hsl:v=v0:=by
  unfold sl at hvr
  generalize l.map ac=es at hvr
  cases hvr<;>·simp[eW]at hpv;exact hpv.symm
 subst hsl
 have hge:∀b,v.ownBlock=some b->w.heap.size<=b/\b<w'.heap.size:=λb hb=>by
  have:=h'.on b _ (how b hb)
  exact⟨this.2.resolve_left id,this.1⟩
 let Γ2:ax:=λb=>if v.ownBlock=some b then none else Γ' b
 have hle:Γ.Le w Γ2 w':=λb m hb hm=>by
  obtain⟨m',k1,k2,k3⟩:=hm0.le b m hb hm
  refine⟨m',?_,k2,k3⟩
  show(if v.ownBlock=some b then none else Γ' b)=_
  rw[vaz λhx=>by have:=(hge b hx).1;have:=hB.lt hb;omega]
  exact k1
 have hm:Mv GE no Γ w Γ2 w':=⟨hB.world hle (λb m hb=>by
   have hb:(if v.ownBlock=some b then none else Γ' b)=some m:=hb
   split at hb
   ·cases hb
   ·exact hm0.base.wi b m hb) hm0.size (λg cs hg=>hm0.keep (hB.gx g cs hg).1 id),{hm0.step with
  keep:=λb hb hn=>⟨hm0.keep hb hn,by
   show(if v.ownBlock=some b then none else Γ' b)=_
   rw[vaz λhx=>by have:=(hge b hx).1;have hb:b<w.heap.size:=hb;omega]
   exact hm0.gk hb hn⟩
  le:=hle}⟩
 have hflat:∀q∈py ac l,(∃n,q=.int .i64 n)\/(∃s,q=.str s)\/q=.slice []:=λq hq=>by
  unfold py at hq
  rw[vcR]at hq
  obtain⟨y',hy',hq⟩:=hq
  obtain⟨y,hy,rfl⟩:=vah.1 hy'
  rw[QP (vao.1 hf y hy)]at hq
  simp only[vat,vaP,or_false]at hq
  rcases hq with rfl|rfl|rfl|rfl|rfl|rfl|rfl<;>simp
 have hfl:(py ac l).length=l.length * Pg.cellsOf eV:=bz.flat_len l
 have hml:(l.map ac).length=l.length:=vbD _
 have hn:n=l.length/\∀(i:Nat) p x,(py ac l)[i]? =some p->xs[i]? =some x->VR Γ2 [] w' p x:=by
  unfold sl at hvr
  generalize hes:l.map ac=es at hvr
  cases hvr with
  | sliceNil =>
   have hl:l=[]:=by cases l with
    |nil=>rfl
    |cons x l=>simp at hes
   subst hl
   refine⟨?_,λi p x hp=>by simp[py]at hp⟩
   rcases hown.2 with⟨_,h0⟩|⟨g,cap,cur,hx,_⟩
   ·exact h0
   ·cases hx
  | sliceE a cap =>
   have hl:l=[]:=by cases l with
    |nil=>rfl
    |cons x l=>simp at hes
   subst hl
   refine⟨?_,λi p x hp=>by simp[py]at hp⟩
   rcases hown.2 with⟨hx,h0⟩|⟨g,cap,cur,hx,_⟩
   ·exact h0
   ·cases hx;rfl
  | slice _ b off cap n' sz vals h0 hcap hg hn' hsz hc hv =>
   rcases hown.2 with⟨hx,_⟩|⟨g,cap',cur,hx,hrest⟩
   ·cases hx
   cases hx
   have hcells:=hown.cells (g:=b) rfl
   refine⟨by rw[<-hes,hml],λi p x hp hx=>?_⟩
   have hsl:∀x∈es,x.length=Pg.cellsOf eV:=λx hx=>by
    rw[<-hes]at hx
    obtain⟨z,_,rfl⟩:=vah.1 hx;exact bz.hc z
   have hk:0<Pg.cellsOf eV:=bz.hp
   have hil:i<l.length * Pg.cellsOf eV:=by rw[<-hfl];exact ag hp
   have a1:i / Pg.cellsOf eV<l.length:=vcF (by rw[vcb];exact hil)
   have a2:i % Pg.cellsOf eV<Pg.cellsOf eV:=vcW _ hk
   have a3:i=i / Pg.cellsOf eV * Pg.cellsOf eV+i % Pg.cellsOf eV:=(vcU i _).symm
   have hei:es[i / Pg.cellsOf eV]? =some (ac l[i / Pg.cellsOf eV]):=by rw[<-hes,vax,vaa a1];rfl
   have hsz':sz=Pg.cellsOf eV:=by rw[<-hsz _ _ hei,bz.hc]
   subst hsz'
   have hq2:i % Pg.cellsOf eV<(ac l[i / Pg.cellsOf eV]).length:=by rw[bz.hc];exact a2
   have hfa:=rQ hsl hei (vaa hq2)
   rw[<-a3]at hfa
   have hp':es.flatten[i]? =some p:=by rw[<-hes];exact hp
   rw[hp']at hfa
   have hc1:=hc _ _ _ p hei (by rw[vaa hq2];exact hfa.symm)
   have hv1:=hv _ _ _ p hei (by rw[vaa hq2];exact hfa.symm)
   have hx1:=hcells i x hx
   rw[Addr.add_lit]at hx1
   rw[show 0+i / Pg.cellsOf eV * Pg.cellsOf eV+i % Pg.cellsOf eV=0+i by omega]at hc1
   rw[hc1]at hx1
   cases hx1
   exact hv1.flat (hflat p (vaq hp))
 obtain⟨rfl,hxv⟩:=hn
 have hxl:xs.length=(py ac l).length:=by rw[hfl];exact hown.1
 refine⟨v,Γ2,rfl,hm,⟨⟨xs,hown,hxl,λu hu=>?_,hxv⟩,λb hb=>⟨by show(if v.ownBlock=some b then none else Γ' b)=_;rw[vaA hb],(hge b hb).2,λg cs hg e=>?_⟩⟩,λb hb=>(hge b hb).1⟩
 ·obtain⟨i,hi⟩:=vbC hu
  have hil:i<(py ac l).length:=by rw[<-hxl];exact ag hi
  have hp:=vaa hil
  refine(hxv i _ u hp hi).one ?_
  have:=hflat _ (vay hil)
  rcases this with⟨n,h⟩|⟨s,h⟩|h<;>rw[h]<;>rfl
 ·have:=(hge b hb).1
  have:=(hB.gx g cs hg).1
  omega
def QJ(v:Value)(n:Nat):Value:=match v with
 |.slice a _ cap=>.slice a n cap
 |v=>v
section
variable{P:Program}{GE:List (Nat×List PVal)}{e:TypeId}{α:Type}{c:α->List PVal}{Γ:ax}{w:World}{l:List α}{v:Value}
theorem fA.freeze(hcl:∀x,(c x).length=P.cellsOf e)(hkp:0<P.cellsOf e)(hB:dQ GE Γ w)(h:fA P GE e Γ w (py c l) l.length v)(n:Nat)(hn:n<=l.length):((v=.slice none 0 0/\l=[])\/∃g cap,v=.slice (some ⟨g,0,none⟩) l.length cap/\l.length<=cap)/\
  ∀u,u=QJ v n->∃Γ',Mv GE (λb=>v.ownBlock=some b) Γ w Γ' w/\VR Γ' [] w (sl c (l.take n)) u:=by
 obtain⟨xs,hown,hxl,hx1,hxv⟩:=h.row
 rcases hown.2 with⟨rfl,h0⟩|⟨g,cap,cur,rfl,_,hg,hnc,hcm,hcs,htake⟩
 ·have hl:=vai h0
  subst hl
  refine⟨.inl ⟨rfl,rfl⟩,λu hu=>⟨Γ,.refl hB,?_⟩⟩
  have:n=0:=by simpa using hn
  subst this
  subst hu
  exact .sliceNil
 refine⟨.inr ⟨g,cap,rfl,hnc⟩,λu hu=>?_⟩
 subst hu
 have hoff:=h.off g rfl
 have hle0:n * P.cellsOf e<=l.length * P.cellsOf e:=vaK _ hn
 have m2:=Mv.freeze (k:=n * P.cellsOf e) hB hoff hg (by rw[hcs];exact vav hle0 (vaK _ hnc))
 refine⟨_,m2.mono λb hb=>.inl (by have hb:b=g:=hb;rw[hb];rfl),?_⟩
 have hlm:((l.take n).map c).length=n:=by simp;omega
 have:=kO (Γ:=Γ.put g (n * P.cellsOf e)) (bs:=[]) (w:=w) (es:=(l.take n).map c) (cap:=cap) (size:=P.cellsOf e) hg (Γ.put_same _ _) (by rw[hlm];exact vaj _) hkp (by rw[hlm];omega) (λi x hx=>by
  obtain⟨y,_,rfl⟩:=vah.1 (vaq hx)
  exact hcl y) (λi x k q hx hq=>by
  have hin:i<n:=by have:=ag hx;omega
  have hxg:(l.map c)[i]? =some x:=by
   rw[vax]at hx ⊢
   rw[vas hin]at hx
   exact hx
  have hkl:k<P.cellsOf e:=by
   obtain⟨y,_,rfl⟩:=vah.1 (vaq hx)
   have:=ag hq;rw[hcl y]at this;exact this
  have hlt:i * P.cellsOf e+k<l.length * P.cellsOf e:=uI (by omega) hkl
  have hpos:(py c l)[i * P.cellsOf e+k]? =some q:=by
   unfold py
   exact rQ (λx hx=>by obtain⟨y,_,rfl⟩:=vah.1 hx;exact hcl y) hxg hq
  have hxi:i * P.cellsOf e+k<xs.length:=by rw[hown.1];exact hlt
  refine⟨xs[i * P.cellsOf e+k],?_,(hxv _ q _ hpos (vaa hxi)).mono m2.le (.refl _)⟩
  have h1:(cur.toList.take (l.length * P.cellsOf e))[i * P.cellsOf e+k]? =xs[i * P.cellsOf e+k]?:=by rw[htake]
  rw[vas hlt,vaa hxi]at h1
  simpa using h1)
 rw[hlm]at this
 exact this
end
section
variable(m:am)(R:ae->Int->fq->Option (List aa×fq))(t:ae)(size:Int)(K:fq)
def SS:Option (List aa×fq):=
 if((t.Op==1)||(t.Op==3)||(t.Op==2))=true then
  if(size==1)=true then(pY t.Op).bind λl=>if l.all I2=true then some (l,K)else none else some ([],K)
 else if(t.Op==4)=true then(vj m t.Name).bind λr=>if(r.2&&((t.Args.length:Int)==0))=true then QI R m r.1 size K else some ([],K)
 else some ([],K)
end
abbrev BD(m:am)(mb:Nat)(t:ae)(size:Int)(key:ai)(o:List aa×fq)(Γ:ax)(w:World)(ds:List Deferred)(a':Act)(w':World):Prop:=
 a'.defers=ds/\∃Γ' v',Mv GE (λb=>b=mb) Γ w Γ' w'/\KM mb o.2 Γ' w'/\fA Pg GE eV Γ' w' (py ac o.1) o.1.length v'/\(∀b,v'.ownBlock=some b->w.heap.size<=b)/\Fr Γ' w' a'.tmps (jF m mb t size [(7,.str key),(10,.val v')])
section
variable{mb:Nat}{K:fq}{o:List aa×fq}{key:ai}{v:Value}{Γ Γ':ax}{w w':World}{m:am}{t:ae}{size:Int}{nn:Nat}{a:Array Value}{ds:List Deferred}{R:ae->Int->fq->Option (List aa×fq)}
theorem Ml(hk:KM mb K Γ w)(hm:Mv GE no Γ w Γ' w')(g:Fr Γ' w' a (jF m mb t size [(7,.str key),(10,.val (.slice none 0 0))])):BD m mb t size key ([],K) Γ w ds ⟨a,ds⟩ w':=
 ⟨rfl,Γ',_,hm.mono λb h=>h.elim,hk.mv hm id,fA.nil,λb hb=>by simp[Value.ownBlock]at hb,g⟩
theorem Wg{l:List aa}(hb:pY t.Op=some l)(hf:l.all I2=true)(hB:dQ GE Γ w)(hk:KM mb K Γ w)(g:Fr Γ w a (jF m mb t size [(7,.str key),(10,.val v)])):(NE Cl false).wpIn Fence.wide nn Pg (λe a' w'=>e=.normal/\BD m mb t size key (l,K) Γ w ds a' w') ⟨a,ds⟩ w:=by
 refine wpIn_region ?_
 rw[show List.range (bW Cl).size=[0,1,2,3] by kernel_rfl]
 have e0:iW Pg (bD Cl 0).op 0 (opv GE (jF m mb t size [(7,.str key),(10,.val v)])) []=(au Pg 44 (.eptr (af t)) 0).map (λp=>(p,[])):=by kernel_rfl
 refine bR (o:=bD Cl 0) (by kernel_rfl) (by kernel_rfl) (g.opS hB (d:=36) (p:=.eptr ((af t).drop 0)) (by kernel_rfl) (by kernel_rfl) (by kernel_rfl) (by rw[e0,wI];rfl) λa1 Γ1 w1 m1 g1=>?_)
 have e1:iW Pg (bD Cl 1).op 0 (opv GE ((jF m mb t size [(7,.str key),(10,.val v)]).set 36 (.eptr ((af t).drop 0)))) []=(aC Pg 37 ((af t).drop 0)).map (λp=>(p,[])):=by kernel_rfl
 refine bR (o:=bD Cl 1) (by kernel_rfl) (by kernel_rfl) (g1.opS m1.base (d:=37) (p:=.int .i64 t.Op) (by kernel_rfl) (by kernel_rfl) (by kernel_rfl) (by rw[e1,wL];rfl) λa2 Γ2 w2 m2 g2=>?_)
 have q37:(Act.mk a2 ds).eval (.tmp 37)=.int .i64 t.Op:=by
  have:=g2.ev (t:=37) (p:=.int .i64 t.Op) (by kernel_rfl) ds
  generalize (Act.mk a2 ds).eval (.tmp 37)=q at this
  cases this;rfl
 have hop:(bD Cl 2).op=.call {callee:=.value (.func WZ),args:=#[.tmp 37],argTypes:=JX (bD Cl 2)}:=by kernel_rfl
 refine bR (o:=bD Cl 2) (by kernel_rfl) (by kernel_rfl) (Hj hop (by kernel_rfl) call96 (by
  have e:(#[.tmp 37]:Array Operand).map (Act.mk a2 ds).eval=#[.int .i64 t.Op]:=by simp[q37]
  rw[e];exact J9 hb hf m2.base) ?_)
 rintro e w3 ⟨u,Γ3,rfl,m3,row3,own3⟩
 refine⟨u,rfl,?_⟩
 rw[show(bD Cl 2).dst=some 38 by kernel_rfl]
 have g3:=(g2.mv m3.le).set (d:=38) (p:=.val u) (.val u)
 refine bR (o:=bD Cl 3) (by kernel_rfl) (by kernel_rfl) (g3.opS m3.base (d:=10) (p:=.val u) (by kernel_rfl) (by kernel_rfl) (by kernel_rfl) (by kernel_rfl) λa4 Γ4 w4 m4 g4=>?_)
 have m04:Mv GE no Γ w Γ4 w4:=((m1.trans m2 λb h=>.inl h).trans m3 λb h=>.inl h).trans m4 λb h=>.inl h
 have m02:=m1.trans m2 λb h=>.inl h
 exact⟨rfl,rfl,Γ4,u,m04.mono λb h=>h.elim,hk.mv m04 id,row3.mv m4 λb _=>id,λb hb=>vav m02.size (own3 b hb),g4.forget (by kernel_rfl)⟩
theorem Wj(hR:Ob m R)(hlong:∀t n K r,R t n K=some r->r.1.length<4611686018427387904){d:aM}(hc:QI R m d size K=some o)(hB:dQ GE Γ w)(hk:KM mb K Γ w)(g:Fr Γ w a (jF m mb t size [(7,.str key),(10,.val v),(11,.eptr (ay d))])):(NE AP false).wpIn Fence.wide nn Pg (λe a' w'=>e=.normal/\BD m mb t size key o Γ w ds a' w') ⟨a,ds⟩ w:=by
 refine wpIn_region ?_
 rw[show List.range (bW AP).size=[0,1,2,3,4] by kernel_rfl]
 have e0:iW Pg (bD AP 0).op 0 (opv GE (jF m mb t size [(7,.str key),(10,.val v),(11,.eptr (ay d))])) []=(aC Pg 135 (pT m mb)).map (λp=>(p,[])):=by kernel_rfl
 refine bR (o:=bD AP 0) (by kernel_rfl) (by kernel_rfl) (g.opS hB (d:=56) (p:=.agg (pT m mb)) (by kernel_rfl) (by kernel_rfl) (by kernel_rfl) (by rw[e0,O6];rfl) λa1 Γ1 w1 m1 g1=>?_)
 have e1:iW Pg (bD AP 1).op 0 (opv GE ((jF m mb t size [(7,.str key),(10,.val v),(11,.eptr (ay d))]).set 56 (.agg (pT m mb)))) []=(aC Pg 74 (ay d)).map (λp=>(p,[])):=by kernel_rfl
 refine bR (o:=bD AP 1) (by kernel_rfl) (by kernel_rfl) (g1.opS m1.base (d:=57) (p:=.agg (ay d)) (by kernel_rfl) (by kernel_rfl) (by kernel_rfl) (by rw[e1,DQ];rfl) λa2 Γ2 w2 m2 g2=>?_)
 refine bR (o:=bD AP 2) (by kernel_rfl) (by kernel_rfl) (g2.opS m2.base (d:=58) (p:=.int .i64 size) (by kernel_rfl) (by kernel_rfl) (by kernel_rfl) (by kernel_rfl) λa3 Γ3 w3 m3 g3=>?_)
 have m03:Mv GE no Γ w Γ3 w3:=(m1.trans m2 λb h=>.inl h).trans m3 λb h=>.inl h
 have q58:(Act.mk a3 ds).eval (.tmp 58)=.int .i64 size:=by
  have:=g3.ev (t:=58) (p:=.int .i64 size) (by kernel_rfl) ds
  generalize (Act.mk a3 ds).eval (.tmp 58)=q at this
  cases this;rfl
 have v56:=g3.ev (t:=56) (p:=.agg (pT m mb)) (by kernel_rfl) ds
 have v57:=g3.ev (t:=57) (p:=.agg (ay d)) (by kernel_rfl) ds
 have hop:(bD AP 3).op=.call {callee:=.value (.func W1),args:=#[.tmp 56,.tmp 57,.tmp 58],argTypes:=JX (bD AP 3)}:=by kernel_rfl
 refine bR (o:=bD AP 3) (by kernel_rfl) (by kernel_rfl) (Hj hop (by kernel_rfl) call98 (by
  have e:(#[.tmp 56,.tmp 57,.tmp 58]:Array Operand).map (Act.mk a3 ds).eval=#[(Act.mk a3 ds).eval (.tmp 56),(Act.mk a3 ds).eval (.tmp 57),.int .i64 size]:=by simp[q58]
  rw[e];exact callsIn_wide.1 (SC (nn:=0) hR hlong hc m3.base (hk.mv m03 id) v56 v57)) ?_)
 rintro e w4 ⟨u,Γ4,rfl,m4,k4,row4,own4⟩
 refine⟨u,rfl,?_⟩
 rw[show(bD AP 3).dst=some 59 by kernel_rfl]
 have g4:=(g3.mv m4.le).set (d:=59) (p:=.val u) (.val u)
 refine bR (o:=bD AP 4) (by kernel_rfl) (by kernel_rfl) (g4.opS m4.base (d:=10) (p:=.val u) (by kernel_rfl) (by kernel_rfl) (by kernel_rfl) (by kernel_rfl) λa5 Γ5 w5 m5 g5=>?_)
 exact⟨rfl,rfl,Γ5,u,((m03.mono (M:=λb=>b=mb) λb h=>h.elim).trans m4 λb h=>.inl h).trans m5 λb h=>h.elim,k4.mv m5 id,row4.mv m5 λb _=>id,λb hb=>vav m03.size (own4 b hb),g5.forget (by kernel_rfl)⟩
theorem BD.pre{Γ0:ax}{w0:World}{a':Act}(hm:Mv GE no Γ0 w0 Γ w)(h:BD m mb t size key o Γ w ds a' w'):BD m mb t size key o Γ0 w0 ds a' w':=by
 obtain⟨h1,Γ',v',h2,h3,h4,h5,h6⟩:=h
 exact⟨h1,Γ',v',(hm.mono (M:=λb=>b=mb) λb h=>h.elim).trans h2 λb h=>.inl h,h3,h4,λb hb=>vav hm.size (h5 b hb),h6⟩
theorem UL(hR:Ob m R)(hlong:∀t n K r,R t n K=some r->r.1.length<4611686018427387904)(ho:SS m R t size K=some o)(hB:dQ GE Γ w)(hk:KM mb K Γ w)(g:Fr Γ w a (jF m mb t size [(7,.str key),(10,.val (.slice none 0 0))])):(Code.seq U7 (.block 0 N0)).wpIn Fence.wide nn Pg (λe a' w'=>e=.normal/\BD m mb t size key o Γ w ds a' w') ⟨a,ds⟩ w:=by
 unfold SS at ho
 refine wpIn_seq (wpIn_mono (g.piece0 (k:=0) (Ym m mb t size key (.slice none 0 0)) hB (p8 m mb t size ⟨vzz,vzz,vzz,vzz⟩) ds) ?_)
 rintro e ⟨a1,ds1⟩ w1 ⟨rfl,rfl,Γ1,m1,g1⟩
 refine wpIn_block ?_
 suffices hx:N0.wpIn Fence.wide nn Pg (λe a' w'=>e=.normal/\BD m mb t size key o Γ w ds1 a' w') ⟨a1,ds1⟩ w1 by
  refine wpIn_mono hx ?_
  rintro e a' w' ⟨rfl,h⟩
  exact⟨rfl,h⟩
 rw[S5]
 refine wpIn_seq (wpIn_mono (g1.piece0 (k:=0) (Yn m mb t size key (.slice none 0 0)) m1.base (p8 m mb t size ⟨vzz,vzz,vzz,vzz,vzz⟩) ds1) ?_)
 rintro e ⟨a2,ds2⟩ w2 ⟨rfl,rfl,Γ2,m2,g2⟩
 have m02:Mv GE no Γ w Γ2 w2:=m1.trans m2 λb h=>.inl h
 refine wpIn_cond (g2.evb (t:=30) (x:=(t.Op==1)||(t.Op==3)||(t.Op==2)) (by kernel_rfl) ds2) ?_
 rcases OI ho with⟨c1,ho⟩|⟨c1,ho⟩
 ·rw[c1]
  refine wpIn_seq (wpIn_mono ((g2.forget (tm':=jF m mb t size [(7,.str key),(10,.val (.slice none 0 0))]) (by kernel_rfl)).piece0 (k:=0) (Wf m mb t size key (.slice none 0 0)) m2.base (p8 m mb t size ⟨vzz,vzz,vzz,vzz⟩) ds2) ?_)
  rintro e ⟨a3,ds3⟩ w3 ⟨rfl,rfl,Γ3,m3,g3⟩
  have m03:Mv GE no Γ w Γ3 w3:=m02.trans m3 λb h=>.inl h
  have g3':=g3.forget (tm':=jF m mb t size [(7,.str key),(10,.val (.slice none 0 0))]) (by kernel_rfl)
  refine wpIn_cond (g3.evb (t:=35) (x:=size==1) (by kernel_rfl) ds3) ?_
  rcases OI ho with⟨c2,ho⟩|⟨c2,ho⟩
  ·rw[c2]
   obtain⟨l,hl,ho⟩:=Af ho
   rcases OI ho with⟨c3,ho⟩|⟨c3,ho⟩
   ·cases ho
    refine wpIn_mono (Wg hl c3 m3.base (hk.mv m03 id) g3') ?_
    rintro e a' w' ⟨rfl,h⟩
    exact⟨rfl,h.pre m03⟩
   ·cases ho
  ·rw[c2]
   cases ho
   exact wpIn_skip ⟨rfl,Ml hk m03 g3'⟩
 ·rw[c1]
  refine wpIn_seq (wpIn_mono ((g2.forget (tm':=jF m mb t size [(7,.str key),(10,.val (.slice none 0 0)),(29,.int .i64 t.Op)]) (by kernel_rfl)).piece0 (k:=0) (Wh m mb t size key (.slice none 0 0)) m2.base (p8 m mb t size ⟨vzz,vzz,vzz,vzz⟩) ds2) ?_)
  rintro e ⟨a3,ds3⟩ w3 ⟨rfl,rfl,Γ3,m3,g3⟩
  have m03:Mv GE no Γ w Γ3 w3:=m02.trans m3 λb h=>.inl h
  have g3':=g3.forget (tm':=jF m mb t size [(7,.str key),(10,.val (.slice none 0 0))]) (by kernel_rfl)
  refine wpIn_cond (g3.evb (t:=39) (x:=t.Op==4) (by kernel_rfl) ds3) ?_
  rcases OI ho with⟨c2,ho⟩|⟨c2,ho⟩
  rotate_left
  ·rw[c2]
   cases ho
   exact wpIn_skip ⟨rfl,Ml hk m03 g3'⟩
  rw[c2]
  obtain⟨⟨d,ok⟩,hr,ho⟩:=Af ho
  refine wpIn_seq (wpIn_mono (g3'.piece0 (k:=0) (Wi m mb t size key (.slice none 0 0) hr) m3.base (p8 m mb t size ⟨vzz,vzz,(show dU 0 (ay d)from gZ d),vzz,vzz⟩) ds3) ?_)
  rintro e ⟨a4,ds4⟩ w4 ⟨rfl,rfl,Γ4,m4,g4⟩
  have m04:Mv GE no Γ w Γ4 w4:=m03.trans m4 λb h=>.inl h
  cases ok with
  |false=>
   cases ho
   refine wpIn_seq (wpIn_mono (g4.piece0 (k:=0) (UJ m mb t size key (.slice none 0 0) d) m4.base (p8 m mb t size ⟨vzz,vzz,vzz,vzz⟩) ds4) ?_)
   rintro e ⟨a5,ds5⟩ w5 ⟨rfl,rfl,Γ5,m5,g5⟩
   refine wpIn_cond (g5.evb (t:=55) (x:=false) (by kernel_rfl) ds5) ?_
   exact wpIn_skip ⟨rfl,Ml hk (m04.trans m5 λb h=>.inl h) (g5.forget (by kernel_rfl))⟩
  | true =>
   refine wpIn_seq (wpIn_mono (g4.piece0 (k:=0) (UK m mb t size key (.slice none 0 0) d) m4.base (p8 m mb t size ⟨vzz,vzz,(show dU 0 (ay d)from gZ d),vzz,vzz⟩) ds4) ?_)
   rintro e ⟨a5,ds5⟩ w5 ⟨rfl,rfl,Γ5,m5,g5⟩
   have m05:Mv GE no Γ w Γ5 w5:=m04.trans m5 λb h=>.inl h
   refine wpIn_cond (g5.evb (t:=55) (x:=(t.Args.length:Int)==0) (by kernel_rfl) ds5) ?_
   simp only[Bool.true_and]at ho
   rcases OI ho with⟨c3,ho⟩|⟨c3,ho⟩
   ·rw[c3]
    refine wpIn_mono (Wj hR hlong ho m5.base (hk.mv m05 id) (g5.forget (tm':=jF m mb t size [(7,.str key),(10,.val (.slice none 0 0)),(11,.eptr (ay d))]) (by kernel_rfl))) ?_
    rintro e a' w' ⟨rfl,h⟩
    exact⟨rfl,h.pre m05⟩
   ·rw[c3]
    cases ho
    exact wpIn_skip ⟨rfl,Ml hk m05 (g5.forget (by kernel_rfl))⟩
end
end Go.Proofs.YtjddnhkahpfhdaaGreatDoor
