/- PROVED: a part of the proof. Conditions: none. -/
import Derived.Test.YtjddnhkahpfhdaaGreatDoorPkC13
set_option linter.unusedSimpArgs false
set_option linter.unusedVariables false
noncomputable section
namespace Go.Proofs.YtjddnhkahpfhdaaGreatDoor
open Go Go.RowKit Go.Proofs.Tryz
set_option linter.unusedVariables false
set_option linter.unusedSimpArgs false
set_option maxRecDepth 100000
theorem LN:Tj Pg tV eV:=⟨underlying31,by kernel_rfl⟩
structure Sd{S:Type}(lo:Nat)(x:Cx)(J:(Nat->Prop)->Bool->S->ax->World->Prop)(F:Nat->Prop)(s:S)(K:fq)(kids:List aa)(v:Value)(Γ:ax)(w:World):Prop where
 j:J F true s Γ w
 k:KM x.mb K Γ w
 kf:¬F x.mb
 hd:wc w x.kb v
 ho:nD GE Γ w x.kb
 hf:¬F x.kb
 hm:x.kb≠x.mb
 row:fA Pg GE eV Γ w (py ac kids) kids.length v
 rf:∀b,v.ownBlock=some b->¬F b/\lo<=b/\b≠x.kb/\b≠x.mb
 lw:lo<=w.heap.size
section
variable{S:Type}{lo:Nat}{x:Cx}{step:S->List aa->Option (Bool×S)}{J:(Nat->Prop)->Bool->S->ax->World->Prop}{F:Nat->Prop}{s:S}{K:fq}{kids ks:List aa}{v:Value}{y:aa}
variable{ts:List ae}{size n i:Int}{l:List aa}{a:Array Value}{Γ Γ':ax}{w w':World}{ds:List Deferred}{nn:Nat}
theorem Sd.mv(hY:Yv lo x.l step J)(h:Sd lo x J F s K kids v Γ w){M:Nat->Prop}(hm:Mv GE M Γ w Γ' w')(hM:∀b,M b->¬F b/\b≠x.mb/\b≠x.kb/\v.ownBlock≠some b):Sd lo x J F s K kids v Γ' w' where
 j:=hY.side h.j hm λb hb=>(hM b hb).1
 k:=h.k.mv hm λhb=>(hM _ hb).2.1 rfl
 kf:=h.kf
 hd:=h.hd.mv hm λhb=>(hM _ hb).2.2.1 rfl
 ho:=h.ho.mv hm λhb=>(hM _ hb).2.2.1 rfl
 hf:=h.hf
 hm:=h.hm
 row:=h.row.mv hm λb hb hM'=>(hM b hM').2.2.2 hb
 rf:=h.rf
 lw:=vav h.lw hm.size
abbrev RA(x:Cx)(ts:List ae)(size n i:Int)(l:List aa)(y:aa):List PVal:=(yc x ts size n i l [(11,.eptr (ac y))] []).tmps
abbrev Ir(x:Cx)(ts:List ae)(size n i:Int)(l:List aa):List PVal:=(yc x ts size n i l [] []).tmps
abbrev z9:List PVal:=[.int .i64 0,.int .i64 0,.str [],.slice [],.slice [],.slice [],.slice []]
def RZ(y:aa):List (Nat×Nat×PVal):=[(1,43,.agg (ac y)),(3,45,.slice [z9])]
theorem P6:Ey (RA x ts size n i l y) (RZ y):=v8 (by kernel_rfl)
theorem TI:R1 tV eV (bW vL) 4 5 6 7 42 44 45 46 47 43 3 [42,43,44,45,46,47] (bD vL 4) (bD vL 5) (bD vL 6) (bD vL 7):=
 ⟨by kernel_rfl,by kernel_rfl,by kernel_rfl,by kernel_rfl,by kernel_rfl,by kernel_rfl,by kernel_rfl,by kernel_rfl,by kernel_rfl,by kernel_rfl,by kernel_rfl,by kernel_rfl,by kernel_rfl,by kernel_rfl,by kernel_rfl,by kernel_rfl,by kernel_rfl⟩
theorem De{α:Type}{l r o:List α}(h:app l r=some o):l.length+r.length<=cy/\o=l++r:=by
 unfold app at h
 split at h
 ·cases h;exact⟨by assumption,rfl⟩
 ·cases h
theorem CD(l:List aa)(y:aa):py ac (l++[y])=py ac l++ac y:=by simp[py]
theorem nV{D:List Nat}{a0 a:Array Value}{d:Nat}{u:Value}(hD:D.contains d=true)(h:∀t,D.contains t=false->a[t]? =a0[t]?):∀t,D.contains t=false->(a.setIfInBounds d u)[t]? =a0[t]?:=λt ht=>by
 rw[vau (λe=>by rw[e,ht]at hD;cases hD)];exact h t ht
def I9(x:Cx)(ts:List ae)(size n i:Int)(l:List aa)(y:aa)(v:Value)(k:Nat)(a0:Array Value)(L:Nat->Prop)(a:Act)(Γ:ax)(w:World):Prop:=
 mN (RA x ts size n i l y) (RZ y) L a.tmps Γ w/\(L 0->a.tmps[42]? =some v)/\(L 2->a.tmps[44]? =some (.int .i64 (k:Int)))/\∀t,[42,43,44,45,46,47].contains t=false->a.tmps[t]? =a0[t]?
def Wr(tm:List PVal)(D:List Nat):Bool:=D.all λt=>match tm[t]? with
 |some .undef=>true
 |_=>false
theorem Mn{tm:List PVal}{D:List Nat}{a0:Array Value}(h:Fr Γ w a0 tm)(hs:a.size=a0.size)(h1:∀t,D.contains t=false->a[t]? =a0[t]?)(hD:Wr tm D=true):Fr Γ w a tm:=
 ⟨by rw[hs,h.sz],λt p u hp hu=>by
  cases ht:D.contains t with
  |false=>rw[h1 t ht]at hu;exact h.tm t p u hp hu
  | true =>
   have:=vao.1 hD t (by simpa using ht)
   rw[hp]at this
   split at this
   ·rename_i hq;cases hq;exact .undef u
   ·cases this⟩
theorem X7(hY:Yv lo x.l step J)(hs:Sd lo x J F s K kids v Γ w)(hap:app kids [y]=some ks)(hfr:Fr Γ w a (RA x ts size n i l y)):vL.wpIn Fence.wide nn Pg (λe a' w'=>e=.normal/\a'.defers=ds/\∃Γ' v',Mv GE (λb=>b=x.kb\/v.ownBlock=some b) Γ w Γ' w'/\(∀b,v'.ownBlock=some b->v.ownBlock=some b\/w.heap.size<=b)/\Sd lo x J F s K ks v' Γ' w'/\Fr Γ' w' a'.tmps (Ir x ts size n i l)) ⟨a,ds⟩ w:=by
 obtain⟨hlen,rfl⟩:=De hap
 have hB:=hY.base hs.j
 have hsz:a.size=62:=hfr.sz
 have hraw:a[3]? =some x.kp:=hfr.raw (u:=x.kp) (by kernel_rfl)
 have key:(Code.region (wJ vL) (bW vL) true).wpIn Fence.wide nn Pg (λe a' w'=>e=.normal/\a'.defers=ds/\∃Γ' v',Mv GE (λb=>b=x.kb\/v.ownBlock=some b) Γ w Γ' w'/\(∀b,v'.ownBlock=some b->v.ownBlock=some b\/w.heap.size<=b)/\Sd lo x J F s K (kids++[y]) v' Γ' w'/\Fr Γ' w' a'.tmps (Ir x ts size n i l)) ⟨a,ds⟩ w:=by
  refine Oh (T:=tV) (e:=eV) (cs:=py ac kids) (ps:=ac y) (k:=kids.length) (v:=v) (kb:=x.kb) mixed (by kernel_rfl) (by kernel_rfl) LN (by kernel_rfl) (by kernel_rfl) TI hB hs.row (bz.flat_len kids) hs.hd hs.ho (λh=>(hs.rf _ h).2.2.1 rfl) (by simpa using hlen) (bz.hc y) (bz.ho y) (I9 x ts size n i l y v kids.length a) ?_ ?_ (by rw[hsz];decide) (by rw[hsz];decide) ?_ ?_
  ·rintro L ⟨a1,ds'⟩ Γ1 w1 j o hmv ⟨hP,h0,h2,hD⟩ rfl ho j4 j5 j6 j7 hnl hed
   have hj:j<8:=by
    have h1:=(vaf.1 ho).1
    have h2:(bW vL).size=8:=by kernel_rfl
    omega
   have hrow1:=hs.row.mv hmv λb _=>id
   have hd1:=hs.hd.mv hmv id
   rcases(show j=0\/j=1\/j=2\/j=3 by omega)with rfl|rfl|rfl|rfl
   ·obtain rfl:bD vL 0=o:=vaw ((show(bW vL)[0]? =some (bD vL 0) by kernel_rfl).symm.trans ho)
    have hop:(bD vL 0).op=.load tV (.tmp 3):=by kernel_rfl
    have hk:(Act.mk a1 ds').eval (.tmp 3)=x.kp:=aL ((hD 3 rfl).trans hraw)
    refine cC (by kernel_rfl) (v:=v) (w':=w1) (by simp[execOp,hop,hk,hd1.load (P:=Pg) (T:=tV) (by kernel_rfl)]) ⟨Γ1,.refl hmv.base,aT _ _ _,?_⟩
    rw[show(bD vL 0).dst=some 42 by kernel_rfl]
    have hs1:a1.size=62:=hP.fr.sz
    refine⟨hP.other (by kernel_rfl) (by simp[RZ]),λ_=>by show(a1.setIfInBounds 42 v)[42]? =_;simp[hs1],λhx=>?_,nV rfl hD⟩
    show(a1.setIfInBounds 42 v)[44]? =_
    rw[vau (by decide)]
    exact h2 (hx.resolve_right (by decide))
   ·obtain rfl:bD vL 1=o:=vaw ((show(bW vL)[1]? =some (bD vL 1) by kernel_rfl).symm.trans ho)
    have e1:iW Pg (bD vL 1).op 0 (opv GE (kM (RA x ts size n i l y) [])) []=(aC Pg eV (ac y)).map (λp=>(p,[])):=by kernel_rfl
    refine Oper.wpIn_mono (λa' w' hq=>?_) (jp (P6 (x:=x) (ts:=ts) (size:=size) (n:=n) (i:=i) (l:=l)) hmv.base hP (o:=bD vL 1) (i:=1) (d:=43) (p:=.agg (ac y)) (by simp[RZ]) (by kernel_rfl) (by kernel_rfl) (by kernel_rfl) [] (by simp) hed (by rw[e1,aK];rfl))
    obtain⟨Γ',hm',hd',hP',u,hu⟩:=hq
    refine⟨Γ',hm',hd',hP',λhx=>?_,λhx=>?_,?_⟩
    ·rw[hu,vau (by decide)];exact h0 (hx.resolve_right (by decide))
    ·rw[hu,vau (by decide)];exact h2 (hx.resolve_right (by decide))
    ·rw[hu];exact nV rfl hD
   ·obtain rfl:bD vL 2=o:=vaw ((show(bW vL)[2]? =some (bD vL 2) by kernel_rfl).symm.trans ho)
    have hop:(bD vL 2).op=.call {callee:=.builtin .len,args:=#[.tmp 42],argTypes:=#[tV]}:=by kernel_rfl
    have hv:(Act.mk a1 ds').eval (.tmp 42)=v:=aL (h0 (gO (j:=0) (by kernel_rfl) hed))
    have hrun:(execOp (Act.mk a1 ds').eval (bD vL 2)).run Pg w1=.ok (.value (.int .i64 (kids.length:Int))) w1:=by
     rcases hs.row.form with⟨rfl,hz⟩|⟨g,cap,rfl⟩
     ·simp[execOp,hop,resolve,invoke,builtin,hv,Builtin.len_,run_underlying LN.u,goInt,hz]
     ·simp[execOp,hop,resolve,invoke,builtin,hv,Builtin.len_,run_underlying LN.u,goInt]
    refine cC (by kernel_rfl) hrun ⟨Γ1,.refl hmv.base,aT _ _ _,?_⟩
    rw[show(bD vL 2).dst=some 44 by kernel_rfl]
    have hs1:a1.size=62:=hP.fr.sz
    refine⟨hP.other (by kernel_rfl) (by simp[RZ]),λhx=>?_,λ_=>by show(a1.setIfInBounds 44 _)[44]? =_;simp[hs1],nV rfl hD⟩
    show(a1.setIfInBounds 44 _)[42]? =_
    rw[vau (by decide)]
    exact h0 (hx.resolve_right (by decide))
   ·obtain rfl:bD vL 3=o:=vaw ((show(bW vL)[3]? =some (bD vL 3) by kernel_rfl).symm.trans ho)
    refine Oper.wpIn_mono (λa' w' hq=>?_) (jp (P6 (x:=x) (ts:=ts) (size:=size) (n:=n) (i:=i) (l:=l)) hmv.base hP (o:=bD vL 3) (i:=3) (d:=45) (p:=.slice [z9]) (by simp[RZ]) (by kernel_rfl) (by kernel_rfl) (by kernel_rfl) [] (by simp) hed (by kernel_rfl))
    obtain⟨Γ',hm',hd',hP',u,hu⟩:=hq
    refine⟨Γ',hm',hd',hP',λhx=>?_,λhx=>?_,?_⟩
    ·rw[hu,vau (by decide)];exact h0 (hx.resolve_right (by decide))
    ·rw[hu,vau (by decide)];exact h2 (hx.resolve_right (by decide))
    ·rw[hu];exact nV rfl hD
  ·rintro L a1 Γ1 w1 hmv ⟨hP,h0,h2,hD⟩ hall
   have hs:(bW vL).size=8:=by kernel_rfl
   have hL:∀j,j<4->L j:=λj hj=>hall j (by omega) (by omega) (by omega) (by omega) (by omega)
   obtain⟨u,e1,e2⟩:=hP.at' (1,43,.agg (ac y)) (by simp[RZ]) (hL 1 (by decide))
   obtain⟨q,e3,e4⟩:=hP.at' (3,45,.slice [z9]) (by simp[RZ]) (hL 3 (by decide))
   exact⟨z9,u,q,h0 (hL 0 (by decide)),h2 (hL 2 (by decide)),e3,e4,by kernel_rfl,by decide,e1,e2,(hD 3 rfl).trans hraw,by rw[hP.fr.sz,hsz];rfl,hD⟩
  ·intro Γ1 w1 hmv
   exact⟨⟨hfr.mv hmv.le,λy _ h=>h.elim⟩,λh=>h.elim,λh=>h.elim,λ_ _=>rfl⟩
  ·rintro a1 Γ1 w1 v' hd hmv hrow' hh' ho' hne' hown' hsz' hD
   have hM:∀b,(b=x.kb\/v.ownBlock=some b)->¬F b/\b≠x.mb:=λb hb=>by
    rcases hb with rfl|hb
    ·exact⟨hs.hf,hs.hm⟩
    ·exact⟨(hs.rf b hb).1,(hs.rf b hb).2.2.2⟩
   have hlow:=hY.low hs.j
   refine⟨rfl,hd,Γ1,v',hmv,hown',⟨hY.side hs.j hmv λb hb=>(hM b hb).1,hs.k.mv hmv λhb=>(hM _ hb).2 rfl,hs.kf,hh',ho',hs.hf,hs.hm,?_,λb hb=>?_,vav hs.lw hmv.size⟩,?_⟩
   ·rw[CD,vaD];exact hrow'
   ·have hbk:b≠x.kb:=λe=>hne' (e▸hb)
    rcases hown' b hb with h|h
    ·exact hs.rf b h
    ·have hlo:=hs.lw
     refine⟨λhf=>by have:=hlow b hf;omega,by omega,hbk,λe=>by have:=hs.k.off.2.1;omega⟩
   ·exact Mn (D:=[42,43,44,45,46,47]) ((hfr.forget (tm':=Ir x ts size n i l) (by kernel_rfl)).mv hmv.le) hsz' hD (by kernel_rfl)
 rw[<-SK]at key
 exact key
theorem We:List.range (bW np).size=[0,1,2,3,4,5]:=by kernel_rfl
theorem V2(hY:Yv lo x.l step J)(hs:Sd lo x J F s K (kids++[y]) v Γ w)(hfr:Fr Γ w a (Ir x ts size n i l))(hlen:kids.length+1<=cy):np.wpIn Fence.wide nn Pg (λe a' w'=>e=.normal/\a'.defers=ds/\∃Γ' v',Mv GE (λb=>b=x.kb) Γ w Γ' w'/\(∀b,v'.ownBlock=some b->v.ownBlock=some b)/\Sd lo x J F s K kids v' Γ' w'/\Fr Γ' w' a'.tmps (Ir x ts size n i l)) ⟨a,ds⟩ w:=by
 have hB:=hY.base hs.j
 have hkl:(kids++[y]).length=kids.length+1:=by simp
 rcases hs.row.form with⟨rfl,h0⟩|⟨g,cap,rfl⟩
 ·rw[hkl]at h0;cases h0
 rw[hkl]at hs
 have hrow:=hs.row
 rw[hkl,CD]at hrow
 have hcut:=hrow.cut (bz.flat_len kids) (bz.hc y)
 have hcc:=hcut.form
 have hcap:kids.length+1<=cap:=by
  obtain⟨xs,hown,_⟩:=hrow.row
  rcases hown.2 with⟨hx,_⟩|⟨g',cap',cur,hx,_,_,hnc,_⟩
  ·cases hx
  ·cases hx;exact hnc
 have key:(Code.region (wJ np) (bW np) false).wpIn Fence.wide nn Pg (λe a' w'=>e=.normal/\a'.defers=ds/\∃Γ' v',Mv GE (λb=>b=x.kb) Γ w Γ' w'/\(∀b,v'.ownBlock=some b->(Value.slice (some ⟨g,0,none⟩) (kids.length+1) cap).ownBlock=some b)/\Sd lo x J F s K kids v' Γ' w'/\Fr Γ' w' a'.tmps (Ir x ts size n i l)) ⟨a,ds⟩ w:=by
  refine wpIn_region ?_
  rw[We]
  have g0:Fr Γ w (a.setIfInBounds 56 (.slice (some ⟨g,0,none⟩) (kids.length+1) cap)) ((Ir x ts size n i l).set 56 (.val (.slice (some ⟨g,0,none⟩) (kids.length+1) cap))):=hfr.set (.val _)
  have hk:∀{a':Array Value} {tm:List PVal},Fr Γ w a' tm->tm[3]? =some (.val x.kp)->(Act.mk a' ds).eval (.tmp 3)=x.kp:=λh hq=>aL (h.raw hq)
  have hld:=hs.hd.load (P:=Pg) (T:=tV) (by kernel_rfl)
  refine bM (o:=bD np 0) (by kernel_rfl) (by kernel_rfl) (cC (by kernel_rfl) (v:=.slice (some ⟨g,0,none⟩) (kids.length+1) cap) (w':=w) (by simp[execOp,show(bD np 0).op=.load tV (.tmp 3) by kernel_rfl,hk hfr (by kernel_rfl),hld]) ?_)
  rw[show(bD np 0).dst=some 56 by kernel_rfl]
  have g1:=g0.set (d:=57) (p:=.val (.slice (some ⟨g,0,none⟩) (kids.length+1) cap)) (.val _)
  refine bM (o:=bD np 1) (by kernel_rfl) (by kernel_rfl) (cC (a:=a.setIfInBounds 56 _) (by kernel_rfl) (v:=.slice (some ⟨g,0,none⟩) (kids.length+1) cap) (w':=w) (by simp[execOp,show(bD np 1).op=.load tV (.tmp 3) by kernel_rfl,hk g0 (by kernel_rfl),hld]) ?_)
  rw[show(bD np 1).dst=some 57 by kernel_rfl]
  have e57:(Act.mk ((a.setIfInBounds 56 (.slice (some ⟨g,0,none⟩) (kids.length+1) cap)).setIfInBounds 57 (.slice (some ⟨g,0,none⟩) (kids.length+1) cap)) ds).eval (.tmp 57)=.slice (some ⟨g,0,none⟩) (kids.length+1) cap:=aL (g1.raw (by kernel_rfl))
  refine bM (o:=bD np 2) (by kernel_rfl) (by kernel_rfl) (cC (a:=(a.setIfInBounds 56 _).setIfInBounds 57 _) (by kernel_rfl) (v:=.int .i64 ((kids.length+1:Nat):Int)) (w':=w) (by simp[execOp,show(bD np 2).op=.call {callee:=.builtin .len,args:=#[.tmp 57],argTypes:=#[tV]} by kernel_rfl,resolve,invoke,builtin,e57,Builtin.len_,run_underlying LN.u,goInt]) ?_)
  rw[show(bD np 2).dst=some 58 by kernel_rfl]
  have g2:=g1.set (d:=58) (p:=.int .i64 ((kids.length+1:Nat):Int)) (.int _ _)
  refine bM (o:=bD np 3) (by kernel_rfl) (by kernel_rfl) (g2.opS hB (d:=59) (p:=.int .i64 (bw (((kids.length+1:Nat):Int) - 1))) (by kernel_rfl) (by kernel_rfl) (by kernel_rfl) (by kernel_rfl) λa3 Γ3 w3 hm3 g3=>?_)
  have hs3:Sd lo x J F s K (kids++[y]) (.slice (some ⟨g,0,none⟩) (kids.length+1) cap) Γ3 w3:=hs.mv hY hm3 λb h=>h.elim
  have hw:bw (((kids.length+1:Nat):Int) - 1)=(kids.length:Int):=by rw[bK (by omega) (by unfold cy at hlen;omega)];omega
  rw[hw]at g3
  have e56:(Act.mk a3 ds).eval (.tmp 56)=.slice (some ⟨g,0,none⟩) (kids.length+1) cap:=aL (g3.raw (by kernel_rfl))
  have e59:(Act.mk a3 ds).eval (.tmp 59)=.int .i64 (kids.length:Int):=by
   have:=g3.ev (t:=59) (p:=.int .i64 (kids.length:Int)) (by kernel_rfl) ds
   generalize (Act.mk a3 ds).eval (.tmp 59)=q at this
   cases this;rfl
  have hsb:(Instr.sliceBounds true (kids.length+1) cap none (some (.int .i64 (kids.length:Int))) none).run Pg w3=.ok (0,kids.length,cap) w3:=
   cP (Γ:=Γ3) (bs:=[]) (lo:=none) (hi:=some (.int .i64 (kids.length:Int))) rfl (by simp[wn]) (λp h=>by cases h) (λ_=>rfl) (λp h=>by cases h;exact⟨_,rfl,.int _ _⟩) (λh=>by cases h) (vaQ _) (vb7 _) hcap
  obtain⟨i0,z0,q1,q2,q3,q4,q5,q6⟩:=LN.get
  refine bM (o:=bD np 4) (by kernel_rfl) (by kernel_rfl) (cC (by kernel_rfl) (v:=.slice (some ⟨g,0,none⟩) kids.length cap) (w':=w3) (by
   simp[execOp,show(bD np 4).op=.slice tV (.tmp 56) none (some (.tmp 59)) none by kernel_rfl,e56,e59,Instr.sliceAt,Instr.slice,run_underlying LN.u,hsb,run_sizeOf w3 q1,Addr.add]) ?_)
  rw[show(bD np 4).dst=some 60 by kernel_rfl]
  have g4:=g3.set (d:=60) (p:=.val (.slice (some ⟨g,0,none⟩) kids.length cap)) (.val _)
  have e60:(Act.mk (a3.setIfInBounds 60 (.slice (some ⟨g,0,none⟩) kids.length cap)) ds).eval (.tmp 60)=.slice (some ⟨g,0,none⟩) kids.length cap:=aL (g4.raw (by kernel_rfl))
  have e3:(Act.mk (a3.setIfInBounds 60 (.slice (some ⟨g,0,none⟩) kids.length cap)) ds).eval (.tmp 3)=x.kp:=aL (g4.raw (by kernel_rfl))
  obtain⟨w5,hrun,hm5,hh5⟩:=hs3.hd.store (P:=Pg) (T:=tV) (u:=.slice (some ⟨g,0,none⟩) kids.length cap) hm3.base (by kernel_rfl) (by kernel_rfl) rfl hs3.ho
  refine bM (o:=bD np 5) (by kernel_rfl) (by kernel_rfl) (ku (a:=a3.setIfInBounds 60 _) (by kernel_rfl) (w':=w5) (by simp[execOp,show(bD np 5).op=.store tV (.tmp 3) (.tmp 60) by kernel_rfl,e3,e60,hrun]) ?_)
  rw[show(bD np 5).dst=none by kernel_rfl]
  have hrow3:=hs3.row
  rw[hkl,CD]at hrow3
  have hcut3:=hrow3.cut (bz.flat_len kids) (bz.hc y)
  have hgk:g≠x.kb:=(hs.rf g rfl).2.2.1
  refine⟨rfl,rfl,Γ3,.slice (some ⟨g,0,none⟩) kids.length cap,(hm3.mono (M:=λb=>b=x.kb) (λb h=>h.elim)).trans hm5 (λb h=>.inl h),λb hb=>hb,⟨hY.side hs3.j hm5 λb hb=>by
   have hb:b=x.kb:=hb
   rw[hb];exact hs.hf,hs3.k.mv hm5 λe=>hs.hm e.symm,hs.kf,hh5,⟨hs3.ho.1,vaF hs3.ho.2.1 hm5.size,hs3.ho.2.2⟩,hs.hf,hs.hm,hcut3.mv hm5 λb hb hM=>?_,λb hb=>hs.rf b hb,vav hs3.lw hm5.size⟩,?_⟩
  ·have hM:b=x.kb:=hM
   simp[Value.ownBlock]at hb
   exact hgk (hb.trans hM)
  ·exact((g4.mv hm5.le).forget (tm':=Ir x ts size n i l) (by kernel_rfl))
 rw[<-QW]at key
 exact key
end
open Go Go.RowKit
def TC(x:Cx)(F:Nat->Prop)(v:Value):Nat->Prop:=λb=>F b\/b=x.mb\/b=x.kb\/v.ownBlock=some b
section
variable{S:Type}{lo:Nat}{x:Cx}{step:S->List aa->Option (Bool×S)}{J:(Nat->Prop)->Bool->S->ax->World->Prop}{F F1:Nat->Prop}{s s1:S}{K K1:fq}{kids:List aa}{v v1:Value}
variable{t:ae}{ts:List ae}{size n i:Int}{l:List aa}{a:Array Value}{Γ Γ1 Γ':ax}{w w1 w':World}{ds:List Deferred}{nn:Nat}{R:ae->Int->fq->Option (List aa×fq)}
structure IA(lo:Nat)(x:Cx)(J:(Nat->Prop)->Bool->S->ax->World->Prop)(F:Nat->Prop)(v:Value)(kids:List aa)(r:Bool×S×fq)(Γ:ax)(w:World)(Γ':ax)(w':World):Prop where
 mv:Mv GE (TC x F v) Γ w Γ' w'
 ex:∃F' v',(∀b,F' b->F b\/w.heap.size<=b)/\(∀b,v'.ownBlock=some b->v.ownBlock=some b\/w.heap.size<=b)/\(r.1=true->Sd lo x J F' r.2.1 r.2.2 kids v' Γ' w')/\(r.1=false->J F' false r.2.1 Γ' w'/\KM x.mb r.2.2 Γ' w')
theorem IA.pre(hmv:Mv GE (TC x F v) Γ w Γ1 w1)(hF:∀b,F1 b->F b\/w.heap.size<=b)(hv:∀b,v1.ownBlock=some b->v.ownBlock=some b\/w.heap.size<=b){r:Bool×S×fq}(h:IA lo x J F1 v1 kids r Γ1 w1 Γ' w'):IA lo x J F v kids r Γ w Γ' w':=by
 obtain⟨F',v',h1,h2,h3,h4⟩:=h.ex
 refine⟨hmv.trans h.mv λb hb=>?_,F',v',λb hb=>?_,λb hb=>?_,h3,h4⟩
 ·rcases hb with hb|hb|hb|hb
  ·exact(hF b hb).imp .inl id
  ·exact .inl (.inr (.inl hb))
  ·exact .inl (.inr (.inr (.inl hb)))
  ·exact(hv b hb).imp (λh=>.inr (.inr (.inr h))) id
 ·exact(h1 b hb).elim (hF b) λh=>.inr (vav hmv.size h)
 ·exact(h2 b hb).elim (hv b) λh=>.inr (vav hmv.size h)
theorem IA.post(hY:Yv lo x.l step J){r:Bool×S×fq}(h:IA lo x J F v kids r Γ w Γ1 w1)(hm:Mv GE no Γ1 w1 Γ' w'):IA lo x J F v kids r Γ w Γ' w':=by
 obtain⟨F',v',h1,h2,h3,h4⟩:=h.ex
 exact⟨h.mv.trans hm λb h=>h.elim,F',v',h1,h2,λhr=>(h3 hr).mv hY hm λb h=>h.elim,λhr=>⟨hY.side (h4 hr).1 hm λb h=>h.elim,(h4 hr).2.mv hm id⟩⟩
structure My(x:Cx)(c2 c4 c5:Value)(Γ:ax)(w:World):Prop where
 y:VR Γ [] w (.eptr [yv x.l]) c2
 sp:VR Γ [] w (.eptr x.sp) c4
 me:VR Γ [] w (.eptr [.val x.fv]) c5
 fv:x.fv=.func (.func SF) #[] #[c2,x.kp,c4,c5]
theorem My.mv{c2 c4 c5:Value}(h:My x c2 c4 c5 Γ w)(hle:Γ.Le w Γ' w'):My x c2 c4 c5 Γ' w':=⟨h.y.mono hle (.refl _),h.sp.mono hle (.refl _),h.me.mono hle (.refl _),h.fv⟩
abbrev HP:Int:=1099511627776
def TD(lo:Nat)(x:Cx)(c2 c4 c5:Value)(R:ae->Int->fq->Option (List aa×fq))(step:S->List aa->Option (Bool×S))(J:(Nat->Prop)->Bool->S->ax->World->Prop)(ts:List ae):Prop:=
 ∀size kids s K r F v Γ w t0 n,FY R step ts size kids (s,K)=some r->-HP<=size->size<=HP->(ts.length:Int)<=HP->Sd lo x J F s K kids v Γ w->My x c2 c4 c5 Γ w->VR Γ [] w (sl af ts) t0->
  CallsIn Fence.wide n Pg SF #[t0,.int .i64 size,c2,x.kp,c4,c5] w λe w'=>e=.returned (.bool r.1)/\∃Γ',IA lo x J F v kids r Γ w Γ' w'
theorem uP{F:Fence}{P:Program}{ops:Array Oper}{Q:Exit->Act->World->Prop}{i j:Nat}{b:Bool}{rest:List Nat}{o:Oper}{a:Act}(ho:ops[i]? =some o)(hg:o.guard=some (j,b))(hy:yielded ops a.tmps j=some b)(h:o.wpIn F nn P a w (wpOpsIn F nn P ops Q rest) Q):wpOpsIn F nn P ops Q (i::rest) a w:=by
 unfold wpOpsIn
 simp only[ho,Region.wanted,hg,hy]
 simpa using h
theorem Yg:List.range (bW CE).size=[0,1,2,3,4,5,6,7]:=by kernel_rfl
abbrev Tx(x:Cx)(ts:List ae)(size:Int):List PVal:=(Cu x ts size [] []).tmps
theorem V5(hY:Yv lo x.l step J)(hz:(size !=0)=false){q:Bool×S}(hq:step s kids=some q)(hs:Sd lo x J F s K kids v Γ w)(hfr:Fr Γ w a (Tx x ts size)):(Code.seq CE .ret).wpIn Fence.wide nn Pg (λe a' w'=>e=.ret/\a'.defers=ds/\∃Γ',IA lo x J F v kids (q.1,q.2,K) Γ w Γ' w'/\Fr Γ' w' a'.tmps (Qc q.1).tmps) ⟨a,ds⟩ w:=by
 refine wpIn_seq ?_
 have key:(Code.region (wJ CE) (bW CE) false).wpIn Fence.wide nn Pg (λe a' w'=>e=.normal/\a'.defers=ds/\∃Γ',IA lo x J F v kids (q.1,q.2,K) Γ w Γ' w'/\Fr Γ' w' a'.tmps (Qc q.1).tmps) ⟨a,ds⟩ w:=by
  refine wpIn_region ?_
  rw[Yg]
  refine bM (o:=bD CE 0) (by kernel_rfl) (by kernel_rfl) (hfr.opS (hY.base hs.j) (d:=15) (p:=.int .i64 size) (by kernel_rfl) (by kernel_rfl) (by kernel_rfl) (by kernel_rfl) λa0 Γ0 w0 m0 g0=>?_)
  have s0:=hs.mv hY m0 λb h=>h.elim
  refine bM (o:=bD CE 1) (by kernel_rfl) (by kernel_rfl) (g0.opS m0.base (d:=16) (p:=.bool (size !=0)) (by kernel_rfl) (by kernel_rfl) (by kernel_rfl) (by kernel_rfl) λa1 Γ1 w1 m1 g1=>?_)
  have s1:=s0.mv hY m1 λb h=>h.elim
  refine bM (o:=bD CE 2) (by kernel_rfl) (by kernel_rfl) (g1.opS m1.base (d:=17) (p:=.bool (size !=0)) (by kernel_rfl) (by kernel_rfl) (by kernel_rfl) (by kernel_rfl) λa2 Γ2 w2 m2 g2=>?_)
  have s2:=s1.mv hY m2 λb h=>h.elim
  rw[hz]at g2
  have hyl:∀{a':Array Value} {tm:List PVal} {Γ:ax} {w:World},Fr Γ w a' tm->tm[17]? =some (.bool false)->yielded (bW CE) a' 2=some false:=λ{a' tm Γ w} h ht=>by
   obtain⟨u,h1,h2⟩:=h.at ht
   cases h2
   have e:((bW CE)[2]?).bind (·.dst)=some 17:=by kernel_rfl
   simp[yielded,e,h1]
  refine uP (o:=bD CE 3) (by kernel_rfl) (by kernel_rfl) (hyl g2 (by kernel_rfl)) (g2.opS m2.base (d:=18) (p:=yv x.l) (by kernel_rfl) (by kernel_rfl) (by kernel_rfl) (by kernel_rfl) λa3 Γ3 w3 m3 g3=>?_)
  have s3:=s2.mv hY m3 λb h=>h.elim
  have e3:(Act.mk a3 ds).eval (.tmp 3)=x.kp:=aL (g3.raw (by kernel_rfl))
  refine uP (o:=bD CE 4) (by kernel_rfl) (by kernel_rfl) (hyl g3 (by kernel_rfl)) (cC (by kernel_rfl) (v:=v) (w':=w3) (by simp[execOp,show(bD CE 4).op=.load tV (.tmp 3) by kernel_rfl,e3,s3.hd.load (P:=Pg) (T:=tV) (by kernel_rfl)]) ?_)
  rw[show(bD CE 4).dst=some 19 by kernel_rfl]
  have g4:=g3.set (d:=19) (p:=.val v) (.val v)
  have e18:(Act.mk (a3.setIfInBounds 19 v) ds).eval (.tmp 18)=.func (.yield x.l) #[] #[]:=aL (g4.raw (by kernel_rfl))
  have e19:(Act.mk (a3.setIfInBounds 19 v) ds).eval (.tmp 19)=v:=aL (g4.raw (by kernel_rfl))
  have hop:(bD CE 5).op=.call {callee:=.value (.tmp 18),args:=#[.tmp 19],argTypes:=JX (bD CE 5)}:=by kernel_rfl
  have hyd:=hY.yield (nn - 1) s3.j s3.row (λb hb=>⟨(s3.rf b hb).1,(s3.rf b hb).2.1⟩) hq
  refine uP (o:=bD CE 5) (by kernel_rfl) (by kernel_rfl) (hyl g4 (by kernel_rfl)) (Lt (a:=Act.mk (a3.setIfInBounds 19 v) ds) hop e18 (by
   have e:(#[.tmp 19]:Array Operand).map (Act.mk (a3.setIfInBounds 19 v) ds).eval=#[v]:=by simp[e19]
   rw[e];exact hyd) ?_)
  rintro e w5 ⟨Γ5,F5,rfl,m5,hF5,hJ5⟩
  refine⟨_,rfl,?_⟩
  rw[show(bD CE 5).dst=some 20 by kernel_rfl]
  have g5:=(g4.mv m5.le).set (d:=20) (p:=.bool q.1) (.bool q.1)
  have mall:Mv GE no Γ w Γ3 w3:=((m0.trans m1 (λb h=>.inl h)).trans m2 (λb h=>.inl h)).trans m3 (λb h=>.inl h)
  have mF:Mv GE (TC x F v) Γ w Γ5 w5:=(mall.mono (M:=TC x F v) λb h=>h.elim).trans m5 λb hb=>.inl (.inl hb)
  have hF0:∀b,F5 b->F b\/w.heap.size<=b:=λb hb=>(hF5 b hb).imp id λh=>vav mall.size h
  have P5:IA lo x J F v kids (q.1,q.2,K) Γ w Γ5 w5:=by
   have hk5:KM x.mb K Γ5 w5:=s3.k.mv m5 s3.kf
   refine⟨mF,F5,v,hF0,λb hb=>.inl hb,λhr=>?_,λhr=>?_⟩
   ·have hr:q.1=true:=hr
    rw[hr]at hJ5
    have nw:∀{b},b<w3.heap.size->¬F b->¬F5 b:=λhb hf h=>(hF5 _ h).elim hf λh'=>by omega
    exact⟨hJ5,hk5,nw s3.k.off.2.1 s3.kf,s3.hd.mv m5 s3.hf,s3.ho.mv m5 s3.hf,nw s3.ho.2.1 s3.hf,s3.hm,s3.row.mv m5 λb hb=>(s3.rf b hb).1,λb hb=>⟨nw (s3.row.off b hb).2.1 (s3.rf b hb).1,(s3.rf b hb).2⟩,vav s3.lw m5.size⟩
   ·have hr:q.1=false:=hr
    rw[hr]at hJ5
    exact⟨hJ5,hk5⟩
  refine bM (o:=bD CE 6) (by kernel_rfl) (by kernel_rfl) (g5.opS m5.base (d:=21) (p:=.bool q.1) (by kernel_rfl) (by kernel_rfl) (by kernel_rfl) (by kernel_rfl) λa6 Γ6 w6 m6 g6=>?_)
  refine bM (o:=bD CE 7) (by kernel_rfl) (by kernel_rfl) (g6.opS m6.base (d:=8) (p:=.bool q.1) (by kernel_rfl) (by kernel_rfl) (by kernel_rfl) (by kernel_rfl) λa7 Γ7 w7 m7 g7=>?_)
  exact⟨rfl,rfl,Γ7,(P5.post hY m6).post hY m7,g7.forget (tm':=(Qc q.1).tmps) (by kernel_rfl)⟩
 rw[<-SI]at key
 refine wpIn_mono key ?_
 rintro e a' w' ⟨rfl,hd,h⟩
 exact wpIn_ret ⟨rfl,hd,h⟩
end
section
variable{S:Type}{lo:Nat}{x:Cx}{step:S->List aa->Option (Bool×S)}{J:(Nat->Prop)->Bool->S->ax->World->Prop}{F F1:Nat->Prop}{s s1:S}{K K1:fq}{kids:List aa}{v v1:Value}
variable{t:ae}{ts:List ae}{size n i:Int}{l:List aa}{a:Array Value}{Γ Γ1 Γ':ax}{w w1 w':World}{ds:List Deferred}{nn:Nat}{R:ae->Int->fq->Option (List aa×fq)}{c2 c4 c5:Value}
def qU(x:Cx)(t:ae)(ts:List ae)(size n:Int)(b:Bool):List (Nat×Nat×PVal):=
 [(0,48,.val x.fv),(1,49,sl af (t::ts)),(2,50,sl af ts),(3,51,.int .i64 size),(4,52,.int .i64 n),(5,53,.int .i64 (bw (size - n))),(6,54,.bool b),(7,55,.bool (!b))]
theorem Mr(b:Bool):Ey (Ir x (t::ts) size n i l) (qU x t ts size n b):=v8 (by kernel_rfl)
def UR(lo:Nat)(x:Cx)(J:(Nat->Prop)->Bool->S->ax->World->Prop)(t:ae)(ts:List ae)(size n i:Int)(l:List aa)(F:Nat->Prop)(v:Value)(kids:List aa)(r:Bool×S×fq)(Γ0:ax)(w0:World)(ds:List Deferred)(L:Nat->Prop)(a:Act)(w:World):Prop:=
 a.defers=ds/\∃Γ,(¬L 6->Mv GE no Γ0 w0 Γ w)/\(L 6->IA lo x J F v kids r Γ0 w0 Γ w)/\dQ GE Γ w/\mN (Ir x (t::ts) size n i l) (qU x t ts size n r.1) L a.tmps Γ w
theorem UR.pure(hY:Yv lo x.l step J){r:Bool×S×fq}{Γ0:ax}{w0:World}{L:Nat->Prop}{Q:Exit->Act->World->Prop}{a:Act}(h:UR lo x J t ts size n i l F v kids r Γ0 w0 ds L a w){o:Oper}{j d:Nat}{p:PVal}(hj:j≠6)(hx:(j,d,p)∈qU x t ts size n r.1)(hdst:o.dst=some d)(hd:cw o=true)(hm:aw o.op=false)
  (need:List (Nat×Nat×PVal)) (hn:∀y∈need,y∈qU x t ts size n r.1/\(E9 o).contains y.1=true) (hed:∀e∈o.after.toList,Region.binds .any e=true->L e.on) (hp:iW Pg o.op 0 (opv GE (kM (Ir x (t::ts) size n i l) need)) []=some (p,[])):
  o.wpIn Fence.wide nn Pg a w (UR lo x J t ts size n i l F v kids r Γ0 w0 ds λk=>L k\/k=j) Q:=by
 obtain⟨a,ds'⟩:=a
 obtain⟨rfl,Γ,h1,h2,h3,h5⟩:=h
 refine Oper.wpIn_mono (λa' w' hq=>?_) (jp (Mr r.1) h3 h5 hx hdst hd hm need hn hed hp)
 obtain⟨Γ',hm',hd',hP,_⟩:=hq
 exact⟨hd',Γ',λh=>(h1 λh'=>h (.inl h')).trans hm' (λb h=>.inl h),λh=>(h2 (h.resolve_right λe=>hj e.symm)).post hY hm',hm'.base,hP⟩
theorem Wq:UM (t::ts) (some 1) none=some ts:=by
 unfold UM bd
 simp
theorem V0(hY:Yv lo x.l step J)(hV:TD lo x c2 c4 c5 R step J ts)(hc:My x c2 c4 c5 Γ w){r:Bool×S×fq}(hr:FY R step ts (size - n) kids (s,K)=some r)(h1: -HP<=size)(h2:size<=HP)(h3:1<=n)(h4:n<=size)(h5:(ts.length:Int)<=HP)(hs:Sd lo x J F s K kids v Γ w)
  (hfr:Fr Γ w a (Ir x (t::ts) size n i l)):
  iC.wpIn Fence.wide nn Pg (λe a' w'=>e=.normal/\a'.defers=ds/\∃Γ',IA lo x J F v kids r Γ w Γ' w'/\Fr Γ' w' a'.tmps ((Ir x (t::ts) size n i l).set 55 (.bool (!r.1)))) ⟨a,ds⟩ w:=by
 have hB:=hY.base hs.j
 have hl:HP=1099511627776:=rfl
 have hw:bw (size - n)=size - n:=bK (by omega) (by omega)
 have key:(Code.region (wJ iC) (bW iC) true).wpIn Fence.wide nn Pg (λe a' w'=>e=.normal/\a'.defers=ds/\∃Γ',IA lo x J F v kids r Γ w Γ' w'/\Fr Γ' w' a'.tmps ((Ir x (t::ts) size n i l).set 55 (.bool (!r.1)))) ⟨a,ds⟩ w:=by
  refine Du mixed (by kernel_rfl) (by kernel_rfl) (UR lo x J t ts size n i l F v kids r Γ w ds) ?_ ?_ ?_
  ·intro L a1 w1 j o hI ho hnl hed
   have hj:j<8:=by
    have h1:=(vaf.1 ho).1
    have h2:(bW iC).size=8:=by kernel_rfl
    omega
   rcases(show j=0\/j=1\/j=2\/j=3\/j=4\/j=5\/j=6\/j=7 by omega)with rfl|rfl|rfl|rfl|rfl|rfl|rfl|rfl
   ·obtain rfl:bD iC 0=o:=vaw ((show(bW iC)[0]? =some (bD iC 0) by kernel_rfl).symm.trans ho)
    exact hI.pure hY (d:=48) (p:=.val x.fv) (by decide) (by simp[qU]) (by kernel_rfl) (by kernel_rfl) (by kernel_rfl) [] (by simp) hed (by kernel_rfl)
   ·obtain rfl:bD iC 1=o:=vaw ((show(bW iC)[1]? =some (bD iC 1) by kernel_rfl).symm.trans ho)
    exact hI.pure hY (d:=49) (p:=sl af (t::ts)) (by decide) (by simp[qU]) (by kernel_rfl) (by kernel_rfl) (by kernel_rfl) [] (by simp) hed (by kernel_rfl)
   ·obtain rfl:bD iC 2=o:=vaw ((show(bW iC)[2]? =some (bD iC 2) by kernel_rfl).symm.trans ho)
    refine hI.pure hY (d:=50) (p:=sl af ts) (by decide) (by simp[qU]) (by kernel_rfl) (by kernel_rfl) (by kernel_rfl) [(1,49,sl af (t::ts))] (by intro y hy;obtain rfl:=vbd.1 hy;exact⟨by simp[qU],by kernel_rfl⟩) hed ?_
    have e1:iW Pg (bD iC 2).op 0 (opv GE (kM (Ir x (t::ts) size n i l) [(1,49,sl af (t::ts))])) []=(mt Pg 38 (sl af (t::ts)) ((some 1).map (PVal.int .i64)) ((none:Option Int).map (PVal.int .i64)) none).map (λp=>(p,[])):=by kernel_rfl
    rw[e1,fe.sc Wq];rfl
   ·obtain rfl:bD iC 3=o:=vaw ((show(bW iC)[3]? =some (bD iC 3) by kernel_rfl).symm.trans ho)
    exact hI.pure hY (d:=51) (p:=.int .i64 size) (by decide) (by simp[qU]) (by kernel_rfl) (by kernel_rfl) (by kernel_rfl) [] (by simp) hed (by kernel_rfl)
   ·obtain rfl:bD iC 4=o:=vaw ((show(bW iC)[4]? =some (bD iC 4) by kernel_rfl).symm.trans ho)
    exact hI.pure hY (d:=52) (p:=.int .i64 n) (by decide) (by simp[qU]) (by kernel_rfl) (by kernel_rfl) (by kernel_rfl) [] (by simp) hed (by kernel_rfl)
   ·obtain rfl:bD iC 5=o:=vaw ((show(bW iC)[5]? =some (bD iC 5) by kernel_rfl).symm.trans ho)
    exact hI.pure hY (d:=53) (p:=.int .i64 (bw (size - n))) (by decide) (by simp[qU]) (by kernel_rfl) (by kernel_rfl) (by kernel_rfl) [(3,51,.int .i64 size),(4,52,.int .i64 n)] (by
     intro y hy
     rcases vat.1 hy with rfl|hy
     ·exact⟨by simp[qU],by kernel_rfl⟩
     ·obtain rfl:=vbd.1 hy;exact⟨by simp[qU],by kernel_rfl⟩) hed (by kernel_rfl)
   ·obtain rfl:bD iC 6=o:=vaw ((show(bW iC)[6]? =some (bD iC 6) by kernel_rfl).symm.trans ho)
    obtain⟨a1,ds'⟩:=a1
    obtain⟨rfl,Γ1,q1,q2,q3,q5⟩:=hI
    have hm1:=q1 hnl
    obtain⟨u0,u1,u2⟩:=q5.at' (0,48,.val x.fv) (by simp[qU]) (gO (j:=0) (by kernel_rfl) hed)
    cases u2
    obtain⟨u3,u4,u5⟩:=q5.at' (2,50,sl af ts) (by simp[qU]) (gO (j:=2) (by kernel_rfl) hed)
    obtain⟨u6,u7,u8⟩:=q5.at' (5,53,.int .i64 (bw (size - n))) (by simp[qU]) (gO (j:=5) (by kernel_rfl) hed)
    rw[hw]at u8
    cases u8
    have hop:(bD iC 6).op=.call {callee:=.value (.tmp 48),args:=#[.tmp 50,.tmp 53],argTypes:=JX (bD iC 6)}:=by kernel_rfl
    have e48:(Act.mk a1 ds').eval (.tmp 48)=.func (.func SF) #[] #[c2,x.kp,c4,c5]:=(aL u1).trans hc.fv
    have e50:(Act.mk a1 ds').eval (.tmp 50)=u3:=aL u4
    have e53:(Act.mk a1 ds').eval (.tmp 53)=.int .i64 (size - n):=aL u7
    have hcall:=hV (size - n) kids s K r F v Γ1 w1 u3 (nn - 1) hr (by omega) (by omega) h5 (hs.mv hY hm1 λb h=>h.elim) (hc.mv hm1.le) u5
    refine Ag hop e48 call147 (by
     have e:(#[]++(#[.tmp 50,.tmp 53]:Array Operand).map (Act.mk a1 ds').eval++#[c2,x.kp,c4,c5])=#[u3,.int .i64 (size - n),c2,x.kp,c4,c5]:=by simp[e50,e53]
     rw[e]
     exact hcall) ?_
    rintro e w2 ⟨rfl,Γ2,hP⟩
    refine⟨_,rfl,aT _ _ _,Γ2,λh=>absurd (.inr rfl) h,λ_=>hP.pre (hm1.mono λb h=>h.elim) (λb h=>.inl h) (λb h=>.inl h),hP.mv.base,?_⟩
    rw[show(bD iC 6).dst=some 54 by kernel_rfl]
    exact(q5.mv hP.mv.le).put (Mr r.1) (i:=6) (d:=54) (p:=.bool r.1) (by simp[qU]) (.bool _)
   ·obtain rfl:bD iC 7=o:=vaw ((show(bW iC)[7]? =some (bD iC 7) by kernel_rfl).symm.trans ho)
    exact hI.pure hY (d:=55) (p:=.bool (!r.1)) (by decide) (by simp[qU]) (by kernel_rfl) (by kernel_rfl) (by kernel_rfl) [(6,54,.bool r.1)] (by intro y hy;obtain rfl:=vbd.1 hy;exact⟨by simp[qU],by kernel_rfl⟩) hed (by kernel_rfl)
  ·rintro L a1 w1 ⟨hd,Γ1,q1,q2,q3,q5⟩ hall
   have hsz:(bW iC).size=8:=by kernel_rfl
   exact⟨rfl,hd,Γ1,q2 (hall 6 (by omega)),q5.fr.add (q5.at' (7,55,.bool (!r.1)) (by simp[qU]) (hall 7 (by omega)))⟩
  ·have hm0:Mv GE no Γ w Γ {w with drawn:=w.drawn+1}:=Mv.drawn hB 1
   exact⟨rfl,Γ,λ_=>hm0,λh=>h.elim,hm0.base,⟨hfr.mv hm0.le,λy _ h=>h.elim⟩⟩
 rw[<-QV]at key
 exact key
end
section
variable{S:Type}{lo:Nat}{x:Cx}{step:S->List aa->Option (Bool×S)}{J:(Nat->Prop)->Bool->S->ax->World->Prop}{F F1 F2:Nat->Prop}{s s1:S}{K K1:fq}{kids:List aa}{v v1 v2:Value}
variable{t:ae}{ts:List ae}{size n i:Int}{l:List aa}{a:Array Value}{Γ Γ1 Γ2 Γ':ax}{w w1 w2 w':World}{ds:List Deferred}{nn:Nat}{R:ae->Int->fq->Option (List aa×fq)}{c2 c4 c5:Value}
structure Ha(x:Cx)(F:Nat->Prop)(v:Value)(Γ:ax)(w:World)(F1:Nat->Prop)(v1:Value)(Γ1:ax)(w1:World):Prop where
 mv:Mv GE (TC x F v) Γ w Γ1 w1
 f:∀b,F1 b->F b\/w.heap.size<=b
 v:∀b,v1.ownBlock=some b->v.ownBlock=some b\/w.heap.size<=b
theorem Ha.trans(h:Ha x F v Γ w F1 v1 Γ1 w1)(h':Ha x F1 v1 Γ1 w1 F2 v2 Γ2 w2):Ha x F v Γ w F2 v2 Γ2 w2:=by
 refine⟨h.mv.trans h'.mv λb hb=>?_,λb hb=>?_,λb hb=>?_⟩
 ·rcases hb with hb|hb|hb|hb
  ·exact(h.f b hb).imp .inl id
  ·exact .inl (.inr (.inl hb))
  ·exact .inl (.inr (.inr (.inl hb)))
  ·exact(h.v b hb).imp (λh=>.inr (.inr (.inr h))) id
 ·exact(h'.f b hb).elim (h.f b) λhx=>.inr (vav h.mv.size hx)
 ·exact(h'.v b hb).elim (h.v b) λhx=>.inr (vav h.mv.size hx)
theorem Ha.of(hm:Mv GE no Γ w Γ1 w1):Ha x F v Γ w F v Γ1 w1:=⟨hm.mono λb h=>h.elim,λ_ h=>.inl h,λ_ h=>.inl h⟩
theorem Ha.pst(h:Ha x F v Γ w F1 v1 Γ1 w1){r:Bool×S×fq}(hp:IA lo x J F1 v1 kids r Γ1 w1 Γ' w'):IA lo x J F v kids r Γ w Γ' w':=hp.pre h.mv h.f h.v
theorem Sd.map(hY:Yv lo x.l step J)(h:Sd lo x J F s K kids v Γ w)(hm:Mv GE (λb=>b=x.mb) Γ w Γ' w')(hk:KM x.mb K1 Γ' w'):Sd lo x J F s K1 kids v Γ' w' where
 j:=hY.side h.j hm λb hb=>by
  have hb:b=x.mb:=hb
  rw[hb];exact h.kf
 k:=hk
 kf:=h.kf
 hd:=h.hd.mv hm h.hm
 ho:=h.ho.mv hm h.hm
 hf:=h.hf
 hm:=h.hm
 row:=h.row.mv hm λb hb=>(h.rf b hb).2.2.2
 rf:=h.rf
 lw:=vav h.lw hm.size
theorem Fr.res{b:Bool}(h:Fr Γ w a (Qc b).tmps)(hB:dQ GE Γ w):(results f147 a).run Pg w=.ok (.bool b) w:=by
 obtain⟨v,h1,h2,_⟩:=qN (h.sr (P:=Pg) hB 0) (fn:=f147) (r:=.bool b) (by kernel_rfl)
 cases h2
 exact h1
theorem P2{k j:Nat}(h:(j:Int)<size - k):(Ry size k).drop j=((j:Int)+1)::(Ry size k).drop (j+1):=by
 have hl:j<(Ry size k).length:=by unfold Ry;simp;omega
 rw[vaR hl]
 congr 1
 simp[Ry]
theorem Rz{k j:Nat}(h:size - k<=(j:Int)):(Ry size k).drop j=[]:=vbq (by unfold Ry;simp;omega)
abbrev Qb(lo:Nat)(x:Cx)(J:(Nat->Prop)->Bool->S->ax->World->Prop)(F:Nat->Prop)(v:Value)(kids:List aa)(r:Bool×S×fq)(Γ:ax)(w:World):Exit->Act->World->Prop:=
 bodyPost Pg f147 λe w'=>e=.returned (.bool r.1)/\∃Γ',IA lo x J F v kids r Γ w Γ' w'
theorem RC{r:Bool×S×fq}{b:Bool}(hb:b=r.1)(hp:IA lo x J F v kids r Γ w Γ' w')(h:Fr Γ' w' a (Qc b).tmps):Qb lo x J F v kids r Γ w .ret ⟨a,[]⟩ w':=by
 subst hb
 exact⟨rfl,.bool r.1,h.res hp.mv.base,rfl,Γ',hp⟩
theorem Km(x:Cx)(ts:List ae)(size:Int){L:List (Nat×PVal)}(h:IS 0 L):dU 0 (Cu x ts size L []).tmps:=Oo x ts size h []
theorem VN(l:List aa)(n i:Int):IS 0 [(9,.int .i64 n),(36,sl ac l),(37,.int .i64 (l.length:Int)),(38,.int .i64 i)]:=⟨vzz,ba cq l,vzz,vzz,vzz⟩
theorem VM(l:List aa)(y:aa)(n i:Int):IS 0 [(9,.int .i64 n),(11,.eptr (ac y)),(36,sl ac l),(37,.int .i64 (l.length:Int)),(38,.int .i64 i)]:=⟨vzz,(show dU 0 (ac y)from cq y),ba cq l,vzz,vzz,vzz⟩
theorem OP(hY:Yv lo x.l step J)(hV:TD lo x c2 c4 c5 R step J ts)(h1: -HP<=size)(h2:size<=HP)(h5:(ts.length:Int)<=HP)(h3:1<=n)(h4:n<=size){q r:Bool×S×fq}(hll:l.length<4611686018427387904){Γ0:ax}{w0:World}{F0:Nat->Prop}{v0:Value}
  (hq:DD (λs v=>(app kids [v]).bind λks=>FY R step ts (size - n) ks s) l (s,K)=some q) (hr0:q.1=false->r=(false,q.2)) (hR0:Ha x F0 v0 Γ0 w0 F v Γ w) (hc:My x c2 c4 c5 Γ w) (hs:Sd lo x J F s K kids v Γ w) (hfr:Fr Γ w a (Ir x (t::ts) size n 0 l)):
  (Code.block 2 (.loop iM)).wpIn Fence.wide nn Pg (λe a' w'=>(e=.normal/\a'.defers=[]/\q.1=true/\∃Γ' F' v',Ha x F0 v0 Γ0 w0 F' v' Γ' w'/\My x c2 c4 c5 Γ' w'/\Sd lo x J F' q.2.1 q.2.2 kids v' Γ' w'/\Fr Γ' w' a'.tmps (N1 x (t::ts) size n))\/(e=.ret/\Qb lo x J F0 v0 kids r Γ0 w0 .ret a' w')) ⟨a,[]⟩ w:=by
 have hl:HP=1099511627776:=rfl
 refine wpIn_block (wpIn_loop_ghost (λk a' w'=>a'.defers=[]/\∃(i:Nat) (sK:S×fq) (F':Nat->Prop) (v':Value) (Γ':ax),k=l.length - i/\i<=l.length/\DD (λs v=>(app kids [v]).bind λks=>FY R step ts (size - n) ks s) (l.drop i) sK=some q/\
  Ha x F0 v0 Γ0 w0 F' v' Γ' w'/\My x c2 c4 c5 Γ' w'/\Sd lo x J F' sK.1 sK.2 kids v' Γ' w'/\Fr Γ' w' a'.tmps (Ir x (t::ts) size n (i:Int) l)) l.length ⟨rfl,0,(s,K),F,v,Γ,rfl,vaQ _,hq,hR0,hc,hs,hfr⟩ ?_)
 rintro k ⟨a1,ds1⟩ w1 ⟨hd1,i,⟨s1,K1⟩,F1,v1,Γ1,rfl,hi,hf1,hR1,hc1,hs1,g1⟩
 simp only at hd1;subst hd1
 rw[Ud]
 refine wpIn_seq (wpIn_mono (g1.piece0 (k:=0) (X5 x (t::ts) size n (i:Int) l) hR1.mv.base (Km x _ _ (aI vzz<|aI (ba cq l)<|aI vzz<|aI vzz<|aI vzz vzz)) []) ?_)
 rintro e ⟨a2,ds2⟩ w2 ⟨rfl,rfl,Γ2,m2,g2⟩
 refine wpIn_seq (wpIn_cond (g2.evb (t:=39) (x:=decide ((i:Int)<(l.length:Int))) (by kernel_rfl) []) ?_)
 by_cases hlt:i<l.length
 ·rw[vce (by omega)]
  refine wpIn_skip ?_
  have hdrop:l.drop i=l[i]::l.drop (i+1):=vaR hlt
  rw[hdrop,DD]at hf1
  obtain⟨r1,hr0',hf2⟩:=Af hf1
  obtain⟨ks,hks,hr1⟩:=Af hr0'
  clear hf1 hr0'
  have hf1:=hf2
  clear hf2
  have hx:dn l (i:Int)=some l[i]:=aU _ _ hlt
  generalize hyy:l[i]=y at *
  have g2':=g2.forget (tm':=Ir x (t::ts) size n (i:Int) l) (by kernel_rfl)
  refine wpIn_seq (wpIn_block ?_)
  rw[Ub]
  refine wpIn_seq (wpIn_mono (g2'.piece0 (k:=0) (X6 x (t::ts) size n (i:Int) l y hx) m2.base (Oo x _ _ (VM l y n (i:Int)) _) []) ?_)
  rintro e ⟨a3,ds3⟩ w3 ⟨rfl,rfl,Γ3,m3,g3⟩
  have m23:Mv GE no Γ1 w1 Γ3 w3:=m2.trans m3 λb h=>.inl h
  have hs3:=hs1.mv hY m23 λb h=>h.elim
  refine wpIn_seq (wpIn_mono (X7 hY hs3 hks g3) ?_)
  rintro e ⟨a4,ds4⟩ w4 ⟨rfl,rfl,Γ4,v4,m4,hv4,hs4,g4⟩
  have R4:Ha x F1 v1 Γ3 w3 F1 v4 Γ4 w4:=⟨m4.mono λb hb=>.inl (hb.elim (λh=>.inr (.inr (.inl h))) λh=>.inr (.inr (.inr h))),λb h=>.inl h,hv4⟩
  have R04:Ha x F0 v0 Γ0 w0 F1 v4 Γ4 w4:=(hR1.trans (.of m23)).trans R4
  have hc4:My x c2 c4 c5 Γ4 w4:=(hc1.mv m23.le).mv m4.le
  refine wpIn_seq (wpIn_seq (wpIn_mono (V0 hY hV hc4 hr1 h1 h2 h3 h4 h5 hs4 g4) ?_))
  rintro e ⟨a5,ds5⟩ w5 ⟨rfl,rfl,Γ5,P5,g5⟩
  refine wpIn_cond (g5.evb (t:=55) (x:=!r1.1) (by kernel_rfl) []) ?_
  obtain⟨b1,s5,K5⟩:=r1
  cases b1 with
  |false=>
   obtain rfl:(false,(s5,K5))=q:=vaw hf1
   have hr0:=hr0 rfl
   subst hr0
   refine wpIn_mono ((g5.forget (tm':=Tx x (t::ts) size) (by kernel_rfl)).piece0 (k:=0) (V1 x (t::ts) size) P5.mv.base (pp (aI vzz vzz)) []) ?_
   rintro e ⟨a6,ds6⟩ w6 ⟨rfl,rfl,Γ6,m6,g6⟩
   refine .inr ⟨rfl,RC rfl ((R04.pst (kids:=ks) P5).post hY m6|>λp=>?_) g6⟩
   obtain⟨F',v',q1,q2,q3,q4⟩:=p.ex
   exact⟨p.mv,F',v',q1,q2,λh=>(by cases h),q4⟩
  |true=>
   refine wpIn_skip ?_
   obtain⟨F5,v5,q1,q2,q3,q4⟩:=P5.ex
   have hs5:=q3 rfl
   obtain⟨hlen,rfl⟩:=De hks
   have R05:Ha x F0 v0 Γ0 w0 F5 v5 Γ5 w5:=R04.trans ⟨P5.mv,q1,q2⟩
   refine wpIn_mono (V2 hY hs5 (g5.forget (tm':=Ir x (t::ts) size n (i:Int) l) (by kernel_rfl)) (by simpa using hlen)) ?_
   rintro e ⟨a6,ds6⟩ w6 ⟨rfl,rfl,Γ6,v6,m6,hv6,hs6,g6⟩
   have R06:Ha x F0 v0 Γ0 w0 F5 v6 Γ6 w6:=R05.trans ⟨m6.mono λb hb=>.inl (.inr (.inr (.inl hb))),λb h=>.inl h,λb h=>.inl (hv6 b h)⟩
   have hc6:My x c2 c4 c5 Γ6 w6:=(hc4.mv P5.mv.le).mv m6.le
   refine wpIn_mono (g6.piece0 (k:=0) (V3 x (t::ts) size n (i:Int) l) m6.base (Km x _ _ (VN _ _ _)) []) ?_
   rintro e ⟨a7,ds7⟩ w7 ⟨rfl,rfl,Γ7,m7,g7⟩
   have ew:bw ((i:Int)+1)=((i+1:Nat):Int):=by rw[bK (by omega) (by omega)];omega
   rw[ew]at g7
   exact⟨l.length - (i+1),by omega,rfl,i+1,(s5,K5),F5,v6,Γ7,rfl,hlt,hf1,R06.trans (.of m7),hc6.mv m7.le,hs6.mv hY m7 λb h=>h.elim,g7⟩
 ·rw[decide_eq_false (by omega)]
  refine wpIn_exit ?_
  rw[vbq (by omega),DD]at hf1
  cases hf1
  exact .inl ⟨rfl,rfl,rfl,Γ2,F1,v1,hR1.trans (.of m2),hc1.mv m2.le,hs1.mv hY m2 λb h=>h.elim,g2.forget (tm':=N1 x (t::ts) size n) (by kernel_rfl)⟩
theorem G2(hY:Yv lo x.l step J)(hR:Ob x.m R)(hV:∀t' ts',ts=t'::ts'->TD lo x c2 c4 c5 R step J ts')(hlong:∀t n K r,R t n K=some r->r.1.length<4611686018427387904):TD lo x c2 c4 c5 R step J ts:=by
 intro size kids s K r F v Γ w t0 n hv h1 h2 h5 hs hc ht0
 have hl:HP=1099511627776:=rfl
 refine callsIn_of_wp func147 (c:=Qu) rfl vzz ?_
 have hB:=hY.base hs.j
 have h0:Fr Γ w (#[t0,.int .i64 size,c2,x.kp,c4,c5]++Array.replicate 56 undef) (Tx x ts size):=by
  refine⟨by kernel_rfl,λk p u hp hu=>?_⟩
  have htm:Tx x ts size=[sl af ts,.int .i64 size,.eptr [yv x.l],.val x.kp,.eptr x.sp,.eptr [.val x.fv]]++List.replicate 56 .undef:=by kernel_rfl
  rw[htm]at hp
  by_cases hk:k<6
  ·rw[vac (by simpa using hk)]at hp
   rw[vaT (by simpa using hk)]at hu
   match k,hk with
   |0,_=>simp at hp hu;subst hp;subst hu;exact ht0
   |1,_=>simp at hp hu;subst hp;subst hu;exact .int _ _
   |2,_=>simp at hp hu;subst hp;subst hu;exact hc.y
   |3,_=>simp at hp hu;subst hp;subst hu;exact .val _
   |4,_=>simp at hp hu;subst hp;subst hu;exact hc.sp
   |5,_=>simp at hp hu;subst hp;subst hu;exact hc.me
  ·rw[vad (by simpa using hk),vaX]at hp
   split at hp<;>cases hp
   exact .undef u
 show Qu.wpIn Fence.wide n Pg (Qb lo x J F v kids r Γ w) ⟨_,[]⟩ w
 rw[Sq]
 refine wpIn_seq (wpIn_mono (h0.piece0 (k:=0) (XY x ts size) hB (Km x ts size (L:=[]) trivial) []) ?_)
 rintro e ⟨a1,ds1⟩ w1 ⟨rfl,rfl,Γ1,m1,g1⟩
 refine wpIn_seq (wpIn_seq (wpIn_mono (g1.piece0 (k:=0) (XZ x ts size) m1.base (Km x ts size (L:=[(14,.bool ((ts.length:Int)==0))]) ⟨vzz,vzz⟩) []) ?_))
 rintro e ⟨a2,ds2⟩ w2 ⟨rfl,rfl,Γ2,m2,g2⟩
 have m12:Mv GE no Γ w Γ2 w2:=m1.trans m2 λb h=>.inl h
 have hs2:=hs.mv hY m12 λb h=>h.elim
 have hc2:=hc.mv m12.le
 have g2':=g2.forget (tm':=Tx x ts size) (by kernel_rfl)
 refine wpIn_cond (g2.evb (t:=14) (x:=(ts.length:Int)==0) (by kernel_rfl) []) ?_
 cases ts with
 | nil =>
  have e0:((([]:List ae).length:Int)==0)=true:=rfl
  rw[e0]
  simp only[FY]at hv
  rcases OI hv with⟨c1,hv⟩|⟨c1,hv⟩
  ·cases hv
   refine wpIn_mono (g2'.piece0 (k:=0) (X0 x [] size c1) m2.base (pp (aI vzz vzz)) []) ?_
   rintro e ⟨a3,ds3⟩ w3 ⟨rfl,rfl,Γ3,m3,g3⟩
   have m13:Mv GE no Γ w Γ3 w3:=m12.trans m3 λb h=>.inl h
   exact RC rfl ⟨m13.mono λb h=>h.elim,F,v,λb h=>.inl h,λb h=>.inl h,λ_=>hs2.mv hY m3 λb h=>h.elim,λh=>(by cases h)⟩ g3
  ·obtain⟨q,hq,hv⟩:=Af hv
   cases hv
   refine wpIn_mono (V5 hY c1 hq hs2 g2') ?_
   rintro e ⟨a3,ds3⟩ w3 ⟨rfl,rfl,Γ3,hP,g3⟩
   exact RC rfl ((Ha.of m12).pst hP) g3
 | cons t ts =>
  have e0:(((t::ts).length:Int)==0)=false:=by
   rw[beq_eq_false_iff_ne];simp only[vaZ];omega
  rw[e0]
  have hV:=hV t ts rfl
  have h5':(ts.length:Int)<=HP:=by simp only[vaZ]at h5;omega
  simp only[FY]at hv
  refine wpIn_skip ?_
  refine wpIn_seq (wpIn_seq (wpIn_mono (g2'.piece0 (k:=0) (X1 x (t::ts) size) m2.base (Km x (t::ts) size (L:=[(9,.int .i64 1)]) ⟨vzz,vzz⟩) []) ?_))
  rintro e ⟨a3,ds3⟩ w3 ⟨rfl,rfl,Γ3,m3,g3⟩
  have m13:Mv GE no Γ w Γ3 w3:=m12.trans m3 λb h=>.inl h
  refine wpIn_block (wpIn_loop_ghost (λk a' w'=>a'.defers=[]/\∃(j:Nat) (sK:S×fq) (F':Nat->Prop) (v':Value) (Γ':ax),k=(size - ts.length).toNat - j/\j<=(size - ts.length).toNat/\
   DD (λs n=>(R t n s.2).bind λq=>DD (λs v=>(app kids [v]).bind λks=>FY R step ts (size - n) ks s) q.1 (s.1,q.2)) ((Ry size ts.length).drop j) sK=some r/\
   Ha x F v Γ w F' v' Γ' w'/\My x c2 c4 c5 Γ' w'/\Sd lo x J F' sK.1 sK.2 kids v' Γ' w'/\Fr Γ' w' a'.tmps (N1 x (t::ts) size ((j:Int)+1))) (size - ts.length).toNat ⟨rfl,0,(s,K),F,v,Γ3,rfl,vaQ _,hv,.of m13,hc.mv m13.le,hs.mv hY m13 λb h=>h.elim,g3⟩ ?_)
  rintro k ⟨a4,ds4⟩ w4 ⟨hd4,j,⟨s4,K4⟩,F4,v4,Γ4,rfl,hj,hf4,hR4,hc4,hs4,g4⟩
  simp only at hd4;subst hd4
  rw[Uc]
  refine wpIn_seq (wpIn_seq (wpIn_mono (g4.piece0 (k:=0) (X2 x (t::ts) size ((j:Int)+1)) hR4.mv.base (Km x (t::ts) size (L:=[(9,.int .i64 ((j:Int)+1)),(28,.bool (decide ((j:Int)+1<=bw (bw (size - ((t::ts).length:Int))+1))))]) ⟨vzz,vzz,vzz⟩) []) ?_))
  rintro e ⟨a5,ds5⟩ w5 ⟨rfl,rfl,Γ5,m5,g5⟩
  refine wpIn_cond (g5.evb (t:=28) (x:=decide ((j:Int)+1<=bw (bw (size - ((t::ts).length:Int))+1))) (by kernel_rfl) []) ?_
  have ew:bw (bw (size - ((t::ts).length:Int))+1)=size - ts.length:=by
   have e1:((t::ts).length:Int)=(ts.length:Int)+1:=by simp
   have e2:bw (size - ((t::ts).length:Int))=size - ((t::ts).length:Int):=bK (by omega) (by omega)
   rw[e2,bK (by omega) (by omega)];omega
  rw[ew]
  by_cases hlt:(j:Int)<size - ts.length
  ·rw[vce (by omega)]
   refine wpIn_skip ?_
   rw[P2 hlt,DD]at hf4
   obtain⟨q,hq,hf4⟩:=Af hf4
   obtain⟨qs,hqs,hq⟩:=Af hq
   have hs5:=hs4.mv hY m5 λb h=>h.elim
   refine wpIn_seq (wpIn_block (wpIn_seq (wpIn_mono (X4 (x:=x) (t:=t) (ts:=ts) (size:=size) (n:=(j:Int)+1) (hR t _ K4 qs hqs) m5.base hs5.k (g5.forget (tm':=N1 x (t::ts) size ((j:Int)+1)) (by kernel_rfl))) ?_)))
   rintro e ⟨a6,ds6⟩ w6 ⟨rfl,rfl,Γ6,m6,k6,g6⟩
   have hs6:=hs5.map hY m6 k6
   have R6:Ha x F v Γ w F4 v4 Γ6 w6:=(hR4.trans (.of m5)).trans ⟨m6.mono λb hb=>.inl (.inr (.inl hb)),λb h=>.inl h,λb h=>.inl h⟩
   have hc6:My x c2 c4 c5 Γ6 w6:=(hc4.mv m5.le).mv m6.le
   refine wpIn_mono (OP (r:=r) hY hV h1 h2 h5' (by omega) (by omega) (hlong t _ K4 qs hqs) hq (λhq1=>?_) R6 hc6 hs6 g6) ?_
   ·rw[hq1]at hf4
    exact(vaw hf4).symm
   rintro e ⟨a7,ds7⟩ w7 (⟨rfl,rfl,hq1,Γ7,F7,v7,R7,hc7,hs7,g7⟩|⟨rfl,hx⟩)
   ·rw[hq1]at hf4
    refine wpIn_mono (g7.piece0 (k:=0) (X3 x (t::ts) size ((j:Int)+1)) R7.mv.base (Km x (t::ts) size (L:=[(9,.int .i64 (bw ((j:Int)+1+1)))]) ⟨vzz,vzz⟩) []) ?_
    rintro e ⟨a8,ds8⟩ w8 ⟨rfl,rfl,Γ8,m8,g8⟩
    have ew:bw ((j:Int)+1+1)=((j+1:Nat):Int)+1:=by rw[bK (by omega) (by omega)];omega
    rw[ew]at g8
    exact⟨(size - ts.length).toNat - (j+1),by omega,rfl,j+1,q.2,F7,v7,Γ8,rfl,by omega,hf4,R7.trans (.of m8),hc7.mv m8.le,hs7.mv hY m8 λb h=>h.elim,g8⟩
   ·exact hx
  ·rw[decide_eq_false (by omega)]
   refine wpIn_exit ?_
   rw[Rz (by omega),DD]at hf4
   cases hf4
   refine wpIn_mono ((g5.forget (tm':=Tx x (t::ts) size) (by kernel_rfl)).piece0 (k:=0) (V4 x (t::ts) size) m5.base (pp (aI vzz vzz)) []) ?_
   rintro e ⟨a6,ds6⟩ w6 ⟨rfl,rfl,Γ6,m6,g6⟩
   have m56:Mv GE no Γ4 w4 Γ6 w6:=m5.trans m6 λb h=>.inl h
   have R6:Ha x F v Γ w F4 v4 Γ6 w6:=hR4.trans (.of m56)
   exact RC rfl ⟨R6.mv,F4,v4,R6.f,R6.v,λ_=>hs4.mv hY m56 λb h=>h.elim,λh=>(by cases h)⟩ g6
theorem Mw(hY:Yv lo x.l step J)(hR:Ob x.m R)(hlong:∀t n K r,R t n K=some r->r.1.length<4611686018427387904):∀ts:List ae,TD lo x c2 c4 c5 R step J ts
 |[]=>G2 hY hR (λt ts h=>by cases h) hlong
 |t::ts=>G2 hY hR (λt' ts' h=>by cases h;exact Mw hY hR hlong ts) hlong
end
section
variable{P:Program}{GE:List (Nat×List PVal)}{Γ Γ':ax}{w w':World}{b k:Nat}
theorem Mv.freeze(hB:dQ GE Γ w)(ho:nD GE Γ w b){c:Array Value}{t:TypeId}{fr:Nat×Nat}(hb:w.heap[b]? =some (.cells c t fr))(hk:k<=c.size):Mv GE (λx=>x=b) Γ w (Γ.put b k) w:=by
 have hle:Γ.Le w (Γ.put b k) w:=λx n hx _=>⟨n,(Γ.put_other λe=>by rw[e,ho.1]at hx;cases hx).trans hx,vaj _,λ_ _=>rfl⟩
 refine⟨hB.world hle (λx n hx=>?_) (vaj _) λg cs hg=>rfl,⟨rfl,rfl,rfl,vaj _,vaj _,λx _ hx=>⟨rfl,Γ.put_other hx⟩,hle⟩⟩
 by_cases hxb:x=b
 ·subst hxb
  rw[Γ.put_same]at hx;cases hx
  exact⟨c,t,fr,hb,hk⟩
 ·rw[Γ.put_other hxb]at hx
  exact hB.wi x n hx
theorem Mv.alloc{M:Nat->Prop}(hB:dQ GE Γ w)(o:Obj):Mv GE M Γ w Γ (w.alloc o):=Mv.mono (M1:=no) (Mv.raw hB rfl rfl rfl (by simp[World.size_alloc]) (vaj _) (λb hb _=>dK w _ hb) λb hb=>hb.elim) λb hb=>hb.elim
theorem nD.new(hB:dQ GE Γ w)(o:Obj):nD GE Γ (w.alloc o) w.heap.size:=by
 refine⟨?_,by simp[World.size_alloc],λg cs hg hx=>?_⟩
 ·cases hΓ:Γ w.heap.size with
  |none=>rfl
  |some m=>exact absurd (hB.lt hΓ) (vbx _)
 ·exact absurd (hx▸(hB.gx g cs hg).1) (vbx _)
theorem wc.new(v:Value)(t:TypeId)(w:World):wc (w.alloc (.cells #[v] t)) w.heap.size v:=⟨t,de w _⟩
theorem vX{t:TypeId}{z:Value}(hz:(zeroValue t).run P w=.ok z w):(Instr.alloc t true (.tuple #[])).run P w=.ok (.pointer (some ⟨w.heap.size,0,none⟩)) (w.alloc (.cells z.cells t)):=by
 simp[Instr.alloc,hz,newVar,newRow]
theorem wc.eptr{v:Value}(h:wc w b v)(hg:Γ b=some 1):VR Γ [] w (.eptr [.val v]) (.pointer (some ⟨b,0,none⟩)):=by
 obtain⟨t,h⟩:=h
 refine .eptr _ b 0 1 (λ_=>v) hg (by simp) (λk p hp=>?_) λk p hp=>?_
 all_goals
  have hk:k=0:=by have:=ag hp;simp at this;exact this
  subst hk
 ·rw[cell_of_row w b _ _ t _ h];rfl
 ·simp at hp;subst hp;exact .val v
end
abbrev Qj:Nat:=206
abbrev U3:Nat:=146
noncomputable def RG:Code:=f146.body.getD .skip
abbrev Xa:Code:=bg RG [false]
abbrev Tv:Code:=bg RG [true,false]
abbrev RS:Code:=bg RG [true,true,false]
abbrev MW:Code:=bg RG [true,true,true,false]
abbrev KA:Code:=bg RG [true,true,true,true]
theorem So:RG=.seq Xa (.seq (.region (wJ Tv) (bW Tv) false) (.seq (.region (wJ RS) (bW RS) false) (.seq (.region (wJ MW) (bW MW) false) (.region (wJ KA) (bW KA) false)))):=by kernel_rfl
abbrev pT(m:am)(mb:Nat):List PVal:=aq m++[.val (.map (some mb))]
abbrev Tw(l:Nat)(m:am)(mb:Nat)(ts:List ae)(size:Int)(L:List (Nat×PVal))(H:List av):az:=cc 12 ((0,yv l)::(1,.eptr (pT m mb))::(2,.eptr [sl af ts])::(3,.eptr [.int .i64 size])::L) H []
theorem p9(m:am)(mb:Nat):dU 0 (pT m mb):=la.2 ⟨rK m,vzz,vzz⟩
section
variable{S:Type}{lo:Nat}{step:S->List aa->Option (Bool×S)}{J:(Nat->Prop)->Bool->S->ax->World->Prop}{F:Nat->Prop}{s:S}{K:fq}
variable{l:Nat}{m:am}{mb:Nat}{ts:List ae}{size:Int}{a:Array Value}{Γ Γ1 Γ2 Γ':ax}{w w1 w2 w':World}{ds:List Deferred}{nn:Nat}{R:ae->Int->fq->Option (List aa×fq)}
theorem X9(l:Nat)(m:am)(mb:Nat)(ts:List ae)(size:Int):cQ Pg GE 0 Xa (EX .normal (Tw l m mb ts size [(4,.eptr [yv l])] [.dead])) (Tw l m mb ts size [] []):=by
 have z:=se (rfl:bv (yv l)=some [yv l])<|eF .normal (Tw l m mb ts size [(4,.eptr [yv l])] [.dead])
 exact cN (A:=[]) mixed z (by kernel_rfl)
theorem M5(hY:Yv lo l step J)(hR:Ob m R)(hlong:∀t n K r,R t n K=some r->r.1.length<4611686018427387904){r:Bool×S×fq}(hr:FY R step ts size [] (s,K)=some r)(h1: -HP<=size)(h2:size<=HP)(h5:(ts.length:Int)<=HP)
  (hj:J F true s Γ w) (hk:KM mb K Γ w) (hkf:¬F mb) (hlo:lo<=w.heap.size) {cs cl cn:Value} (hs:VR Γ [] w (.eptr (pT m mb)) cs) (hl:VR Γ [] w (.eptr [sl af ts]) cl) (hn:VR Γ [] w (.eptr [.int .i64 size]) cn):
  CallsIn Fence.wide nn Pg U3 #[.func (.yield l) #[] #[],cs,cl,cn] w λe w'=>(∃u,e=.returned u)/\∃Γ' F',Mv GE (λb=>F b\/b=mb) Γ w Γ' w'/\(∀b,F' b->F b\/w.heap.size<=b)/\J F' r.1 r.2.1 Γ' w'/\KM mb r.2.2 Γ' w':=by
 refine callsIn_of_wp func146 (c:=RG) rfl vzz ?_
 have hB:=hY.base hj
 have hlow:=hY.low hj
 have h0:Fr Γ w (#[.func (.yield l) #[] #[],cs,cl,cn]++Array.replicate 8 undef) (Tw l m mb ts size [] []).tmps:=by
  refine⟨by kernel_rfl,λk p u hp hu=>?_⟩
  have htm:(Tw l m mb ts size [] []).tmps=[yv l,.eptr (pT m mb),.eptr [sl af ts],.eptr [.int .i64 size]]++List.replicate 8 .undef:=by kernel_rfl
  rw[htm]at hp
  by_cases hk:k<4
  ·rw[vac (by simpa using hk)]at hp
   rw[vaT (by simpa using hk)]at hu
   match k,hk with
   |0,_=>simp at hp hu;subst hp;subst hu;exact .val _
   |1,_=>simp at hp hu;subst hp;subst hu;exact hs
   |2,_=>simp at hp hu;subst hp;subst hu;exact hl
   |3,_=>simp at hp hu;subst hp;subst hu;exact hn
  ·rw[vad (by simpa using hk),vaX]at hp
   split at hp<;>cases hp
   exact .undef u
 show RG.wpIn Fence.wide nn Pg _ ⟨_,[]⟩ w
 rw[So]
 refine wpIn_seq (wpIn_mono (h0.piece0 (k:=0) (X9 l m mb ts size) hB (pp ⟨vzz,p9 m mb,⟨ba dD ts,vzz⟩,⟨vzz,vzz⟩,⟨vzz,vzz⟩,vzz⟩) []) ?_)
 rintro e ⟨a1,ds1⟩ w1 ⟨rfl,rfl,Γ1,m1,g1⟩
 have z31:(zeroValue tV).run Pg w1=.ok (.slice none 0 0) w1:=Tryz.zeroValue31 w1
 refine wpIn_seq (wpIn_region ?_)
 rw[show List.range (bW Tv).size=[0] by kernel_rfl]
 refine bM (o:=bD Tv 0) (by kernel_rfl) (by kernel_rfl) (cC (by kernel_rfl) (by simp only[execOp,show(bD Tv 0).op=.alloc tV by kernel_rfl,Sem.run_bind,vX z31];rfl) ?_)
 rw[show(bD Tv 0).dst=some 5 by kernel_rfl]
 have m2:Mv GE no Γ1 w1 Γ1 (w1.alloc (.cells #[.slice none 0 0] tV)):=.alloc m1.base _
 have hd2:wc (w1.alloc (.cells #[.slice none 0 0] tV)) w1.heap.size (.slice none 0 0):=.new _ _ w1
 have of2:nD GE Γ1 (w1.alloc (.cells #[.slice none 0 0] tV)) w1.heap.size:=.new m1.base _
 have g2:=(g1.mv m2.le).set (d:=5) (p:=.val (.pointer (some ⟨w1.heap.size,0,none⟩))) (.val _)
 have sz2:(w1.alloc (.cells #[.slice none 0 0] tV)).heap.size=w1.heap.size+1:=World.size_alloc _ _
 generalize hw2:w1.alloc (.cells #[.slice none 0 0] tV)=w2 at m2 hd2 of2 g2 sz2
 show(Code.seq (.region (wJ RS) (bW RS) false) (.seq (.region (wJ MW) (bW MW) false) (.region (wJ KA) (bW KA) false))).wpIn Fence.wide nn Pg _ ⟨a1.setIfInBounds 5 (.pointer (some ⟨w1.heap.size,0,none⟩)),[]⟩ (w1.alloc (.cells #[.slice none 0 0] tV))
 rw[hw2]
 have z206:(zeroValue Qj).run Pg w2=.ok .nilFunc w2:=Tryz.zeroValue206 w2
 refine wpIn_seq (wpIn_region ?_)
 rw[show List.range (bW RS).size=[0] by kernel_rfl]
 refine bM (o:=bD RS 0) (by kernel_rfl) (by kernel_rfl) (cC (by kernel_rfl) (by simp only[execOp,show(bD RS 0).op=.alloc Qj by kernel_rfl,Sem.run_bind,vX z206];rfl) ?_)
 rw[show(bD RS 0).dst=some 6 by kernel_rfl]
 have m3:Mv GE no Γ1 w2 Γ1 (w2.alloc (.cells #[.nilFunc] Qj)):=.alloc m2.base _
 have hd3:wc (w2.alloc (.cells #[.nilFunc] Qj)) w2.heap.size .nilFunc:=.new _ _ w2
 have of3:nD GE Γ1 (w2.alloc (.cells #[.nilFunc] Qj)) w2.heap.size:=.new m2.base _
 have g3:=(g2.mv m3.le).set (d:=6) (p:=.val (.pointer (some ⟨w2.heap.size,0,none⟩))) (.val _)
 have sz3:(w2.alloc (.cells #[.nilFunc] Qj)).heap.size=w2.heap.size+1:=World.size_alloc _ _
 show(Code.seq (.region (wJ MW) (bW MW) false) (.region (wJ KA) (bW KA) false)).wpIn Fence.wide nn Pg _ ⟨(a1.setIfInBounds 5 (.pointer (some ⟨w1.heap.size,0,none⟩))).setIfInBounds 6 (.pointer (some ⟨w2.heap.size,0,none⟩)),[]⟩ (w2.alloc (.cells #[.nilFunc] Qj))
 generalize hw3:w2.alloc (.cells #[.nilFunc] Qj)=w3 at m3 hd3 of3 g3 sz3
 generalize (a1.setIfInBounds 5 (.pointer (some ⟨w1.heap.size,0,none⟩))).setIfInBounds 6 (.pointer (some ⟨w2.heap.size,0,none⟩))=a3 at g3
 obtain⟨c2,ec2,vc2⟩:=g3.get (t:=4) (p:=.eptr [yv l]) (by kernel_rfl)
 obtain⟨c4,ec4,vc4⟩:=g3.get (t:=1) (p:=.eptr (pT m mb)) (by kernel_rfl)
 have e5:=g3.raw (t:=5) (u:=.pointer (some ⟨w1.heap.size,0,none⟩)) (by kernel_rfl)
 have e6:=g3.raw (t:=6) (u:=.pointer (some ⟨w2.heap.size,0,none⟩)) (by kernel_rfl)
 refine wpIn_seq (wpIn_region ?_)
 rw[show List.range (bW MW).size=[0,1] by kernel_rfl]
 have q4:(Act.mk a3 []).eval (.tmp 4)=c2:=aL ec2
 have q1:(Act.mk a3 []).eval (.tmp 1)=c4:=aL ec4
 have q5:(Act.mk a3 []).eval (.tmp 5)=.pointer (some ⟨w1.heap.size,0,none⟩):=aL e5
 have q6:(Act.mk a3 []).eval (.tmp 6)=.pointer (some ⟨w2.heap.size,0,none⟩):=aL e6
 refine bM (o:=bD MW 0) (by kernel_rfl) (by kernel_rfl) (cC (by kernel_rfl) (v:=.func (.func SF) #[] #[c2,.pointer (some ⟨w1.heap.size,0,none⟩),c4,.pointer (some ⟨w2.heap.size,0,none⟩)]) (w':=w3) (by
  simp[execOp,show(bD MW 0).op=.makeFunc (.func SF) #[] #[.tmp 4,.tmp 5,.tmp 1,.tmp 6] by kernel_rfl,Instr.makeFunc,q4,q5,q1,q6]) ?_)
 rw[show(bD MW 0).dst=some 7 by kernel_rfl]
 generalize hfv:(Value.func (.func SF) #[] #[c2,.pointer (some ⟨w1.heap.size,0,none⟩),c4,.pointer (some ⟨w2.heap.size,0,none⟩)])=fv
 have g4:=g3.set (d:=7) (p:=.val fv) (.val fv)
 have q7:(Act.mk (a3.setIfInBounds 7 fv) []).eval (.tmp 7)=fv:=aL (g4.raw (by kernel_rfl))
 have q6':(Act.mk (a3.setIfInBounds 7 fv) []).eval (.tmp 6)=.pointer (some ⟨w2.heap.size,0,none⟩):=aL (g4.raw (by kernel_rfl))
 obtain⟨w5,hrun5,m5,hd5⟩:=hd3.store (P:=Pg) (T:=Qj) (u:=fv) m3.base (by kernel_rfl) (by kernel_rfl) (by rw[<-hfv];rfl) of3
 refine bM (o:=bD MW 1) (by kernel_rfl) (by kernel_rfl) (ku (a:=a3.setIfInBounds 7 fv) (by kernel_rfl) (w':=w5) (by simp[execOp,show(bD MW 1).op=.store Qj (.tmp 6) (.tmp 7) by kernel_rfl,q6',q7,hrun5]) ?_)
 rw[show(bD MW 1).dst=none by kernel_rfl]
 have of5:nD GE Γ1 w5 w2.heap.size:=⟨of3.1,vaF of3.2.1 m5.size,of3.2.2⟩
 obtain⟨t5,hh5⟩:=id hd5
 have m6:=Mv.freeze (k:=1) m5.base of5 hh5 (by simp)
 have vc5:VR (Γ1.put w2.heap.size 1) [] w5 (.eptr [.val fv]) (.pointer (some ⟨w2.heap.size,0,none⟩)):=hd5.eptr (Γ1.put_same _ _)
 have m36:Mv GE (λb=>b=w2.heap.size) Γ1 w3 (Γ1.put w2.heap.size 1) w5:=m5.trans m6 λb h=>.inl h
 have m16:Mv GE no Γ w (Γ1.put w2.heap.size 1) w5:=(((m1.trans m2 λb h=>.inl h).trans m3 λb h=>.inl h)).trans m36 λb h=>by
  have h:b=w2.heap.size:=h
  have:=m1.size
  exact .inr (by omega)
 have g5:Fr (Γ1.put w2.heap.size 1) w5 (a3.setIfInBounds 7 fv) (((Tw l m mb ts size [(4,.eptr [yv l])] []).tmps).set 6 (.eptr [.val fv])):=by
  have g5:=((g4.mv m5.le).mv m6.le).add (d:=6) (p:=.eptr [.val fv]) ⟨_,g4.raw (t:=6) (u:=.pointer (some ⟨w2.heap.size,0,none⟩)) (by kernel_rfl),vc5⟩
  exact g5.forget (by kernel_rfl)
 generalize Γ1.put w2.heap.size 1=Γ5 at m6 vc5 m36 m16 g5
 have hkb:¬w1.heap.size=w2.heap.size:=by omega
 have hd6:wc w5 w1.heap.size (.slice none 0 0):=(hd2.mv m3 id).mv m36 hkb
 have of6:nD GE Γ5 w5 w1.heap.size:=(of2.mv m3 id).mv m36 hkb
 let x:Cx:=⟨l,w1.heap.size,mb,m,fv⟩
 have hsd:Sd lo x J F s K [] (.slice none 0 0) Γ5 w5:=⟨hY.side hj m16 λb h=>h.elim,hk.mv m16 id,hkf,hd6,of6,λh=>by
  have h:F w1.heap.size:=h
  have:=hlow _ h;have:=m1.size;omega,λh=>by
  have h:w1.heap.size=mb:=h
  have:=hk.off.2.1;have:=m1.size;omega,fA.nil,λb hb=>by simp[Value.ownBlock]at hb,vav hlo m16.size⟩
 have hcap:My x c2 c4 (.pointer (some ⟨w2.heap.size,0,none⟩)) Γ5 w5:=⟨vc2.mono m36.le (.refl _),vc4.mono m36.le (.refl _),vc5,hfv.symm⟩
 show(Code.region (wJ KA) (bW KA) false).wpIn Fence.wide nn Pg _ ⟨a3.setIfInBounds 7 fv,[]⟩ w5
 refine wpIn_region ?_
 rw[show List.range (bW KA).size=[0,1,2,3] by kernel_rfl]
 refine bM (o:=bD KA 0) (by kernel_rfl) (by kernel_rfl) (g5.opS m16.base (d:=8) (p:=.val fv) (by kernel_rfl) (by kernel_rfl) (by kernel_rfl) (by kernel_rfl) λa6 Γ6 w6 n6 g6=>?_)
 refine bM (o:=bD KA 1) (by kernel_rfl) (by kernel_rfl) (g6.opS n6.base (d:=9) (p:=sl af ts) (by kernel_rfl) (by kernel_rfl) (by kernel_rfl) (by kernel_rfl) λa7 Γ7 w7 n7 g7=>?_)
 refine bM (o:=bD KA 2) (by kernel_rfl) (by kernel_rfl) (g7.opS n7.base (d:=10) (p:=.int .i64 size) (by kernel_rfl) (by kernel_rfl) (by kernel_rfl) (by kernel_rfl) λa8 Γ8 w8 n8 g8=>?_)
 have n58:Mv GE no Γ5 w5 Γ8 w8:=(n6.trans n7 λb h=>.inl h).trans n8 λb h=>.inl h
 have q8:(Act.mk a8 []).eval (.tmp 8)=.func (.func SF) #[] #[c2,x.kp,c4,.pointer (some ⟨w2.heap.size,0,none⟩)]:=(aL (g8.raw (u:=fv) (by kernel_rfl))).trans hfv.symm
 obtain⟨t9,e9,v9⟩:=g8.get (t:=9) (p:=sl af ts) (by kernel_rfl)
 obtain⟨t10,e10,v10⟩:=g8.get (t:=10) (p:=.int .i64 size) (by kernel_rfl)
 cases v10
 have q9:(Act.mk a8 []).eval (.tmp 9)=t9:=aL e9
 have q10:(Act.mk a8 []).eval (.tmp 10)=.int .i64 size:=aL e10
 have hcall:=Mw (x:=x) (lo:=lo) (c2:=c2) (c4:=c4) (c5:=.pointer (some ⟨w2.heap.size,0,none⟩)) (step:=step) (J:=J) hY hR hlong ts size [] s K r F (.slice none 0 0) Γ8 w8 t9 (nn - 1) hr h1 h2 h5 (hsd.mv hY n58 λb h=>h.elim) (hcap.mv n58.le) v9
 have hop:(bD KA 3).op=.call {callee:=.value (.tmp 8),args:=#[.tmp 9,.tmp 10],argTypes:=JX (bD KA 3)}:=by kernel_rfl
 refine bM (o:=bD KA 3) (by kernel_rfl) (by kernel_rfl) (Ag hop q8 call147 (by
  have e:(#[]++(#[.tmp 9,.tmp 10]:Array Operand).map (Act.mk a8 []).eval++#[c2,x.kp,c4,.pointer (some ⟨w2.heap.size,0,none⟩)])=#[t9,.int .i64 size,c2,x.kp,c4,.pointer (some ⟨w2.heap.size,0,none⟩)]:=by simp[q9,q10]
  rw[e];exact hcall) ?_)
 rintro e w9 ⟨rfl,Γ9,hP⟩
 refine⟨_,rfl,?_⟩
 have mAll:Mv GE no Γ w Γ8 w8:=m16.trans n58 λb h=>.inl h
 obtain⟨F',v',p1,p2,p3,p4⟩:=hP.ex
 have mF:Mv GE (λb=>F b\/b=mb) Γ w Γ9 w9:=(mAll.mono (M:=λb=>F b\/b=mb) λb h=>h.elim).trans hP.mv λb hb=>by
  rcases hb with hb|hb|hb|hb
  ·exact .inl (.inl hb)
  ·exact .inl (.inr hb)
  ·have hb:b=w1.heap.size:=hb
   exact .inr (by have:=m1.size;omega)
  ·simp[Value.ownBlock]at hb
 have hJK:J F' r.1 r.2.1 Γ9 w9/\KM mb r.2.2 Γ9 w9:=by
  obtain⟨b,s',K'⟩:=r
  cases b with
  |true=>exact⟨(p3 rfl).j,(p3 rfl).k⟩
  |false=>exact p4 rfl
 have g9:=(g8.mv hP.mv.le).set (d:=11) (p:=.bool r.1) (.bool r.1)
 obtain⟨u,e1,_⟩:=qN (g9.sr (P:=Pg) hP.mv.base 0) (fn:=f146) (r:=.tuple []) (by kernel_rfl)
 exact⟨rfl,u,e1,⟨_,rfl⟩,Γ9,F',mF,λb hb=>(p1 b hb).imp id λh=>vav mAll.size h,hJK.1,hJK.2⟩
end
abbrev W1:Nat:=98
abbrev W0:Nat:=124
noncomputable def RF:Code:=f98.body.getD .skip
abbrev Tq:Code:=bg RF [true,true,false,true,true,true]
abbrev Su:Code:=bg Tq [true,true,false,true]
abbrev cT:Code:=bg Su [true,true]
abbrev NY:Code:=bg cT [true,true,true]
abbrev dB:Code:=Yf NY
abbrev ey:Code:=bg dB [true,false]
abbrev E8:Code:=bg dB [true,true,false]
abbrev Ho:Code:=bg dB [true,true,true,false]
theorem T8:dB=.block 3 (.seq (.region (wJ ey) (bW ey) true) (.seq (.region (wJ E8) (bW E8) false) (.seq (.region (wJ Ho) (bW Ho) false) (.cond (.tmp 62) (.exit 2) .skip)))):=by kernel_rfl
theorem S4:PT NY=.region (wJ (PT NY)) (bW (PT NY)) false:=by kernel_rfl
def IL(name:ai)(s:List aa×Int)(kids:List aa):Option (Bool×(List aa×Int)):=(Kh kids).bind λks=>(app s.1 [(⟨3,0,name,ks,[],[],[]⟩:aa)]).bind λo=>some (!(bw (s.2+1)==2000),(o,bw (s.2+1)))
abbrev NC(sp:List PVal)(ccons:List aO)(d:aM)(c:aO)(size len i k:Int)(ob nb:Nat)(L:List (Nat×PVal)):List PVal:=
 (cc 65 ([(2,.int .i64 size),(3,.eptr sp),(4,.eptr (ay d)),(7,.val (.pointer (some ⟨ob,0,none⟩))),(8,.int .i64 k),(9,.eptr (aG c)),(13,.val (.pointer (some ⟨nb,0,none⟩)))]++L++[(16,sl aG ccons),(17,.int .i64 len),(18,.int .i64 i)]) [] []).tmps
def JW(c:aO)(ks:List aa)(kv:Value):List (Nat×Nat×PVal):=
 [(1,50,.eptr ((aG c).drop 0)),(2,51,.str c.Name),(3,52,.val kv),(4,53,sl ac ks),(5,54,.agg (ac ⟨3,0,c.Name,ks,[],[],[]⟩)),(7,56,.slice [z9])]
abbrev dC:List Nat:=[49,50,51,52,53,54,55,56,57,58]
theorem Sf:R1 tV eV (bW ey) 8 9 10 11 49 55 56 57 58 54 7 dC (bD ey 8) (bD ey 9) (bD ey 10) (bD ey 11):=
 ⟨by kernel_rfl,by kernel_rfl,by kernel_rfl,by kernel_rfl,by kernel_rfl,by kernel_rfl,by kernel_rfl,by kernel_rfl,by kernel_rfl,by kernel_rfl,by kernel_rfl,by kernel_rfl,by kernel_rfl,by kernel_rfl,by kernel_rfl,by kernel_rfl,by kernel_rfl⟩
theorem Kk{l:List aa}{kv:Value}{Γ:ax}{w:World}(hB:dQ GE Γ w)(h:fA Pg GE eV Γ w (py ac l) l.length kv)(hl:l.length<=cy):Calls Pg W0 #[kv] w λe w'=>∃v Γ',e=.returned v/\Mv GE no Γ w Γ' w'/\VR Γ' [] w' (sl ac l) v:=by
 obtain⟨xs,hown,hxl,hx1,hxv⟩:=h.row
 have hC:=Kg
 have hx:(kv=.slice none 0 0/\l.length=0)\/∃a c,kv=.slice (some a) l.length c/\∀(j:Nat) u,xs[j]? =some u->w.cell? (a.add j)=some u:=by
  rcases h.form with⟨rfl,h0⟩|⟨g,cap,rfl⟩
  ·exact .inl ⟨rfl,h0⟩
  ·exact .inr ⟨_,cap,rfl,hown.cells (g:=g) rfl⟩
 refine(hC.2 w kv l.length xs hx hown.1 hx1 hl).mono λe w' he=>?_
 obtain⟨v',rfl,hown',hbel,hdr⟩:=he
 have m1:Mv GE no Γ w Γ w':=Mv.raw hB hbel.os hbel.tape hbel.output hbel.size (jV hdr) (λb hb _=>hbel.block b hb) λb hb=>hb.elim
 rcases hown'.2 with⟨rfl,h0⟩|⟨g,cap,cur,rfl,hge,hg,hnc,hcm,hcs,htake⟩
 ·have hl0:l=[]:=vai h0
  subst hl0
  exact⟨_,Γ,rfl,m1,.sliceNil⟩
 ·have hoff:nD GE Γ w' g:=by
   refine⟨?_,om hg,λq cs hq e=>?_⟩
   ·cases hΓ:Γ g with
    |none=>rfl
    |some m=>exact absurd (hB.lt hΓ) (vcC.2 hge)
   ·exact absurd (e▸(hB.gx q cs hq).1) (vcC.2 hge)
  have m2:=Mv.freeze (k:=l.length * Pg.cellsOf eV) m1.base hoff hg (by rw[hcs];exact vaK _ hnc)
  have m3:Mv GE no Γ w (Γ.put g (l.length * Pg.cellsOf eV)) w':=m1.trans m2 λb hb=>by
   have hb:b=g:=hb
   exact .inr (hb▸hge)
  refine⟨_,_,rfl,m3,?_⟩
  have hlm:(l.map ac).length=l.length:=by simp
  have hk:0<Pg.cellsOf eV:=bz.hp
  have:=kO (Γ:=Γ.put g (l.length * Pg.cellsOf eV)) (bs:=[]) (w:=w') (es:=l.map ac) (cap:=cap) (size:=Pg.cellsOf eV) hg (Γ.put_same _ _) (by rw[hlm];exact vaj _) hk (by rw[hlm];exact hnc) (λi x hx=>by
   obtain⟨y,_,rfl⟩:=vah.1 (vaq hx)
   exact bz.hc y) (λi x k q hx hq=>by
   have hil:i<l.length:=by have:=ag hx;omega
   have hkl:k<Pg.cellsOf eV:=by
    obtain⟨y,_,rfl⟩:=vah.1 (vaq hx)
    have:=ag hq;rw[bz.hc y]at this;exact this
   have hlt:=uI hil hkl
   have hpos:(py ac l)[i * Pg.cellsOf eV+k]? =some q:=by
    unfold py
    exact rQ (λx hx=>by obtain⟨y,_,rfl⟩:=vah.1 hx;exact bz.hc y) hx hq
   have hxi:i * Pg.cellsOf eV+k<xs.length:=by rw[hown.1];exact hlt
   refine⟨xs[i * Pg.cellsOf eV+k],?_,(hxv _ q _ hpos (vaa hxi)).mono m3.le (.refl _)⟩
   have h1:(cur.toList.take (l.length * Pg.cellsOf eV))[i * Pg.cellsOf eV+k]? =xs[i * Pg.cellsOf eV+k]?:=by rw[htake]
   rw[vas hlt,vaa hxi]at h1
   simpa using h1)
  rw[hlm]at this
  exact this
section
variable{Fc:Fence}[hF:OkF Fc]{sp:List PVal}{ccons:List aO}{d:aM}{c:aO}{size len i k:Int}{ob nb:Nat}{a:Array Value}{Γ Γ':ax}{w w':World}{ds:List Deferred}{nn:Nat}{s:List aa×Int}{kids:List aa}{kv v:Value}
theorem AV(ks:List aa):Ey (NC sp ccons d c size len i k ob nb [(14,.val kv)]) (JW c ks kv):=v8 (by kernel_rfl)
theorem Hj{o:Oper}{g:FuncId}{args:Array Operand}{tys:Array TypeId}{next:Act->World->Prop}{Q:Exit->Act->World->Prop}(ho:o.op=.call {callee:=.value (.func g),args:=args,argTypes:=tys})(hd:cw o=true)(hc:∀vs w,(callFunc g vs).run Pg w=.ok (.enter g vs) w){R:Ending->World->Prop}
  (h:Calls Pg g (args.map (Act.mk a ds).eval) w R) (hR:∀e w',R e w'->∃v,e=.returned v/\next ((Act.mk a ds).put o.dst v) w'):o.wpIn Fc nn Pg ⟨a,ds⟩ w next Q:=by
 refine hF.h hd ?_
 have hrun:(execOp (Act.mk a ds).eval o).run Pg w=.ok (.enter g (args.map (Act.mk a ds).eval)) w:=by
  simp only[execOp,ho]
  simp[resolve,Act.eval,Deferred.ofValue,invoke,hc]
 unfold Oper.wp
 rw[hrun,Oper.upon_enter]
 refine h.mono λe w' he=>?_
 obtain⟨v,rfl,hx⟩:=hR e w' he
 exact hx
def IC(sp:List PVal)(ccons:List aO)(d:aM)(c:aO)(size len i k:Int)(ob nb:Nat)(ks:List aa)(kv v:Value)(n:Nat)(a0:Array Value)(L:Nat->Prop)(a:Act)(Γ:ax)(w:World):Prop:=
 mN (NC sp ccons d c size len i k ob nb [(14,.val kv)]) (JW c ks kv) L a.tmps Γ w/\(L 0->a.tmps[49]? =some v)/\(L 6->a.tmps[55]? =some (.int .i64 (n:Int)))/\∀t,dC.contains t=false->a.tmps[t]? =a0[t]?
theorem VS(hB:dQ GE Γ w)(hfr:Fr Γ w a (NC sp ccons d c size len i k ob nb [(14,.val kv)]))(hk:fA Pg GE eV Γ w (py ac kids) kids.length kv)(hkl:kids.length<=cy){o:List aa}(ho:app s.1 [(⟨3,0,c.Name,kids,[],[],[]⟩:aa)]=some o)
  (hrow:fA Pg GE eV Γ w (py ac s.1) s.1.length v) (hh:wc w ob v) (hof:nD GE Γ w ob) (hne:v.ownBlock≠some ob):
  (Code.region (wJ ey) (bW ey) true).wpIn Fc nn Pg (λe a' w'=>e=.normal/\a'.defers=ds/\∃Γ' v',Mv GE (λb=>b=ob\/v.ownBlock=some b) Γ w Γ' w'/\fA Pg GE eV Γ' w' (py ac o) o.length v'/\wc w' ob v'/\nD GE Γ' w' ob/\v'.ownBlock≠some ob/\(∀b,v'.ownBlock=some b->v.ownBlock=some b\/w.heap.size<=b)/\
   Fr Γ' w' a'.tmps (NC sp ccons d c size len i k ob nb [])) ⟨a,ds⟩ w:=by
 obtain⟨hlen,rfl⟩:=De ho
 have hsz:a.size=65:=hfr.sz
 have hraw:a[7]? =some (.pointer (some ⟨ob,0,none⟩)):=hfr.raw (u:=.pointer (some ⟨ob,0,none⟩)) (by kernel_rfl)
 refine Oh (T:=tV) (e:=eV) (cs:=py ac s.1) (ps:=ac ⟨3,0,c.Name,kids,[],[],[]⟩) (k:=s.1.length) (v:=v) (kb:=ob) mixed (by kernel_rfl) (by kernel_rfl) LN (by kernel_rfl) (by kernel_rfl) Sf hB hrow (bz.flat_len s.1) hh hof hne (by simpa using hlen) (bz.hc _) (bz.ho _) (IC sp ccons d c size len i k ob nb kids kv v s.1.length a) ?_ ?_ (by rw[hsz];decide) (by rw[hsz];decide) ?_ ?_
 ·rintro L ⟨a1,ds'⟩ Γ1 w1 j o hmv ⟨hP,h0,h6,hD⟩ rfl ho j8 j9 j10 j11 hnl hed
  have hj:j<12:=by
   have h1:=(vaf.1 ho).1
   have h2:(bW ey).size=12:=by kernel_rfl
   omega
  have hd1:=hh.mv hmv id
  have conv:∀{dd:Nat} {a':Act} {w':World},49≠dd->dd≠55->dC.contains dd=true->(∃Γ',Mv GE no Γ1 w1 Γ' w'/\a'.defers=ds'/\mN (NC sp ccons d c size len i k ob nb [(14,.val kv)]) (JW c kids kv) (λq=>L q\/q=j) a'.tmps Γ' w'/\∃u,a'.tmps=a1.setIfInBounds dd u)->j≠0->j≠6->
    ∃Γ',Mv GE no Γ1 w1 Γ' w'/\a'.defers=ds'/\IC sp ccons d c size len i k ob nb kids kv v s.1.length a (λq=>L q\/q=j) a' Γ' w':=by
   rintro dd a' w' n1 n2 n3 ⟨Γ',m',hd',hP',u,hu⟩ hj0 hj6
   refine⟨Γ',m',hd',hP',λhx=>?_,λhx=>?_,?_⟩
   ·rw[hu,vau (Ne.symm n1)];exact h0 (hx.resolve_right λe=>hj0 e.symm)
   ·rw[hu,vau n2];exact h6 (hx.resolve_right λe=>hj6 e.symm)
   ·rw[hu];exact nV n3 hD
  rcases(show j=0\/j=1\/j=2\/j=3\/j=4\/j=5\/j=6\/j=7 by omega)with rfl|rfl|rfl|rfl|rfl|rfl|rfl|rfl
  ·obtain rfl:bD ey 0=o:=vaw ((show(bW ey)[0]? =some (bD ey 0) by kernel_rfl).symm.trans ho)
   have hop:(bD ey 0).op=.load tV (.tmp 7):=by kernel_rfl
   have hkp:(Act.mk a1 ds').eval (.tmp 7)=.pointer (some ⟨ob,0,none⟩):=aL ((hD 7 rfl).trans hraw)
   refine cC (by kernel_rfl) (v:=v) (w':=w1) (by simp[execOp,hop,hkp,hd1.load (P:=Pg) (T:=tV) (by kernel_rfl)]) ⟨Γ1,.refl hmv.base,aT _ _ _,?_⟩
   rw[show(bD ey 0).dst=some 49 by kernel_rfl]
   have hs1:a1.size=65:=hP.fr.sz
   refine⟨hP.other (by kernel_rfl) (by simp[JW]),λ_=>by show(a1.setIfInBounds 49 v)[49]? =_;simp[hs1],λhx=>?_,nV rfl hD⟩
   show(a1.setIfInBounds 49 v)[55]? =_
   rw[vau (by decide)]
   exact h6 (hx.resolve_right (by decide))
  ·obtain rfl:bD ey 1=o:=vaw ((show(bW ey)[1]? =some (bD ey 1) by kernel_rfl).symm.trans ho)
   have e1:iW Pg (bD ey 1).op 0 (opv GE (kM (NC sp ccons d c size len i k ob nb [(14,.val kv)]) [])) []=(au Pg 76 (.eptr (aG c)) 0).map (λp=>(p,[])):=by kernel_rfl
   exact Oper.wpIn_mono (λa' w' hq=>conv (dd:=50) (by decide) (by decide) rfl hq (by decide) (by decide)) (jp (AV kids) hmv.base hP (o:=bD ey 1) (i:=1) (d:=50) (p:=.eptr ((aG c).drop 0)) (by simp[JW]) (by kernel_rfl) (by kernel_rfl) (by kernel_rfl) [] (by simp) hed (by rw[e1,nk];rfl))
  ·obtain rfl:bD ey 2=o:=vaw ((show(bW ey)[2]? =some (bD ey 2) by kernel_rfl).symm.trans ho)
   have e1:iW Pg (bD ey 2).op 0 (opv GE (kM (NC sp ccons d c size len i k ob nb [(14,.val kv)]) [(1,50,.eptr ((aG c).drop 0))])) []=(aC Pg 9 ((aG c).drop 0)).map (λp=>(p,[])):=by kernel_rfl
   exact Oper.wpIn_mono (λa' w' hq=>conv (dd:=51) (by decide) (by decide) rfl hq (by decide) (by decide)) (jp (AV kids) hmv.base hP (o:=bD ey 2) (i:=2) (d:=51) (p:=.str c.Name) (by simp[JW]) (by kernel_rfl) (by kernel_rfl) (by kernel_rfl) [(1,50,.eptr ((aG c).drop 0))] (by intro y hy;obtain rfl:=vbd.1 hy;exact⟨by simp[JW],by kernel_rfl⟩) hed (by rw[e1,pL];rfl))
  ·obtain rfl:bD ey 3=o:=vaw ((show(bW ey)[3]? =some (bD ey 3) by kernel_rfl).symm.trans ho)
   exact Oper.wpIn_mono (λa' w' hq=>conv (dd:=52) (by decide) (by decide) rfl hq (by decide) (by decide)) (jp (AV kids) hmv.base hP (o:=bD ey 3) (i:=3) (d:=52) (p:=.val kv) (by simp[JW]) (by kernel_rfl) (by kernel_rfl) (by kernel_rfl) [] (by simp) hed (by kernel_rfl))
  ·obtain rfl:bD ey 4=o:=vaw ((show(bW ey)[4]? =some (bD ey 4) by kernel_rfl).symm.trans ho)
   obtain⟨u,u1,u2⟩:=hP.at' (3,52,.val kv) (by simp[JW]) (gO (j:=3) (by kernel_rfl) hed)
   cases u2
   have e52:(Act.mk a1 ds').eval (.tmp 52)=kv:=aL u1
   have hop:(bD ey 4).op=.call {callee:=.value (.func W0),args:=#[.tmp 52],argTypes:=JX (bD ey 4)}:=by kernel_rfl
   have hcl:=Kk hmv.base (hk.mv hmv λb _=>id) hkl
   refine Hj hop (by kernel_rfl) call124 (by
    have e:(#[.tmp 52]:Array Operand).map (Act.mk a1 ds').eval=#[kv]:=by simp[e52]
    rw[e];exact hcl) ?_
   rintro e w2 ⟨v2,Γ2,rfl,m2,hv2⟩
   refine⟨v2,rfl,conv (dd:=53) (by decide) (by decide) rfl ⟨Γ2,m2,aT _ _ _,?_,v2,by rw[show(bD ey 4).dst=some 53 by kernel_rfl];rfl⟩ (by decide) (by decide)⟩
   rw[show(bD ey 4).dst=some 53 by kernel_rfl]
   exact(hP.mv m2.le).put (AV kids) (i:=4) (d:=53) (p:=sl ac kids) (by simp[JW]) hv2
  ·obtain rfl:bD ey 5=o:=vaw ((show(bW ey)[5]? =some (bD ey 5) by kernel_rfl).symm.trans ho)
   have e1:iW Pg (bD ey 5).op 0 (opv GE (kM (NC sp ccons d c size len i k ob nb [(14,.val kv)]) [(2,51,.str c.Name),(4,53,sl ac kids)])) []=(dF Pg eV [(0,.int .i64 3),(2,.str c.Name),(3,sl ac kids)]).map (λp=>(p,[])):=by kernel_rfl
   exact Oper.wpIn_mono (λa' w' hq=>conv (dd:=54) (by decide) (by decide) rfl hq (by decide) (by decide)) (jp (AV kids) hmv.base hP (o:=bD ey 5) (i:=5) (d:=54) (p:=.agg (ac ⟨3,0,c.Name,kids,[],[],[]⟩)) (by simp[JW]) (by kernel_rfl) (by kernel_rfl) (by kernel_rfl) [(2,51,.str c.Name),(4,53,sl ac kids)] (by
    intro y hy
    rcases vat.1 hy with rfl|hy
    ·exact⟨by simp[JW],by kernel_rfl⟩
    ·obtain rfl:=vbd.1 hy;exact⟨by simp[JW],by kernel_rfl⟩) hed (by rw[e1,sH];rfl))
  ·obtain rfl:bD ey 6=o:=vaw ((show(bW ey)[6]? =some (bD ey 6) by kernel_rfl).symm.trans ho)
   have hop:(bD ey 6).op=.call {callee:=.builtin .len,args:=#[.tmp 49],argTypes:=#[tV]}:=by kernel_rfl
   have hv:(Act.mk a1 ds').eval (.tmp 49)=v:=aL (h0 (gO (j:=0) (by kernel_rfl) hed))
   have hrun:(execOp (Act.mk a1 ds').eval (bD ey 6)).run Pg w1=.ok (.value (.int .i64 (s.1.length:Int))) w1:=by
    rcases hrow.form with⟨rfl,hz⟩|⟨g,cap,rfl⟩
    ·simp[execOp,hop,resolve,invoke,builtin,hv,Builtin.len_,run_underlying LN.u,goInt,hz]
    ·simp[execOp,hop,resolve,invoke,builtin,hv,Builtin.len_,run_underlying LN.u,goInt]
   refine cC (by kernel_rfl) hrun ⟨Γ1,.refl hmv.base,aT _ _ _,?_⟩
   rw[show(bD ey 6).dst=some 55 by kernel_rfl]
   have hs1:a1.size=65:=hP.fr.sz
   refine⟨hP.other (by kernel_rfl) (by simp[JW]),λhx=>?_,λ_=>by show(a1.setIfInBounds 55 _)[55]? =_;simp[hs1],nV rfl hD⟩
   show(a1.setIfInBounds 55 _)[49]? =_
   rw[vau (by decide)]
   exact h0 (hx.resolve_right (by decide))
  ·obtain rfl:bD ey 7=o:=vaw ((show(bW ey)[7]? =some (bD ey 7) by kernel_rfl).symm.trans ho)
   exact Oper.wpIn_mono (λa' w' hq=>conv (dd:=56) (by decide) (by decide) rfl hq (by decide) (by decide)) (jp (AV kids) hmv.base hP (o:=bD ey 7) (i:=7) (d:=56) (p:=.slice [z9]) (by simp[JW]) (by kernel_rfl) (by kernel_rfl) (by kernel_rfl) [] (by simp) hed (by kernel_rfl))
 ·rintro L a1 Γ1 w1 hmv ⟨hP,h0,h6,hD⟩ hall
  have hs:(bW ey).size=12:=by kernel_rfl
  have hL:∀j,j<8->L j:=λj hj=>hall j (by omega) (by omega) (by omega) (by omega) (by omega)
  obtain⟨u,e1,e2⟩:=hP.at' (5,54,.agg (ac ⟨3,0,c.Name,kids,[],[],[]⟩)) (by simp[JW]) (hL 5 (by decide))
  obtain⟨q,e3,e4⟩:=hP.at' (7,56,.slice [z9]) (by simp[JW]) (hL 7 (by decide))
  exact⟨z9,u,q,h0 (hL 0 (by decide)),h6 (hL 6 (by decide)),e3,e4,by kernel_rfl,by decide,e1,e2,(hD 7 rfl).trans hraw,by rw[hP.fr.sz,hsz];rfl,hD⟩
 ·intro Γ1 w1 hmv
  exact⟨⟨hfr.mv hmv.le,λy _ h=>h.elim⟩,λh=>h.elim,λh=>h.elim,λ_ _=>rfl⟩
 ·rintro a1 Γ1 w1 v' hd hmv hrow' hh' ho' hne' hown' hsz' hD
  refine⟨rfl,hd,Γ1,v',hmv,?_,hh',ho',hne',hown',Mn (D:=dC) ((hfr.forget (tm':=NC sp ccons d c size len i k ob nb []) (by kernel_rfl)).mv hmv.le) hsz' hD (by kernel_rfl)⟩
  rw[CD,vaD];exact hrow'
end
theorem Mv.putObj{Γ:ax}{w:World}{l:Nat}(hB:dQ GE Γ w)(ho:nD GE Γ w l)(o:Obj):Mv GE (λb=>b=l) Γ w Γ (w.putObj l o):=
 Mv.raw hB rfl rfl rfl (by simp) (vaj _) (λb _ hb=>World.putObj_heap_other hb) λb hb=>.inl (hb▸ho)
theorem nD.keep{Γ:ax}{w w':World}{b:Nat}(h:nD GE Γ w b)(hs:w.heap.size<=w'.heap.size):nD GE Γ w' b:=⟨h.1,vaF h.2.1 hs,h.2.2⟩
section
variable{Fc:Fence}[hF:OkF Fc]{sp:List PVal}{ccons:List aO}{d:aM}{c:aO}{size len i k:Int}{ob nb:Nat}{a:Array Value}{Γ Γ':ax}{w w':World}{ds:List Deferred}{nn:Nat}{s:List aa×Int}{kids:List aa}{kv v:Value}
theorem Kb{name:ai}{r:Bool×(List aa×Int)}(h:IL name s kids=some r):kids.length<=cy/\app s.1 [(⟨3,0,name,kids,[],[],[]⟩:aa)]=some r.2.1/\r.1=(!(bw (s.2+1)==2000))/\r.2.2=bw (s.2+1):=by
 unfold IL at h
 obtain⟨ks,h1,h'⟩:=Af h
 obtain⟨o,h2,h''⟩:=Af h'
 obtain⟨h3,h4⟩:=IV h1
 have h5:=vaw h''
 rw[h4]at h2
 rw[<-h5]
 exact⟨h3,h2,rfl,rfl⟩
theorem SD(hB:dQ GE Γ w)(hfr:Fr Γ w a (NC sp ccons d c size len i k ob nb [(14,.val kv)]))(hk:fA Pg GE eV Γ w (py ac kids) kids.length kv){r:Bool×(List aa×Int)}(hr:IL c.Name s kids=some r)
  (hrow:fA Pg GE eV Γ w (py ac s.1) s.1.length v) (hh:wc w ob v) (hof:nD GE Γ w ob) (hne:v.ownBlock≠some ob) (hn:wc w nb (.int .i64 s.2)) (hon:nD GE Γ w nb) (hnv:v.ownBlock≠some nb) (hon':ob≠nb):
  dB.wpIn Fc nn Pg (λe a' w'=>((e=.normal/\r.1=true)\/(e=.exit 2/\r.1=false))/\∃Γ' v',Mv GE (λb=>b=ob\/b=nb\/v.ownBlock=some b) Γ w Γ' w'/\fA Pg GE eV Γ' w' (py ac r.2.1) r.2.1.length v'/\wc w' ob v'/\nD GE Γ' w' ob/\v'.ownBlock≠some ob/\v'.ownBlock≠some nb/\(∀b,v'.ownBlock=some b->v.ownBlock=some b\/w.heap.size<=b)/\
   wc w' nb (.int .i64 r.2.2)/\nD GE Γ' w' nb) ⟨a,ds⟩ w:=by
 obtain⟨q1,q2,q3,q4⟩:=Kb hr
 rw[T8]
 refine wpIn_block (wpIn_seq (wpIn_mono (VS hB hfr hk q1 q2 hrow hh hof hne) ?_))
 rintro e ⟨a1,ds1⟩ w1 ⟨rfl,rfl,Γ1,v1,m1,row1,hh1,of1,ne1,own1,g1⟩
 have hn1:wc w1 nb (.int .i64 s.2):=hn.mv m1 λh=>h.elim (λe=>hon' e.symm) hnv
 have on1:nD GE Γ1 w1 nb:=hon.mv m1 λh=>h.elim (λe=>hon' e.symm) hnv
 have nv1:v1.ownBlock≠some nb:=λh=>(own1 nb h).elim hnv λh=>by have:=hon.2.1;omega
 refine wpIn_seq (wpIn_region ?_)
 rw[show List.range (bW E8).size=[0,1,2] by kernel_rfl]
 have e13:∀{a':Array Value} {tm:List PVal} {Γ:ax} {w:World},Fr Γ w a' tm->tm[13]? =some (.val (.pointer (some ⟨nb,0,none⟩)))->(Act.mk a' ds1).eval (.tmp 13)=.pointer (some ⟨nb,0,none⟩):=λh hq=>aL (h.raw hq)
 refine bR (o:=bD E8 0) (by kernel_rfl) (by kernel_rfl) (cC (by kernel_rfl) (v:=.int .i64 s.2) (w':=w1) (by simp[execOp,show(bD E8 0).op=.load 3 (.tmp 13) by kernel_rfl,e13 g1 (by kernel_rfl),hn1.load (P:=Pg) (T:=3) (by kernel_rfl)]) ?_)
 rw[show(bD E8 0).dst=some 59 by kernel_rfl]
 have g2:=g1.set (d:=59) (p:=.int .i64 s.2) (.int _ _)
 refine bR (o:=bD E8 1) (by kernel_rfl) (by kernel_rfl) (g2.opS m1.base (d:=60) (p:=.int .i64 (bw (s.2+1))) (by kernel_rfl) (by kernel_rfl) (by kernel_rfl) (by kernel_rfl) λa3 Γ3 w3 m3 g3=>?_)
 have e60:(Act.mk a3 ds1).eval (.tmp 60)=.int .i64 (bw (s.2+1)):=by
  have:=g3.ev (t:=60) (p:=.int .i64 (bw (s.2+1))) (by kernel_rfl) ds1
  generalize (Act.mk a3 ds1).eval (.tmp 60)=q at this
  cases this;rfl
 obtain⟨w4,hrun4,m4,hn4⟩:=(hn1.mv m3 id).store (P:=Pg) (T:=3) (u:=.int .i64 (bw (s.2+1))) m3.base (by kernel_rfl) (by kernel_rfl) rfl (on1.mv m3 id)
 refine bR (o:=bD E8 2) (by kernel_rfl) (by kernel_rfl) (ku (a:=a3) (by kernel_rfl) (w':=w4) (by simp[execOp,show(bD E8 2).op=.store 3 (.tmp 13) (.tmp 60) by kernel_rfl,e13 g3 (by kernel_rfl),e60,hrun4]) ?_)
 rw[show(bD E8 2).dst=none by kernel_rfl]
 show(Code.seq (.region (wJ Ho) (bW Ho) false) (.cond (.tmp 62) (.exit 2) .skip)).wpIn Fc nn Pg _ ⟨a3,ds1⟩ w4
 have on4:nD GE Γ3 w4 nb:=(on1.mv m3 id).keep m4.size
 have g4:=g3.mv m4.le
 refine wpIn_seq (wpIn_region ?_)
 rw[show List.range (bW Ho).size=[0,1] by kernel_rfl]
 refine bR (o:=bD Ho 0) (by kernel_rfl) (by kernel_rfl) (cC (a:=a3) (by kernel_rfl) (v:=.int .i64 (bw (s.2+1))) (w':=w4) (by simp[execOp,show(bD Ho 0).op=.load 3 (.tmp 13) by kernel_rfl,e13 g4 (by kernel_rfl),hn4.load (P:=Pg) (T:=3) (by kernel_rfl)]) ?_)
 rw[show(bD Ho 0).dst=some 61 by kernel_rfl]
 have g5:=g4.set (d:=61) (p:=.int .i64 (bw (s.2+1))) (.int _ _)
 refine bR (o:=bD Ho 1) (by kernel_rfl) (by kernel_rfl) (g5.opS m4.base (d:=62) (p:=.bool (bw (s.2+1)==2000)) (by kernel_rfl) (by kernel_rfl) (by kernel_rfl) (by kernel_rfl) λa6 Γ6 w6 m6 g6=>?_)
 have m36:Mv GE (λb=>b=nb) Γ1 w1 Γ6 w6:=((m3.mono (M:=λb=>b=nb) λb h=>h.elim).trans m4 λb h=>.inl h).trans m6 λb h=>h.elim
 have mAll:Mv GE (λb=>b=ob\/b=nb\/v.ownBlock=some b) Γ w Γ6 w6:=(m1.mono (M:=λb=>b=ob\/b=nb\/v.ownBlock=some b) λb h=>.inl (h.imp id .inr)).trans m36 λb h=>.inl (.inr (.inl h))
 have fin:∃Γ' v',Mv GE (λb=>b=ob\/b=nb\/v.ownBlock=some b) Γ w Γ' w6/\fA Pg GE eV Γ' w6 (py ac r.2.1) r.2.1.length v'/\wc w6 ob v'/\nD GE Γ' w6 ob/\v'.ownBlock≠some ob/\v'.ownBlock≠some nb/\(∀b,v'.ownBlock=some b->v.ownBlock=some b\/w.heap.size<=b)/\
   wc w6 nb (.int .i64 r.2.2)/\nD GE Γ' w6 nb:=by
  refine⟨Γ6,v1,mAll,row1.mv m36 λb hb hM=>?_,hh1.mv m36 hon',of1.mv m36 hon',ne1,nv1,own1,?_,on4.mv m6 id⟩
  ·have hM:b=nb:=hM
   exact nv1 (hM▸hb)
  ·rw[q4];exact hn4.mv m6 id
 refine wpIn_cond (g6.evb (t:=62) (x:=bw (s.2+1)==2000) (by kernel_rfl) ds1) ?_
 cases hc:(bw (s.2+1)==2000)with
 |true=>
  refine wpIn_exit ⟨.inr ⟨rfl,by rw[q3,hc];rfl⟩,fin⟩
 |false=>
  exact wpIn_skip ⟨.inl ⟨rfl,by rw[q3,hc];rfl⟩,fin⟩
end
abbrev mw(fn:FuncId)(a:Array Value)(D:Nat)(b:Bool):Loop:={state:=if b then .ready else .done,pending:=if b then none else some (.exit 2),fn:=fn,tmps:=a,params:=#[48],assign:=PT NY,body:=dB,defers:=D}
section
variable{sp:List PVal}{ccons:List aO}{d:aM}{c:aO}{size len i k:Int}{ob nb l D:Nat}{a:Array Value}{fn:FuncId}
def FC(ob nb l D:Nat)(v:Value):Nat->Prop:=λb=>b=ob\/b=nb\/b=l\/b=D\/v.ownBlock=some b
structure JC(sp:List PVal)(ccons:List aO)(d:aM)(c:aO)(size len i k:Int)(ob nb l D:Nat)(a:Array Value)(fn:FuncId)(F:Nat->Prop)(b:Bool)(s:List aa×Int)(Γ:ax)(w:World):Prop where
 base:dQ GE Γ w
 fr:Fr Γ w a (NC sp ccons d c size len i k ob nb [])
 ex:∃v,F=FC ob nb l D v/\wc w ob v/\fA Pg GE eV Γ w (py ac s.1) s.1.length v/\v.ownBlock≠some ob/\v.ownBlock≠some nb/\v.ownBlock≠some l/\v.ownBlock≠some D
 oo:nD GE Γ w ob
 on:nD GE Γ w nb
 ol:nD GE Γ w l
 oD:nD GE Γ w D
 hn:wc w nb (.int .i64 s.2)
 rl:w.heap[l]? =some (.loop (mw fn a D b))
 rD:w.heap[D]? =some (.deferred (some []))
 ds:ob≠nb/\ob≠l/\ob≠D/\nb≠l/\nb≠D/\l≠D
theorem TA:Yv 0 l (IL c.Name) (JC sp ccons d c size len i k ob nb l D a fn) where
 base:=λh=>h.base
 low:=λ{F b s Γ w} h x hx=>by
  obtain⟨v,rfl,_,hr,_⟩:=h.ex
  rcases hx with rfl|rfl|rfl|rfl|hx
  ·exact h.oo.2.1
  ·exact h.on.2.1
  ·exact h.ol.2.1
  ·exact h.oD.2.1
  ·exact(hr.off _ hx).2.1
 side:=λ{F b s Γ w M Γ' w'} h hm hM=>by
  obtain⟨v,rfl,h1,h2,h3⟩:=h.ex
  have nM:∀x,FC ob nb l D v x->¬M x:=λx hx hx'=>hM x hx' hx
  exact{
   base:=hm.base
   fr:=h.fr.mv hm.le
   ex:=⟨v,rfl,h1.mv hm (nM _ (.inl rfl)),h2.mv hm λx hx=>nM x (.inr (.inr (.inr (.inr hx)))),h3⟩
   oo:=h.oo.mv hm (nM _ (.inl rfl))
   on:=h.on.mv hm (nM _ (.inr (.inl rfl)))
   ol:=h.ol.mv hm (nM _ (.inr (.inr (.inl rfl))))
   oD:=h.oD.mv hm (nM _ (.inr (.inr (.inr (.inl rfl)))))
   hn:=h.hn.mv hm (nM _ (.inr (.inl rfl)))
   rl:=(hm.keep h.ol.2.1 (nM _ (.inr (.inr (.inl rfl))))).trans h.rl
   rD:=(hm.keep h.oD.2.1 (nM _ (.inr (.inr (.inr (.inl rfl)))))).trans h.rD
   ds:=h.ds}
 yield:=λ{F s Γ w kids kv r} n h hk hkF hr=>by
  obtain⟨v,rfl,h1,h2,h3,h4,h5,h6⟩:=h.ex
  obtain⟨d1,d2,d3,d4,d5,d6⟩:=h.ds
  refine⟨_,_,_,_,run_yield h.rl rfl,?_⟩
  have hz:(((#[48]:Array Tmp).zip #[kv]).foldl (λtmps (t,a)=>tmps.setIfInBounds t a) a)=a.setIfInBounds 48 kv:=by simp
  show RoundIn Fence.wide n Pg l fn (((#[48]:Array Tmp).zip #[kv]).foldl (λtmps (t,a)=>tmps.setIfInBounds t a) a) (PT NY) dB w _
  rw[hz]
  have g0:=h.fr.set (d:=48) (p:=.val kv) (.val kv)
  refine roundIn_of_wpIn vzz ?_
  rw[S4]
  refine wpIn_region ?_
  rw[show List.range (bW (PT NY)).size=[0] by kernel_rfl]
  refine bR (o:=bD (PT NY) 0) (by kernel_rfl) (by kernel_rfl) (g0.opS h.base (d:=14) (p:=.val kv) (by kernel_rfl) (by kernel_rfl) (by kernel_rfl) (by kernel_rfl) λa1 Γ1 w1 m1 g1=>?_)
  have hl1:w1.heap[l]? =some (.loop (mw fn a D true)):=(m1.keep h.ol.2.1 id).trans h.rl
  refine⟨_,run_beginRound hl1 rfl,?_⟩
  have m2:=Mv.putObj m1.base (h.ol.mv m1 id) (.loop {mw fn a D true with state:=.busy})
  have hl2:(w1.putObj l (.loop {mw fn a D true with state:=.busy})).heap[l]? =some (.loop {mw fn a D true with state:=.busy}):=World.putObj_heap_same (om hl1)
  have ol2:nD GE Γ1 (w1.putObj l (.loop {mw fn a D true with state:=.busy})) l:=(h.ol.mv m1 id).keep m2.size
  generalize w1.putObj l (.loop {mw fn a D true with state:=.busy})=w2 at m2 hl2 ol2
  have m12:Mv GE (λb=>b=l) Γ w Γ1 w2:=(m1.mono (M:=λb=>b=l) λb h=>h.elim).trans m2 λb h=>.inl h
  have g2:=(g1.mv m2.le).forget (tm':=NC sp ccons d c size len i k ob nb [(14,.val kv)]) (by kernel_rfl)
  have kl:∀b,kv.ownBlock=some b->¬b=l:=λb hb e=>(hkF b hb).1 (.inr (.inr (.inl e)))
  refine wpIn_mono (SD (ds:=[]) m2.base g2 (hk.mv m12 λb hb=>kl b hb) hr (h2.mv m12 λb hb e=>h5 (by have e:b=l:=e;rw[<-e];exact hb)) (h1.mv m12 d2) (h.oo.mv m12 d2) h3 (h.hn.mv m12 d4) (h.on.mv m12 d4) h4 d1) ?_
  rintro e ⟨a3,ds3⟩ w3 ⟨he,Γ3,v3,m3,row3,hh3,of3,ne3,nn3,own3,hn3,on3⟩
  have hlM:¬(l=ob\/l=nb\/v.ownBlock=some l):=λh=>h.elim (λe=>d2 e.symm) λh=>h.elim (λe=>d4 e.symm) h5
  have hl3:=(m3.keep ol2.2.1 hlM).trans hl2
  have ol3:=ol2.mv m3 hlM
  have hDM:¬(D=ob\/D=nb\/v.ownBlock=some D):=λh=>h.elim (λe=>d3 e.symm) λh=>h.elim (λe=>d5 e.symm) h6
  have oD2:=h.oD.mv m12 λe=>d6 e.symm
  have rD2:=(m12.keep h.oD.2.1 λe=>d6 e.symm).trans h.rD
  have oD3:=oD2.mv m3 hDM
  have rD3:=(m3.keep oD2.2.1 hDM).trans rD2
  have vl3:v3.ownBlock≠some l:=λhx=>(own3 l hx).elim h5 λhx=>by have:=ol2.2.1;omega
  have vD3:v3.ownBlock≠some D:=λhx=>(own3 D hx).elim h6 λhx=>by have:=oD2.2.1;omega
  have fin:∀b:Bool,∃Γ' F',Mv GE (FC ob nb l D v) Γ w Γ' (w3.putObj l (.loop (mw fn a D b)))/\(∀b,F' b->FC ob nb l D v b\/w.heap.size<=b)/\JC sp ccons d c size len i k ob nb l D a fn F' b r.2 Γ' (w3.putObj l (.loop (mw fn a D b))):=λb=>by
   have m4:=Mv.putObj m3.base ol3 (.loop (mw fn a D b))
   have hl4:(w3.putObj l (.loop (mw fn a D b))).heap[l]? =some (.loop (mw fn a D b)):=World.putObj_heap_same (om hl3)
   have mAll:Mv GE (FC ob nb l D v) Γ w Γ3 (w3.putObj l (.loop (mw fn a D b))):=((m12.mono (M:=FC ob nb l D v) λb h=>.inl (.inr (.inr (.inl h)))).trans m3 λb h=>.inl (h.elim .inl λh=>h.elim (λh=>.inr (.inl h)) λh=>.inr (.inr (.inr (.inr h))))).trans m4 λb h=>.inl (.inr (.inr (.inl h)))
   refine⟨Γ3,FC ob nb l D v3,mAll,λx hx=>?_,{
    base:=m4.base
    fr:=h.fr.mv mAll.le
    ex:=⟨v3,rfl,hh3.mv m4 d2,row3.mv m4 λx hx e=>vl3 (by have e:x=l:=e;rw[<-e];exact hx),ne3,nn3,vl3,vD3⟩
    oo:=of3.mv m4 d2
    on:=on3.mv m4 d4
    ol:=ol3.keep m4.size
    oD:=oD3.mv m4 λe=>d6 e.symm
    hn:=hn3.mv m4 d4
    rl:=hl4
    rD:=(m4.keep oD3.2.1 λe=>d6 e.symm).trans rD3
    ds:=h.ds}⟩
   rcases hx with hx|hx|hx|hx|hx
   ·exact .inl (.inl hx)
   ·exact .inl (.inr (.inl hx))
   ·exact .inl (.inr (.inr (.inl hx)))
   ·exact .inl (.inr (.inr (.inr (.inl hx))))
   ·exact(own3 x hx).imp (λh=>.inr (.inr (.inr (.inr h)))) λhx=>vav m12.size hx
  rcases he with⟨rfl,hb⟩|⟨rfl,hb⟩
  ·obtain⟨Γ',F',q1,q2,q3⟩:=fin true
   refine⟨_,_,run_endRound none hl3,Γ',F',by rw[hb];rfl,q1,q2,?_⟩
   rw[hb];exact q3
  ·obtain⟨Γ',F',q1,q2,q3⟩:=fin false
   refine⟨_,_,run_endRound (some (.exit 2)) hl3,Γ',F',by rw[hb];rfl,q1,q2,?_⟩
   rw[hb];exact q3
end
end Go.Proofs.YtjddnhkahpfhdaaGreatDoor
