/- PROVED: a part of the proof. Conditions: none. -/
import Derived.Test.YtjddnhkahpfhdaaGreatDoorPkV13
set_option linter.unusedSimpArgs false
set_option linter.unusedVariables false
noncomputable section
namespace Go.Proofs.YtjddnhkahpfhdaaGreatDoor
open Go Go.RowKit Go.Proofs.Tryz
set_option linter.unusedVariables false
set_option linter.unusedSimpArgs false
set_option maxRecDepth 100000
theorem L8:SG Pg tV eV:=⟨underlying31,by kernel_rfl⟩
structure Sd{S:Type}(lo:Nat)(x:Cx)(J:(Nat->Prop)->Bool->S->ay->World->Prop)(F:Nat->Prop)(s:S)(K:fe)(kids:List aa)(v:Value)(Γ:ay)(w:World):Prop where
 j:J F true s Γ w
 k:KM x.mb K Γ w
 kf:¬F x.mb
 hd:wx w x.kb v
 ho:nB GE Γ w x.kb
 hf:¬F x.kb
 hm:x.kb≠x.mb
 row:fj Pg GE eV Γ w (pG ac kids) kids.length v
 rf:∀b,v.ownBlock=some b->¬F b/\lo<=b/\b≠x.kb/\b≠x.mb
 lw:lo<=w.heap.size
section
variable{S:Type}{lo:Nat}{x:Cx}{step:S->List aa->Option (Bool×S)}{J:(Nat->Prop)->Bool->S->ay->World->Prop}{F:Nat->Prop}{s:S}{K:fe}{kids ks:List aa}{v:Value}{y:aa}
variable{ts:List ae}{size n i:Int}{l:List aa}{a:Array Value}{Γ Γ':ay}{w w':World}{ds:List Deferred}{nn:Nat}
theorem Sd.mv(hY:Yv lo x.l step J)(h:Sd lo x J F s K kids v Γ w){M:Nat->Prop}(hm:Mv GE M Γ w Γ' w')(hM:∀b,M b->¬F b/\b≠x.mb/\b≠x.kb/\v.ownBlock≠some b):Sd lo x J F s K kids v Γ' w' where
 j:=hY.side h.j hm λb hb=>(hM b hb).1
 k:=h.k.mv hm λhb=>(hM _ hb).2.1 rfl
 kf:=h.kf
 hd:=h.hd.mv hm λhb=>(hM _ hb).2.2.1 rfl
 ho:=h.ho.mv hm λhb=>(hM _ hb).2.2.1 rfl
 hf:=h.hf
 hm:=h.hm
 row:=h.row.mv hm λb hb hM'=>(hM b hM').2.2.2 hb
 rf:=h.rf
 lw:=vax h.lw hm.size
abbrev Rb(x:Cx)(ts:List ae)(size n i:Int)(l:List aa)(y:aa):List PVal:=(yV x ts size n i l [(11,.eptr (ac y))] []).tmps
abbrev Jg(x:Cx)(ts:List ae)(size n i:Int)(l:List aa):List PVal:=(yV x ts size n i l [] []).tmps
abbrev z9:List PVal:=[.int .i64 0,.int .i64 0,.str [],.slice [],.slice [],.slice [],.slice []]
def RA(y:aa):List (Nat×Nat×PVal):=[(1,43,.agg (ac y)),(3,45,.slice [z9])]
theorem PP:Fw (Rb x ts size n i l y) (RA y):=wu (by kernel_rfl)
theorem S5:RC tV eV (bY wc) 4 5 6 7 42 44 45 46 47 43 3 [42,43,44,45,46,47] (bF wc 4) (bF wc 5) (bF wc 6) (bF wc 7):=
 ⟨by kernel_rfl,by kernel_rfl,by kernel_rfl,by kernel_rfl,by kernel_rfl,by kernel_rfl,by kernel_rfl,by kernel_rfl,by kernel_rfl,by kernel_rfl,by kernel_rfl,by kernel_rfl,by kernel_rfl,by kernel_rfl,by kernel_rfl,by kernel_rfl,by kernel_rfl⟩
theorem Ec{α:Type}{l r o:List α}(h:app l r=some o):l.length+r.length<=cz/\o=l++r:=by
 unfold app at h
 split at h
 ·cases h;exact⟨by assumption,rfl⟩
 ·cases h
theorem Dz(l:List aa)(y:aa):pG ac (l++[y])=pG ac l++ac y:=by simp[pG]
theorem n9{D:List Nat}{a0 a:Array Value}{d:Nat}{u:Value}(hD:D.contains d=true)(h:∀t,D.contains t=false->a[t]? =a0[t]?):∀t,D.contains t=false->(a.setIfInBounds d u)[t]? =a0[t]?:=λt ht=>by
 rw[vas (λe=>by rw[e,ht]at hD;cases hD)];exact h t ht
def I9(x:Cx)(ts:List ae)(size n i:Int)(l:List aa)(y:aa)(v:Value)(k:Nat)(a0:Array Value)(L:Nat->Prop)(a:Act)(Γ:ay)(w:World):Prop:=
 mI (Rb x ts size n i l y) (RA y) L a.tmps Γ w/\(L 0->a.tmps[42]? =some v)/\(L 2->a.tmps[44]? =some (.int .i64 (k:Int)))/\∀t,[42,43,44,45,46,47].contains t=false->a.tmps[t]? =a0[t]?
def VW(tm:List PVal)(D:List Nat):Bool:=D.all λt=>match tm[t]? with
 |some .undef=>true
 |_=>false
theorem MD{tm:List PVal}{D:List Nat}{a0:Array Value}(h:Fr Γ w a0 tm)(hs:a.size=a0.size)(h1:∀t,D.contains t=false->a[t]? =a0[t]?)(hD:VW tm D=true):Fr Γ w a tm:=
 ⟨by rw[hs,h.sz],λt p u hp hu=>by
  cases ht:D.contains t with
  |false=>rw[h1 t ht]at hu;exact h.tm t p u hp hu
  | true =>
   have:=vao.1 hD t (by simpa using ht)
   rw[hp]at this
   split at this
   ·rename_i hq;cases hq;exact .undef u
   ·cases this⟩
theorem XR(hY:Yv lo x.l step J)(hs:Sd lo x J F s K kids v Γ w)(hap:app kids [y]=some ks)(hfr:Fr Γ w a (Rb x ts size n i l y)):wc.wpIn Fence.wide nn Pg (λe a' w'=>e=.normal/\a'.defers=ds/\∃Γ' v',Mv GE (λb=>b=x.kb\/v.ownBlock=some b) Γ w Γ' w'/\(∀b,v'.ownBlock=some b->v.ownBlock=some b\/w.heap.size<=b)/\Sd lo x J F s K ks v' Γ' w'/\Fr Γ' w' a'.tmps (Jg x ts size n i l)) ⟨a,ds⟩ w:=by
 obtain⟨hlen,rfl⟩:=Ec hap
 have hB:=hY.base hs.j
 have hsz:a.size=62:=hfr.sz
 have hraw:a[3]? =some x.kp:=hfr.raw (u:=x.kp) (by kernel_rfl)
 have key:(Code.region (xn wc) (bY wc) true).wpIn Fence.wide nn Pg (λe a' w'=>e=.normal/\a'.defers=ds/\∃Γ' v',Mv GE (λb=>b=x.kb\/v.ownBlock=some b) Γ w Γ' w'/\(∀b,v'.ownBlock=some b->v.ownBlock=some b\/w.heap.size<=b)/\Sd lo x J F s K (kids++[y]) v' Γ' w'/\Fr Γ' w' a'.tmps (Jg x ts size n i l)) ⟨a,ds⟩ w:=by
  refine Oi (T:=tV) (e:=eV) (cs:=pG ac kids) (ps:=ac y) (k:=kids.length) (v:=v) (kb:=x.kb) mixed (by kernel_rfl) (by kernel_rfl) L8 (by kernel_rfl) (by kernel_rfl) S5 hB hs.row (bE.flat_len kids) hs.hd hs.ho (λh=>(hs.rf _ h).2.2.1 rfl) (by simpa using hlen) (bE.hc y) (bE.ho y) (I9 x ts size n i l y v kids.length a) ?_ ?_ (by rw[hsz];decide) (by rw[hsz];decide) ?_ ?_
  ·rintro L ⟨a1,ds'⟩ Γ1 w1 j o hmv ⟨hP,h0,h2,hD⟩ rfl ho j4 j5 j6 j7 hnl hed
   have hj:j<8:=by
    have h1:=(vaf.1 ho).1
    have h2:(bY wc).size=8:=by kernel_rfl
    omega
   have hrow1:=hs.row.mv hmv λb _=>id
   have hd1:=hs.hd.mv hmv id
   rcases(show j=0\/j=1\/j=2\/j=3 by omega)with rfl|rfl|rfl|rfl
   ·obtain rfl:bF wc 0=o:=vat ((show(bY wc)[0]? =some (bF wc 0) by kernel_rfl).symm.trans ho)
    have hop:(bF wc 0).op=.load tV (.tmp 3):=by kernel_rfl
    have hk:(Act.mk a1 ds').eval (.tmp 3)=x.kp:=aP ((hD 3 rfl).trans hraw)
    refine cC (by kernel_rfl) (v:=v) (w':=w1) (by simp[execOp,hop,hk,hd1.load (P:=Pg) (T:=tV) (by kernel_rfl)]) ⟨Γ1,.refl hmv.base,aV _ _ _,?_⟩
    rw[show(bF wc 0).dst=some 42 by kernel_rfl]
    have hs1:a1.size=62:=hP.fr.sz
    refine⟨hP.other (by kernel_rfl) (by simp[RA]),λ_=>by show(a1.setIfInBounds 42 v)[42]? =_;simp[hs1],λhx=>?_,n9 rfl hD⟩
    show(a1.setIfInBounds 42 v)[44]? =_
    rw[vas (by decide)]
    exact h2 (hx.resolve_right (by decide))
   ·obtain rfl:bF wc 1=o:=vat ((show(bY wc)[1]? =some (bF wc 1) by kernel_rfl).symm.trans ho)
    have e1:iu Pg (bF wc 1).op 0 (opv GE (kw (Rb x ts size n i l y) [])) []=(aG Pg eV (ac y)).map (λp=>(p,[])):=by kernel_rfl
    refine Oper.wpIn_mono (λa' w' hq=>?_) (i7 (PP (x:=x) (ts:=ts) (size:=size) (n:=n) (i:=i) (l:=l)) hmv.base hP (o:=bF wc 1) (i:=1) (d:=43) (p:=.agg (ac y)) (by simp[RA]) (by kernel_rfl) (by kernel_rfl) (by kernel_rfl) [] (by simp) hed (by rw[e1,aB];rfl))
    obtain⟨Γ',hm',hd',hP',u,hu⟩:=hq
    refine⟨Γ',hm',hd',hP',λhx=>?_,λhx=>?_,?_⟩
    ·rw[hu,vas (by decide)];exact h0 (hx.resolve_right (by decide))
    ·rw[hu,vas (by decide)];exact h2 (hx.resolve_right (by decide))
    ·rw[hu];exact n9 rfl hD
   ·obtain rfl:bF wc 2=o:=vat ((show(bY wc)[2]? =some (bF wc 2) by kernel_rfl).symm.trans ho)
    have hop:(bF wc 2).op=.call {callee:=.builtin .len,args:=#[.tmp 42],argTypes:=#[tV]}:=by kernel_rfl
    have hv:(Act.mk a1 ds').eval (.tmp 42)=v:=aP (h0 (gA (j:=0) (by kernel_rfl) hed))
    have hrun:(execOp (Act.mk a1 ds').eval (bF wc 2)).run Pg w1=.ok (.value (.int .i64 (kids.length:Int))) w1:=by
     rcases hs.row.form with⟨rfl,hz⟩|⟨g,cap,rfl⟩
     ·simp[execOp,hop,resolve,invoke,builtin,hv,Builtin.len_,run_underlying L8.u,goInt,hz]
     ·simp[execOp,hop,resolve,invoke,builtin,hv,Builtin.len_,run_underlying L8.u,goInt]
    refine cC (by kernel_rfl) hrun ⟨Γ1,.refl hmv.base,aV _ _ _,?_⟩
    rw[show(bF wc 2).dst=some 44 by kernel_rfl]
    have hs1:a1.size=62:=hP.fr.sz
    refine⟨hP.other (by kernel_rfl) (by simp[RA]),λhx=>?_,λ_=>by show(a1.setIfInBounds 44 _)[44]? =_;simp[hs1],n9 rfl hD⟩
    show(a1.setIfInBounds 44 _)[42]? =_
    rw[vas (by decide)]
    exact h0 (hx.resolve_right (by decide))
   ·obtain rfl:bF wc 3=o:=vat ((show(bY wc)[3]? =some (bF wc 3) by kernel_rfl).symm.trans ho)
    refine Oper.wpIn_mono (λa' w' hq=>?_) (i7 (PP (x:=x) (ts:=ts) (size:=size) (n:=n) (i:=i) (l:=l)) hmv.base hP (o:=bF wc 3) (i:=3) (d:=45) (p:=.slice [z9]) (by simp[RA]) (by kernel_rfl) (by kernel_rfl) (by kernel_rfl) [] (by simp) hed (by kernel_rfl))
    obtain⟨Γ',hm',hd',hP',u,hu⟩:=hq
    refine⟨Γ',hm',hd',hP',λhx=>?_,λhx=>?_,?_⟩
    ·rw[hu,vas (by decide)];exact h0 (hx.resolve_right (by decide))
    ·rw[hu,vas (by decide)];exact h2 (hx.resolve_right (by decide))
    ·rw[hu];exact n9 rfl hD
  ·rintro L a1 Γ1 w1 hmv ⟨hP,h0,h2,hD⟩ hall
   have hs:(bY wc).size=8:=by kernel_rfl
   have hL:∀j,j<4->L j:=λj hj=>hall j (by omega) (by omega) (by omega) (by omega) (by omega)
   obtain⟨u,e1,e2⟩:=hP.at' (1,43,.agg (ac y)) (by simp[RA]) (hL 1 (by decide))
   obtain⟨q,e3,e4⟩:=hP.at' (3,45,.slice [z9]) (by simp[RA]) (hL 3 (by decide))
   exact⟨z9,u,q,h0 (hL 0 (by decide)),h2 (hL 2 (by decide)),e3,e4,by kernel_rfl,by decide,e1,e2,(hD 3 rfl).trans hraw,by rw[hP.fr.sz,hsz];rfl,hD⟩
  ·intro Γ1 w1 hmv
   exact⟨⟨hfr.mv hmv.le,λy _ h=>h.elim⟩,λh=>h.elim,λh=>h.elim,λ_ _=>rfl⟩
  ·rintro a1 Γ1 w1 v' hd hmv hrow' hh' ho' hne' hown' hsz' hD
   have hM:∀b,(b=x.kb\/v.ownBlock=some b)->¬F b/\b≠x.mb:=λb hb=>by
    rcases hb with rfl|hb
    ·exact⟨hs.hf,hs.hm⟩
    ·exact⟨(hs.rf b hb).1,(hs.rf b hb).2.2.2⟩
   have hlow:=hY.low hs.j
   refine⟨rfl,hd,Γ1,v',hmv,hown',⟨hY.side hs.j hmv λb hb=>(hM b hb).1,hs.k.mv hmv λhb=>(hM _ hb).2 rfl,hs.kf,hh',ho',hs.hf,hs.hm,?_,λb hb=>?_,vax hs.lw hmv.size⟩,?_⟩
   ·rw[Dz,vaB];exact hrow'
   ·have hbk:b≠x.kb:=λe=>hne' (e▸hb)
    rcases hown' b hb with h|h
    ·exact hs.rf b h
    ·have hlo:=hs.lw
     refine⟨λhf=>by have:=hlow b hf;omega,by omega,hbk,λe=>by have:=hs.k.off.2.1;omega⟩
   ·exact MD (D:=[42,43,44,45,46,47]) ((hfr.forget (tm':=Jg x ts size n i l) (by kernel_rfl)).mv hmv.le) hsz' hD (by kernel_rfl)
 rw[<-Si]at key
 exact key
theorem VJ:List.range (bY nl).size=[0,1,2,3,4,5]:=by kernel_rfl
theorem Vy(hY:Yv lo x.l step J)(hs:Sd lo x J F s K (kids++[y]) v Γ w)(hfr:Fr Γ w a (Jg x ts size n i l))(hlen:kids.length+1<=cz):nl.wpIn Fence.wide nn Pg (λe a' w'=>e=.normal/\a'.defers=ds/\∃Γ' v',Mv GE (λb=>b=x.kb) Γ w Γ' w'/\(∀b,v'.ownBlock=some b->v.ownBlock=some b)/\Sd lo x J F s K kids v' Γ' w'/\Fr Γ' w' a'.tmps (Jg x ts size n i l)) ⟨a,ds⟩ w:=by
 have hB:=hY.base hs.j
 have hkl:(kids++[y]).length=kids.length+1:=by simp
 rcases hs.row.form with⟨rfl,h0⟩|⟨g,cap,rfl⟩
 ·rw[hkl]at h0;cases h0
 rw[hkl]at hs
 have hrow:=hs.row
 rw[hkl,Dz]at hrow
 have hcut:=hrow.cut (bE.flat_len kids) (bE.hc y)
 have hcc:=hcut.form
 have hcap:kids.length+1<=cap:=by
  obtain⟨xs,hown,_⟩:=hrow.row
  rcases hown.2 with⟨hx,_⟩|⟨g',cap',cur,hx,_,_,hnc,_⟩
  ·cases hx
  ·cases hx;exact hnc
 have key:(Code.region (xn nl) (bY nl) false).wpIn Fence.wide nn Pg (λe a' w'=>e=.normal/\a'.defers=ds/\∃Γ' v',Mv GE (λb=>b=x.kb) Γ w Γ' w'/\(∀b,v'.ownBlock=some b->(Value.slice (some ⟨g,0,none⟩) (kids.length+1) cap).ownBlock=some b)/\Sd lo x J F s K kids v' Γ' w'/\Fr Γ' w' a'.tmps (Jg x ts size n i l)) ⟨a,ds⟩ w:=by
  refine wpIn_region ?_
  rw[VJ]
  have g0:Fr Γ w (a.setIfInBounds 56 (.slice (some ⟨g,0,none⟩) (kids.length+1) cap)) ((Jg x ts size n i l).set 56 (.val (.slice (some ⟨g,0,none⟩) (kids.length+1) cap))):=hfr.set (.val _)
  have hk:∀{a':Array Value} {tm:List PVal},Fr Γ w a' tm->tm[3]? =some (.val x.kp)->(Act.mk a' ds).eval (.tmp 3)=x.kp:=λh hq=>aP (h.raw hq)
  have hld:=hs.hd.load (P:=Pg) (T:=tV) (by kernel_rfl)
  refine bR (o:=bF nl 0) (by kernel_rfl) (by kernel_rfl) (cC (by kernel_rfl) (v:=.slice (some ⟨g,0,none⟩) (kids.length+1) cap) (w':=w) (by simp[execOp,show(bF nl 0).op=.load tV (.tmp 3) by kernel_rfl,hk hfr (by kernel_rfl),hld]) ?_)
  rw[show(bF nl 0).dst=some 56 by kernel_rfl]
  have g1:=g0.set (d:=57) (p:=.val (.slice (some ⟨g,0,none⟩) (kids.length+1) cap)) (.val _)
  refine bR (o:=bF nl 1) (by kernel_rfl) (by kernel_rfl) (cC (a:=a.setIfInBounds 56 _) (by kernel_rfl) (v:=.slice (some ⟨g,0,none⟩) (kids.length+1) cap) (w':=w) (by simp[execOp,show(bF nl 1).op=.load tV (.tmp 3) by kernel_rfl,hk g0 (by kernel_rfl),hld]) ?_)
  rw[show(bF nl 1).dst=some 57 by kernel_rfl]
  have e57:(Act.mk ((a.setIfInBounds 56 (.slice (some ⟨g,0,none⟩) (kids.length+1) cap)).setIfInBounds 57 (.slice (some ⟨g,0,none⟩) (kids.length+1) cap)) ds).eval (.tmp 57)=.slice (some ⟨g,0,none⟩) (kids.length+1) cap:=aP (g1.raw (by kernel_rfl))
  refine bR (o:=bF nl 2) (by kernel_rfl) (by kernel_rfl) (cC (a:=(a.setIfInBounds 56 _).setIfInBounds 57 _) (by kernel_rfl) (v:=.int .i64 ((kids.length+1:Nat):Int)) (w':=w) (by simp[execOp,show(bF nl 2).op=.call {callee:=.builtin .len,args:=#[.tmp 57],argTypes:=#[tV]} by kernel_rfl,resolve,invoke,builtin,e57,Builtin.len_,run_underlying L8.u,goInt]) ?_)
  rw[show(bF nl 2).dst=some 58 by kernel_rfl]
  have g2:=g1.set (d:=58) (p:=.int .i64 ((kids.length+1:Nat):Int)) (.int _ _)
  refine bR (o:=bF nl 3) (by kernel_rfl) (by kernel_rfl) (g2.opS hB (d:=59) (p:=.int .i64 (bw (((kids.length+1:Nat):Int) - 1))) (by kernel_rfl) (by kernel_rfl) (by kernel_rfl) (by kernel_rfl) λa3 Γ3 w3 hm3 g3=>?_)
  have hs3:Sd lo x J F s K (kids++[y]) (.slice (some ⟨g,0,none⟩) (kids.length+1) cap) Γ3 w3:=hs.mv hY hm3 λb h=>h.elim
  have hw:bw (((kids.length+1:Nat):Int) - 1)=(kids.length:Int):=by rw[bX (by omega) (by unfold cz at hlen;omega)];omega
  rw[hw]at g3
  have e56:(Act.mk a3 ds).eval (.tmp 56)=.slice (some ⟨g,0,none⟩) (kids.length+1) cap:=aP (g3.raw (by kernel_rfl))
  have e59:(Act.mk a3 ds).eval (.tmp 59)=.int .i64 (kids.length:Int):=by
   have:=g3.ev (t:=59) (p:=.int .i64 (kids.length:Int)) (by kernel_rfl) ds
   generalize (Act.mk a3 ds).eval (.tmp 59)=q at this
   cases this;rfl
  have hsb:(Instr.sliceBounds true (kids.length+1) cap none (some (.int .i64 (kids.length:Int))) none).run Pg w3=.ok (0,kids.length,cap) w3:=
   cM (Γ:=Γ3) (bs:=[]) (lo:=none) (hi:=some (.int .i64 (kids.length:Int))) rfl (by simp[wH]) (λp h=>by cases h) (λ_=>rfl) (λp h=>by cases h;exact⟨_,rfl,.int _ _⟩) (λh=>by cases h) (vaP _) (vb6 _) hcap
  obtain⟨i0,z0,q1,q2,q3,q4,q5,q6⟩:=L8.get
  refine bR (o:=bF nl 4) (by kernel_rfl) (by kernel_rfl) (cC (by kernel_rfl) (v:=.slice (some ⟨g,0,none⟩) kids.length cap) (w':=w3) (by
   simp[execOp,show(bF nl 4).op=.slice tV (.tmp 56) none (some (.tmp 59)) none by kernel_rfl,e56,e59,Instr.sliceAt,Instr.slice,run_underlying L8.u,hsb,run_sizeOf w3 q1,Addr.add]) ?_)
  rw[show(bF nl 4).dst=some 60 by kernel_rfl]
  have g4:=g3.set (d:=60) (p:=.val (.slice (some ⟨g,0,none⟩) kids.length cap)) (.val _)
  have e60:(Act.mk (a3.setIfInBounds 60 (.slice (some ⟨g,0,none⟩) kids.length cap)) ds).eval (.tmp 60)=.slice (some ⟨g,0,none⟩) kids.length cap:=aP (g4.raw (by kernel_rfl))
  have e3:(Act.mk (a3.setIfInBounds 60 (.slice (some ⟨g,0,none⟩) kids.length cap)) ds).eval (.tmp 3)=x.kp:=aP (g4.raw (by kernel_rfl))
  obtain⟨w5,hrun,hm5,hh5⟩:=hs3.hd.store (P:=Pg) (T:=tV) (u:=.slice (some ⟨g,0,none⟩) kids.length cap) hm3.base (by kernel_rfl) (by kernel_rfl) rfl hs3.ho
  refine bR (o:=bF nl 5) (by kernel_rfl) (by kernel_rfl) (jT (a:=a3.setIfInBounds 60 _) (by kernel_rfl) (w':=w5) (by simp[execOp,show(bF nl 5).op=.store tV (.tmp 3) (.tmp 60) by kernel_rfl,e3,e60,hrun]) ?_)
  rw[show(bF nl 5).dst=none by kernel_rfl]
  have hrow3:=hs3.row
  rw[hkl,Dz]at hrow3
  have hcut3:=hrow3.cut (bE.flat_len kids) (bE.hc y)
  have hgk:g≠x.kb:=(hs.rf g rfl).2.2.1
  refine⟨rfl,rfl,Γ3,.slice (some ⟨g,0,none⟩) kids.length cap,(hm3.mono (M:=λb=>b=x.kb) (λb h=>h.elim)).trans hm5 (λb h=>.inl h),λb hb=>hb,⟨hY.side hs3.j hm5 λb hb=>by
   have hb:b=x.kb:=hb
   rw[hb];exact hs.hf,hs3.k.mv hm5 λe=>hs.hm e.symm,hs.kf,hh5,⟨hs3.ho.1,vaE hs3.ho.2.1 hm5.size,hs3.ho.2.2⟩,hs.hf,hs.hm,hcut3.mv hm5 λb hb hM=>?_,λb hb=>hs.rf b hb,vax hs3.lw hm5.size⟩,?_⟩
  ·have hM:b=x.kb:=hM
   simp[Value.ownBlock]at hb
   exact hgk (hb.trans hM)
  ·exact((g4.mv hm5.le).forget (tm':=Jg x ts size n i l) (by kernel_rfl))
 rw[<-QF]at key
 exact key
end
open Go Go.RowKit
def SZ(x:Cx)(F:Nat->Prop)(v:Value):Nat->Prop:=λb=>F b\/b=x.mb\/b=x.kb\/v.ownBlock=some b
section
variable{S:Type}{lo:Nat}{x:Cx}{step:S->List aa->Option (Bool×S)}{J:(Nat->Prop)->Bool->S->ay->World->Prop}{F F1:Nat->Prop}{s s1:S}{K K1:fe}{kids:List aa}{v v1:Value}
variable{t:ae}{ts:List ae}{size n i:Int}{l:List aa}{a:Array Value}{Γ Γ1 Γ':ay}{w w1 w':World}{ds:List Deferred}{nn:Nat}{R:ae->Int->fe->Option (List aa×fe)}
structure Jm(lo:Nat)(x:Cx)(J:(Nat->Prop)->Bool->S->ay->World->Prop)(F:Nat->Prop)(v:Value)(kids:List aa)(r:Bool×S×fe)(Γ:ay)(w:World)(Γ':ay)(w':World):Prop where
 mv:Mv GE (SZ x F v) Γ w Γ' w'
 ex:∃F' v',(∀b,F' b->F b\/w.heap.size<=b)/\(∀b,v'.ownBlock=some b->v.ownBlock=some b\/w.heap.size<=b)/\(r.1=true->Sd lo x J F' r.2.1 r.2.2 kids v' Γ' w')/\(r.1=false->J F' false r.2.1 Γ' w'/\KM x.mb r.2.2 Γ' w')
theorem Jm.pre(hmv:Mv GE (SZ x F v) Γ w Γ1 w1)(hF:∀b,F1 b->F b\/w.heap.size<=b)(hv:∀b,v1.ownBlock=some b->v.ownBlock=some b\/w.heap.size<=b){r:Bool×S×fe}(h:Jm lo x J F1 v1 kids r Γ1 w1 Γ' w'):Jm lo x J F v kids r Γ w Γ' w':=by
 obtain⟨F',v',h1,h2,h3,h4⟩:=h.ex
 refine⟨hmv.trans h.mv λb hb=>?_,F',v',λb hb=>?_,λb hb=>?_,h3,h4⟩
 ·rcases hb with hb|hb|hb|hb
  ·exact(hF b hb).imp .inl id
  ·exact .inl (.inr (.inl hb))
  ·exact .inl (.inr (.inr (.inl hb)))
  ·exact(hv b hb).imp (λh=>.inr (.inr (.inr h))) id
 ·exact(h1 b hb).elim (hF b) λh=>.inr (vax hmv.size h)
 ·exact(h2 b hb).elim (hv b) λh=>.inr (vax hmv.size h)
theorem Jm.post(hY:Yv lo x.l step J){r:Bool×S×fe}(h:Jm lo x J F v kids r Γ w Γ1 w1)(hm:Mv GE no Γ1 w1 Γ' w'):Jm lo x J F v kids r Γ w Γ' w':=by
 obtain⟨F',v',h1,h2,h3,h4⟩:=h.ex
 exact⟨h.mv.trans hm λb h=>h.elim,F',v',h1,h2,λhr=>(h3 hr).mv hY hm λb h=>h.elim,λhr=>⟨hY.side (h4 hr).1 hm λb h=>h.elim,(h4 hr).2.mv hm id⟩⟩
structure ML(x:Cx)(c2 c4 c5:Value)(Γ:ay)(w:World):Prop where
 y:VR Γ [] w (.eptr [yv x.l]) c2
 sp:VR Γ [] w (.eptr x.sp) c4
 me:VR Γ [] w (.eptr [.val x.fv]) c5
 fv:x.fv=.func (.func Sc) #[] #[c2,x.kp,c4,c5]
theorem ML.mv{c2 c4 c5:Value}(h:ML x c2 c4 c5 Γ w)(hle:Γ.Le w Γ' w'):ML x c2 c4 c5 Γ' w':=⟨h.y.mono hle (.refl _),h.sp.mono hle (.refl _),h.me.mono hle (.refl _),h.fv⟩
abbrev IK:Int:=1099511627776
def S0(lo:Nat)(x:Cx)(c2 c4 c5:Value)(R:ae->Int->fe->Option (List aa×fe))(step:S->List aa->Option (Bool×S))(J:(Nat->Prop)->Bool->S->ay->World->Prop)(ts:List ae):Prop:=
 ∀size kids s K r F v Γ w t0 n,G3 R step ts size kids (s,K)=some r->-IK<=size->size<=IK->(ts.length:Int)<=IK->Sd lo x J F s K kids v Γ w->ML x c2 c4 c5 Γ w->VR Γ [] w (sl af ts) t0->
  CallsIn Fence.wide n Pg Sc #[t0,.int .i64 size,c2,x.kp,c4,c5] w λe w'=>e=.returned (.bool r.1)/\∃Γ',Jm lo x J F v kids r Γ w Γ' w'
theorem vg{F:Fence}{P:Program}{ops:Array Oper}{Q:Exit->Act->World->Prop}{i j:Nat}{b:Bool}{rest:List Nat}{o:Oper}{a:Act}(ho:ops[i]? =some o)(hg:o.guard=some (j,b))(hy:yielded ops a.tmps j=some b)(h:o.wpIn F nn P a w (wpOpsIn F nn P ops Q rest) Q):wpOpsIn F nn P ops Q (i::rest) a w:=by
 unfold wpOpsIn
 simp only[ho,Region.wanted,hg,hy]
 simpa using h
theorem X0:List.range (bY DA).size=[0,1,2,3,4,5,6,7]:=by kernel_rfl
abbrev SU(x:Cx)(ts:List ae)(size:Int):List PVal:=(Dr x ts size [] []).tmps
theorem VB(hY:Yv lo x.l step J)(hz:(size !=0)=false){q:Bool×S}(hq:step s kids=some q)(hs:Sd lo x J F s K kids v Γ w)(hfr:Fr Γ w a (SU x ts size)):(Code.seq DA .ret).wpIn Fence.wide nn Pg (λe a' w'=>e=.ret/\a'.defers=ds/\∃Γ',Jm lo x J F v kids (q.1,q.2,K) Γ w Γ' w'/\Fr Γ' w' a'.tmps (PW q.1).tmps) ⟨a,ds⟩ w:=by
 refine wpIn_seq ?_
 have key:(Code.region (xn DA) (bY DA) false).wpIn Fence.wide nn Pg (λe a' w'=>e=.normal/\a'.defers=ds/\∃Γ',Jm lo x J F v kids (q.1,q.2,K) Γ w Γ' w'/\Fr Γ' w' a'.tmps (PW q.1).tmps) ⟨a,ds⟩ w:=by
  refine wpIn_region ?_
  rw[X0]
  refine bR (o:=bF DA 0) (by kernel_rfl) (by kernel_rfl) (hfr.opS (hY.base hs.j) (d:=15) (p:=.int .i64 size) (by kernel_rfl) (by kernel_rfl) (by kernel_rfl) (by kernel_rfl) λa0 Γ0 w0 m0 g0=>?_)
  have s0:=hs.mv hY m0 λb h=>h.elim
  refine bR (o:=bF DA 1) (by kernel_rfl) (by kernel_rfl) (g0.opS m0.base (d:=16) (p:=.bool (size !=0)) (by kernel_rfl) (by kernel_rfl) (by kernel_rfl) (by kernel_rfl) λa1 Γ1 w1 m1 g1=>?_)
  have s1:=s0.mv hY m1 λb h=>h.elim
  refine bR (o:=bF DA 2) (by kernel_rfl) (by kernel_rfl) (g1.opS m1.base (d:=17) (p:=.bool (size !=0)) (by kernel_rfl) (by kernel_rfl) (by kernel_rfl) (by kernel_rfl) λa2 Γ2 w2 m2 g2=>?_)
  have s2:=s1.mv hY m2 λb h=>h.elim
  rw[hz]at g2
  have hyl:∀{a':Array Value} {tm:List PVal} {Γ:ay} {w:World},Fr Γ w a' tm->tm[17]? =some (.bool false)->yielded (bY DA) a' 2=some false:=λ{a' tm Γ w} h ht=>by
   obtain⟨u,h1,h2⟩:=h.at ht
   cases h2
   have e:((bY DA)[2]?).bind (·.dst)=some 17:=by kernel_rfl
   simp[yielded,e,h1]
  refine vg (o:=bF DA 3) (by kernel_rfl) (by kernel_rfl) (hyl g2 (by kernel_rfl)) (g2.opS m2.base (d:=18) (p:=yv x.l) (by kernel_rfl) (by kernel_rfl) (by kernel_rfl) (by kernel_rfl) λa3 Γ3 w3 m3 g3=>?_)
  have s3:=s2.mv hY m3 λb h=>h.elim
  have e3:(Act.mk a3 ds).eval (.tmp 3)=x.kp:=aP (g3.raw (by kernel_rfl))
  refine vg (o:=bF DA 4) (by kernel_rfl) (by kernel_rfl) (hyl g3 (by kernel_rfl)) (cC (by kernel_rfl) (v:=v) (w':=w3) (by simp[execOp,show(bF DA 4).op=.load tV (.tmp 3) by kernel_rfl,e3,s3.hd.load (P:=Pg) (T:=tV) (by kernel_rfl)]) ?_)
  rw[show(bF DA 4).dst=some 19 by kernel_rfl]
  have g4:=g3.set (d:=19) (p:=.val v) (.val v)
  have e18:(Act.mk (a3.setIfInBounds 19 v) ds).eval (.tmp 18)=.func (.yield x.l) #[] #[]:=aP (g4.raw (by kernel_rfl))
  have e19:(Act.mk (a3.setIfInBounds 19 v) ds).eval (.tmp 19)=v:=aP (g4.raw (by kernel_rfl))
  have hop:(bF DA 5).op=.call {callee:=.value (.tmp 18),args:=#[.tmp 19],argTypes:=Kt (bF DA 5)}:=by kernel_rfl
  have hyd:=hY.yield (nn - 1) s3.j s3.row (λb hb=>⟨(s3.rf b hb).1,(s3.rf b hb).2.1⟩) hq
  refine vg (o:=bF DA 5) (by kernel_rfl) (by kernel_rfl) (hyl g4 (by kernel_rfl)) (LW (a:=Act.mk (a3.setIfInBounds 19 v) ds) hop e18 (by
   have e:(#[.tmp 19]:Array Operand).map (Act.mk (a3.setIfInBounds 19 v) ds).eval=#[v]:=by simp[e19]
   rw[e];exact hyd) ?_)
  rintro e w5 ⟨Γ5,F5,rfl,m5,hF5,hJ5⟩
  refine⟨_,rfl,?_⟩
  rw[show(bF DA 5).dst=some 20 by kernel_rfl]
  have g5:=(g4.mv m5.le).set (d:=20) (p:=.bool q.1) (.bool q.1)
  have mall:Mv GE no Γ w Γ3 w3:=((m0.trans m1 (λb h=>.inl h)).trans m2 (λb h=>.inl h)).trans m3 (λb h=>.inl h)
  have mF:Mv GE (SZ x F v) Γ w Γ5 w5:=(mall.mono (M:=SZ x F v) λb h=>h.elim).trans m5 λb hb=>.inl (.inl hb)
  have hF0:∀b,F5 b->F b\/w.heap.size<=b:=λb hb=>(hF5 b hb).imp id λh=>vax mall.size h
  have P5:Jm lo x J F v kids (q.1,q.2,K) Γ w Γ5 w5:=by
   have hk5:KM x.mb K Γ5 w5:=s3.k.mv m5 s3.kf
   refine⟨mF,F5,v,hF0,λb hb=>.inl hb,λhr=>?_,λhr=>?_⟩
   ·have hr:q.1=true:=hr
    rw[hr]at hJ5
    have nw:∀{b},b<w3.heap.size->¬F b->¬F5 b:=λhb hf h=>(hF5 _ h).elim hf λh'=>by omega
    exact⟨hJ5,hk5,nw s3.k.off.2.1 s3.kf,s3.hd.mv m5 s3.hf,s3.ho.mv m5 s3.hf,nw s3.ho.2.1 s3.hf,s3.hm,s3.row.mv m5 λb hb=>(s3.rf b hb).1,λb hb=>⟨nw (s3.row.off b hb).2.1 (s3.rf b hb).1,(s3.rf b hb).2⟩,vax s3.lw m5.size⟩
   ·have hr:q.1=false:=hr
    rw[hr]at hJ5
    exact⟨hJ5,hk5⟩
  refine bR (o:=bF DA 6) (by kernel_rfl) (by kernel_rfl) (g5.opS m5.base (d:=21) (p:=.bool q.1) (by kernel_rfl) (by kernel_rfl) (by kernel_rfl) (by kernel_rfl) λa6 Γ6 w6 m6 g6=>?_)
  refine bR (o:=bF DA 7) (by kernel_rfl) (by kernel_rfl) (g6.opS m6.base (d:=8) (p:=.bool q.1) (by kernel_rfl) (by kernel_rfl) (by kernel_rfl) (by kernel_rfl) λa7 Γ7 w7 m7 g7=>?_)
  exact⟨rfl,rfl,Γ7,(P5.post hY m6).post hY m7,g7.forget (tm':=(PW q.1).tmps) (by kernel_rfl)⟩
 rw[<-Sf]at key
 refine wpIn_mono key ?_
 rintro e a' w' ⟨rfl,hd,h⟩
 exact wpIn_ret ⟨rfl,hd,h⟩
end
section
variable{S:Type}{lo:Nat}{x:Cx}{step:S->List aa->Option (Bool×S)}{J:(Nat->Prop)->Bool->S->ay->World->Prop}{F F1:Nat->Prop}{s s1:S}{K K1:fe}{kids:List aa}{v v1:Value}
variable{t:ae}{ts:List ae}{size n i:Int}{l:List aa}{a:Array Value}{Γ Γ1 Γ':ay}{w w1 w':World}{ds:List Deferred}{nn:Nat}{R:ae->Int->fe->Option (List aa×fe)}{c2 c4 c5:Value}
def qS(x:Cx)(t:ae)(ts:List ae)(size n:Int)(b:Bool):List (Nat×Nat×PVal):=
 [(0,48,.val x.fv),(1,49,sl af (t::ts)),(2,50,sl af ts),(3,51,.int .i64 size),(4,52,.int .i64 n),(5,53,.int .i64 (bw (size - n))),(6,54,.bool b),(7,55,.bool (!b))]
theorem MG(b:Bool):Fw (Jg x (t::ts) size n i l) (qS x t ts size n b):=wu (by kernel_rfl)
def Uf(lo:Nat)(x:Cx)(J:(Nat->Prop)->Bool->S->ay->World->Prop)(t:ae)(ts:List ae)(size n i:Int)(l:List aa)(F:Nat->Prop)(v:Value)(kids:List aa)(r:Bool×S×fe)(Γ0:ay)(w0:World)(ds:List Deferred)(L:Nat->Prop)(a:Act)(w:World):Prop:=
 a.defers=ds/\∃Γ,(¬L 6->Mv GE no Γ0 w0 Γ w)/\(L 6->Jm lo x J F v kids r Γ0 w0 Γ w)/\dJ GE Γ w/\mI (Jg x (t::ts) size n i l) (qS x t ts size n r.1) L a.tmps Γ w
theorem Uf.pure(hY:Yv lo x.l step J){r:Bool×S×fe}{Γ0:ay}{w0:World}{L:Nat->Prop}{Q:Exit->Act->World->Prop}{a:Act}(h:Uf lo x J t ts size n i l F v kids r Γ0 w0 ds L a w){o:Oper}{j d:Nat}{p:PVal}(hj:j≠6)(hx:(j,d,p)∈qS x t ts size n r.1)(hdst:o.dst=some d)(hd:cq o=true)(hm:aw o.op=false)
  (need:List (Nat×Nat×PVal)) (hn:∀y∈need,y∈qS x t ts size n r.1/\(Gk o).contains y.1=true) (hed:∀e∈o.after.toList,Region.binds .any e=true->L e.on) (hp:iu Pg o.op 0 (opv GE (kw (Jg x (t::ts) size n i l) need)) []=some (p,[])):
  o.wpIn Fence.wide nn Pg a w (Uf lo x J t ts size n i l F v kids r Γ0 w0 ds λk=>L k\/k=j) Q:=by
 obtain⟨a,ds'⟩:=a
 obtain⟨rfl,Γ,h1,h2,h3,h5⟩:=h
 refine Oper.wpIn_mono (λa' w' hq=>?_) (i7 (MG r.1) h3 h5 hx hdst hd hm need hn hed hp)
 obtain⟨Γ',hm',hd',hP,_⟩:=hq
 exact⟨hd',Γ',λh=>(h1 λh'=>h (.inl h')).trans hm' (λb h=>.inl h),λh=>(h2 (h.resolve_right λe=>hj e.symm)).post hY hm',hm'.base,hP⟩
theorem VV:T9 (t::ts) (some 1) none=some ts:=by
 unfold T9 bd
 simp
theorem Vw(hY:Yv lo x.l step J)(hV:S0 lo x c2 c4 c5 R step J ts)(hc:ML x c2 c4 c5 Γ w){r:Bool×S×fe}(hr:G3 R step ts (size - n) kids (s,K)=some r)(h1: -IK<=size)(h2:size<=IK)(h3:1<=n)(h4:n<=size)(h5:(ts.length:Int)<=IK)(hs:Sd lo x J F s K kids v Γ w)
  (hfr:Fr Γ w a (Jg x (t::ts) size n i l)):
  hZ.wpIn Fence.wide nn Pg (λe a' w'=>e=.normal/\a'.defers=ds/\∃Γ',Jm lo x J F v kids r Γ w Γ' w'/\Fr Γ' w' a'.tmps ((Jg x (t::ts) size n i l).set 55 (.bool (!r.1)))) ⟨a,ds⟩ w:=by
 have hB:=hY.base hs.j
 have hl:IK=1099511627776:=rfl
 have hw:bw (size - n)=size - n:=bX (by omega) (by omega)
 have key:(Code.region (xn hZ) (bY hZ) true).wpIn Fence.wide nn Pg (λe a' w'=>e=.normal/\a'.defers=ds/\∃Γ',Jm lo x J F v kids r Γ w Γ' w'/\Fr Γ' w' a'.tmps ((Jg x (t::ts) size n i l).set 55 (.bool (!r.1)))) ⟨a,ds⟩ w:=by
  refine Eo mixed (by kernel_rfl) (by kernel_rfl) (Uf lo x J t ts size n i l F v kids r Γ w ds) ?_ ?_ ?_
  ·intro L a1 w1 j o hI ho hnl hed
   have hj:j<8:=by
    have h1:=(vaf.1 ho).1
    have h2:(bY hZ).size=8:=by kernel_rfl
    omega
   rcases(show j=0\/j=1\/j=2\/j=3\/j=4\/j=5\/j=6\/j=7 by omega)with rfl|rfl|rfl|rfl|rfl|rfl|rfl|rfl
   ·obtain rfl:bF hZ 0=o:=vat ((show(bY hZ)[0]? =some (bF hZ 0) by kernel_rfl).symm.trans ho)
    exact hI.pure hY (d:=48) (p:=.val x.fv) (by decide) (by simp[qS]) (by kernel_rfl) (by kernel_rfl) (by kernel_rfl) [] (by simp) hed (by kernel_rfl)
   ·obtain rfl:bF hZ 1=o:=vat ((show(bY hZ)[1]? =some (bF hZ 1) by kernel_rfl).symm.trans ho)
    exact hI.pure hY (d:=49) (p:=sl af (t::ts)) (by decide) (by simp[qS]) (by kernel_rfl) (by kernel_rfl) (by kernel_rfl) [] (by simp) hed (by kernel_rfl)
   ·obtain rfl:bF hZ 2=o:=vat ((show(bY hZ)[2]? =some (bF hZ 2) by kernel_rfl).symm.trans ho)
    refine hI.pure hY (d:=50) (p:=sl af ts) (by decide) (by simp[qS]) (by kernel_rfl) (by kernel_rfl) (by kernel_rfl) [(1,49,sl af (t::ts))] (by intro y hy;obtain rfl:=vbd.1 hy;exact⟨by simp[qS],by kernel_rfl⟩) hed ?_
    have e1:iu Pg (bF hZ 2).op 0 (opv GE (kw (Jg x (t::ts) size n i l) [(1,49,sl af (t::ts))])) []=(mn Pg 38 (sl af (t::ts)) ((some 1).map (PVal.int .i64)) ((none:Option Int).map (PVal.int .i64)) none).map (λp=>(p,[])):=by kernel_rfl
    rw[e1,dl.sc VV];rfl
   ·obtain rfl:bF hZ 3=o:=vat ((show(bY hZ)[3]? =some (bF hZ 3) by kernel_rfl).symm.trans ho)
    exact hI.pure hY (d:=51) (p:=.int .i64 size) (by decide) (by simp[qS]) (by kernel_rfl) (by kernel_rfl) (by kernel_rfl) [] (by simp) hed (by kernel_rfl)
   ·obtain rfl:bF hZ 4=o:=vat ((show(bY hZ)[4]? =some (bF hZ 4) by kernel_rfl).symm.trans ho)
    exact hI.pure hY (d:=52) (p:=.int .i64 n) (by decide) (by simp[qS]) (by kernel_rfl) (by kernel_rfl) (by kernel_rfl) [] (by simp) hed (by kernel_rfl)
   ·obtain rfl:bF hZ 5=o:=vat ((show(bY hZ)[5]? =some (bF hZ 5) by kernel_rfl).symm.trans ho)
    exact hI.pure hY (d:=53) (p:=.int .i64 (bw (size - n))) (by decide) (by simp[qS]) (by kernel_rfl) (by kernel_rfl) (by kernel_rfl) [(3,51,.int .i64 size),(4,52,.int .i64 n)] (by
     intro y hy
     rcases vau.1 hy with rfl|hy
     ·exact⟨by simp[qS],by kernel_rfl⟩
     ·obtain rfl:=vbd.1 hy;exact⟨by simp[qS],by kernel_rfl⟩) hed (by kernel_rfl)
   ·obtain rfl:bF hZ 6=o:=vat ((show(bY hZ)[6]? =some (bF hZ 6) by kernel_rfl).symm.trans ho)
    obtain⟨a1,ds'⟩:=a1
    obtain⟨rfl,Γ1,q1,q2,q3,q5⟩:=hI
    have hm1:=q1 hnl
    obtain⟨u0,u1,u2⟩:=q5.at' (0,48,.val x.fv) (by simp[qS]) (gA (j:=0) (by kernel_rfl) hed)
    cases u2
    obtain⟨u3,u4,u5⟩:=q5.at' (2,50,sl af ts) (by simp[qS]) (gA (j:=2) (by kernel_rfl) hed)
    obtain⟨u6,u7,u8⟩:=q5.at' (5,53,.int .i64 (bw (size - n))) (by simp[qS]) (gA (j:=5) (by kernel_rfl) hed)
    rw[hw]at u8
    cases u8
    have hop:(bF hZ 6).op=.call {callee:=.value (.tmp 48),args:=#[.tmp 50,.tmp 53],argTypes:=Kt (bF hZ 6)}:=by kernel_rfl
    have e48:(Act.mk a1 ds').eval (.tmp 48)=.func (.func Sc) #[] #[c2,x.kp,c4,c5]:=(aP u1).trans hc.fv
    have e50:(Act.mk a1 ds').eval (.tmp 50)=u3:=aP u4
    have e53:(Act.mk a1 ds').eval (.tmp 53)=.int .i64 (size - n):=aP u7
    have hcall:=hV (size - n) kids s K r F v Γ1 w1 u3 (nn - 1) hr (by omega) (by omega) h5 (hs.mv hY hm1 λb h=>h.elim) (hc.mv hm1.le) u5
    refine A7 hop e48 call147 (by
     have e:(#[]++(#[.tmp 50,.tmp 53]:Array Operand).map (Act.mk a1 ds').eval++#[c2,x.kp,c4,c5])=#[u3,.int .i64 (size - n),c2,x.kp,c4,c5]:=by simp[e50,e53]
     rw[e]
     exact hcall) ?_
    rintro e w2 ⟨rfl,Γ2,hP⟩
    refine⟨_,rfl,aV _ _ _,Γ2,λh=>absurd (.inr rfl) h,λ_=>hP.pre (hm1.mono λb h=>h.elim) (λb h=>.inl h) (λb h=>.inl h),hP.mv.base,?_⟩
    rw[show(bF hZ 6).dst=some 54 by kernel_rfl]
    exact(q5.mv hP.mv.le).put (MG r.1) (i:=6) (d:=54) (p:=.bool r.1) (by simp[qS]) (.bool _)
   ·obtain rfl:bF hZ 7=o:=vat ((show(bY hZ)[7]? =some (bF hZ 7) by kernel_rfl).symm.trans ho)
    exact hI.pure hY (d:=55) (p:=.bool (!r.1)) (by decide) (by simp[qS]) (by kernel_rfl) (by kernel_rfl) (by kernel_rfl) [(6,54,.bool r.1)] (by intro y hy;obtain rfl:=vbd.1 hy;exact⟨by simp[qS],by kernel_rfl⟩) hed (by kernel_rfl)
  ·rintro L a1 w1 ⟨hd,Γ1,q1,q2,q3,q5⟩ hall
   have hsz:(bY hZ).size=8:=by kernel_rfl
   exact⟨rfl,hd,Γ1,q2 (hall 6 (by omega)),q5.fr.add (q5.at' (7,55,.bool (!r.1)) (by simp[qS]) (hall 7 (by omega)))⟩
  ·have hm0:Mv GE no Γ w Γ {w with drawn:=w.drawn+1}:=Mv.drawn hB 1
   exact⟨rfl,Γ,λ_=>hm0,λh=>h.elim,hm0.base,⟨hfr.mv hm0.le,λy _ h=>h.elim⟩⟩
 rw[<-QE]at key
 exact key
end
section
variable{S:Type}{lo:Nat}{x:Cx}{step:S->List aa->Option (Bool×S)}{J:(Nat->Prop)->Bool->S->ay->World->Prop}{F F1 F2:Nat->Prop}{s s1:S}{K K1:fe}{kids:List aa}{v v1 v2:Value}
variable{t:ae}{ts:List ae}{size n i:Int}{l:List aa}{a:Array Value}{Γ Γ1 Γ2 Γ':ay}{w w1 w2 w':World}{ds:List Deferred}{nn:Nat}{R:ae->Int->fe->Option (List aa×fe)}{c2 c4 c5:Value}
structure H5(x:Cx)(F:Nat->Prop)(v:Value)(Γ:ay)(w:World)(F1:Nat->Prop)(v1:Value)(Γ1:ay)(w1:World):Prop where
 mv:Mv GE (SZ x F v) Γ w Γ1 w1
 f:∀b,F1 b->F b\/w.heap.size<=b
 v:∀b,v1.ownBlock=some b->v.ownBlock=some b\/w.heap.size<=b
theorem H5.trans(h:H5 x F v Γ w F1 v1 Γ1 w1)(h':H5 x F1 v1 Γ1 w1 F2 v2 Γ2 w2):H5 x F v Γ w F2 v2 Γ2 w2:=by
 refine⟨h.mv.trans h'.mv λb hb=>?_,λb hb=>?_,λb hb=>?_⟩
 ·rcases hb with hb|hb|hb|hb
  ·exact(h.f b hb).imp .inl id
  ·exact .inl (.inr (.inl hb))
  ·exact .inl (.inr (.inr (.inl hb)))
  ·exact(h.v b hb).imp (λh=>.inr (.inr (.inr h))) id
 ·exact(h'.f b hb).elim (h.f b) λhx=>.inr (vax h.mv.size hx)
 ·exact(h'.v b hb).elim (h.v b) λhx=>.inr (vax h.mv.size hx)
theorem H5.of(hm:Mv GE no Γ w Γ1 w1):H5 x F v Γ w F v Γ1 w1:=⟨hm.mono λb h=>h.elim,λ_ h=>.inl h,λ_ h=>.inl h⟩
theorem H5.pst(h:H5 x F v Γ w F1 v1 Γ1 w1){r:Bool×S×fe}(hp:Jm lo x J F1 v1 kids r Γ1 w1 Γ' w'):Jm lo x J F v kids r Γ w Γ' w':=hp.pre h.mv h.f h.v
theorem Sd.map(hY:Yv lo x.l step J)(h:Sd lo x J F s K kids v Γ w)(hm:Mv GE (λb=>b=x.mb) Γ w Γ' w')(hk:KM x.mb K1 Γ' w'):Sd lo x J F s K1 kids v Γ' w' where
 j:=hY.side h.j hm λb hb=>by
  have hb:b=x.mb:=hb
  rw[hb];exact h.kf
 k:=hk
 kf:=h.kf
 hd:=h.hd.mv hm h.hm
 ho:=h.ho.mv hm h.hm
 hf:=h.hf
 hm:=h.hm
 row:=h.row.mv hm λb hb=>(h.rf b hb).2.2.2
 rf:=h.rf
 lw:=vax h.lw hm.size
theorem Fr.res{b:Bool}(h:Fr Γ w a (PW b).tmps)(hB:dJ GE Γ w):(results f147 a).run Pg w=.ok (.bool b) w:=by
 obtain⟨v,h1,h2,_⟩:=qL (h.sr (P:=Pg) hB 0) (fn:=f147) (r:=.bool b) (by kernel_rfl)
 cases h2
 exact h1
theorem PN{k j:Nat}(h:(j:Int)<size - k):(Q9 size k).drop j=((j:Int)+1)::(Q9 size k).drop (j+1):=by
 have hl:j<(Q9 size k).length:=by unfold Q9;simp;omega
 rw[va6 hl]
 congr 1
 simp[Q9]
theorem Ra{k j:Nat}(h:size - k<=(j:Int)):(Q9 size k).drop j=[]:=vbJ (by unfold Q9;simp;omega)
abbrev PU(lo:Nat)(x:Cx)(J:(Nat->Prop)->Bool->S->ay->World->Prop)(F:Nat->Prop)(v:Value)(kids:List aa)(r:Bool×S×fe)(Γ:ay)(w:World):Exit->Act->World->Prop:=
 bodyPost Pg f147 λe w'=>e=.returned (.bool r.1)/\∃Γ',Jm lo x J F v kids r Γ w Γ' w'
theorem Re{r:Bool×S×fe}{b:Bool}(hb:b=r.1)(hp:Jm lo x J F v kids r Γ w Γ' w')(h:Fr Γ' w' a (PW b).tmps):PU lo x J F v kids r Γ w .ret ⟨a,[]⟩ w':=by
 subst hb
 exact⟨rfl,.bool r.1,h.res hp.mv.base,rfl,Γ',hp⟩
theorem K6(x:Cx)(ts:List ae)(size:Int){L:List (Nat×PVal)}(h:Jw 0 L):dO 0 (Dr x ts size L []).tmps:=Oq x ts size h []
theorem Vk(l:List aa)(n i:Int):Jw 0 [(9,.int .i64 n),(36,sl ac l),(37,.int .i64 (l.length:Int)),(38,.int .i64 i)]:=⟨vzz,bB cQ l,vzz,vzz,vzz⟩
theorem Vj(l:List aa)(y:aa)(n i:Int):Jw 0 [(9,.int .i64 n),(11,.eptr (ac y)),(36,sl ac l),(37,.int .i64 (l.length:Int)),(38,.int .i64 i)]:=⟨vzz,(show dO 0 (ac y)from cQ y),bB cQ l,vzz,vzz,vzz⟩
theorem OJ(hY:Yv lo x.l step J)(hV:S0 lo x c2 c4 c5 R step J ts)(h1: -IK<=size)(h2:size<=IK)(h5:(ts.length:Int)<=IK)(h3:1<=n)(h4:n<=size){q r:Bool×S×fe}(hll:l.length<4611686018427387904){Γ0:ay}{w0:World}{F0:Nat->Prop}{v0:Value}
  (hq:Ey (λs v=>(app kids [v]).bind λks=>G3 R step ts (size - n) ks s) l (s,K)=some q) (hr0:q.1=false->r=(false,q.2)) (hR0:H5 x F0 v0 Γ0 w0 F v Γ w) (hc:ML x c2 c4 c5 Γ w) (hs:Sd lo x J F s K kids v Γ w) (hfr:Fr Γ w a (Jg x (t::ts) size n 0 l)):
  (Code.block 2 (.loop iM)).wpIn Fence.wide nn Pg (λe a' w'=>(e=.normal/\a'.defers=[]/\q.1=true/\∃Γ' F' v',H5 x F0 v0 Γ0 w0 F' v' Γ' w'/\ML x c2 c4 c5 Γ' w'/\Sd lo x J F' q.2.1 q.2.2 kids v' Γ' w'/\Fr Γ' w' a'.tmps (N4 x (t::ts) size n))\/(e=.ret/\PU lo x J F0 v0 kids r Γ0 w0 .ret a' w')) ⟨a,[]⟩ w:=by
 have hl:IK=1099511627776:=rfl
 refine wpIn_block (wpIn_loop_ghost (λk a' w'=>a'.defers=[]/\∃(i:Nat) (sK:S×fe) (F':Nat->Prop) (v':Value) (Γ':ay),k=l.length - i/\i<=l.length/\Ey (λs v=>(app kids [v]).bind λks=>G3 R step ts (size - n) ks s) (l.drop i) sK=some q/\
  H5 x F0 v0 Γ0 w0 F' v' Γ' w'/\ML x c2 c4 c5 Γ' w'/\Sd lo x J F' sK.1 sK.2 kids v' Γ' w'/\Fr Γ' w' a'.tmps (Jg x (t::ts) size n (i:Int) l)) l.length ⟨rfl,0,(s,K),F,v,Γ,rfl,vaP _,hq,hR0,hc,hs,hfr⟩ ?_)
 rintro k ⟨a1,ds1⟩ w1 ⟨hd1,i,⟨s1,K1⟩,F1,v1,Γ1,rfl,hi,hf1,hR1,hc1,hs1,g1⟩
 simp only at hd1;subst hd1
 rw[Ty]
 refine wpIn_seq (wpIn_mono (g1.piece0 (k:=0) (XP x (t::ts) size n (i:Int) l) hR1.mv.base (K6 x _ _ (aI vzz<|aI (bB cQ l)<|aI vzz<|aI vzz<|aI vzz vzz)) []) ?_)
 rintro e ⟨a2,ds2⟩ w2 ⟨rfl,rfl,Γ2,m2,g2⟩
 refine wpIn_seq (wpIn_cond (g2.evb (t:=39) (x:=decide ((i:Int)<(l.length:Int))) (by kernel_rfl) []) ?_)
 by_cases hlt:i<l.length
 ·rw[vce (by omega)]
  refine wpIn_skip ?_
  have hdrop:l.drop i=l[i]::l.drop (i+1):=va6 hlt
  rw[hdrop,Ey]at hf1
  obtain⟨r1,hr0',hf2⟩:=A6 hf1
  obtain⟨ks,hks,hr1⟩:=A6 hr0'
  clear hf1 hr0'
  have hf1:=hf2
  clear hf2
  have hx:cH l (i:Int)=some l[i]:=bu _ _ hlt
  generalize hyy:l[i]=y at *
  have g2':=g2.forget (tm':=Jg x (t::ts) size n (i:Int) l) (by kernel_rfl)
  refine wpIn_seq (wpIn_block ?_)
  rw[Tw]
  refine wpIn_seq (wpIn_mono (g2'.piece0 (k:=0) (XQ x (t::ts) size n (i:Int) l y hx) m2.base (Oq x _ _ (Vj l y n (i:Int)) _) []) ?_)
  rintro e ⟨a3,ds3⟩ w3 ⟨rfl,rfl,Γ3,m3,g3⟩
  have m23:Mv GE no Γ1 w1 Γ3 w3:=m2.trans m3 λb h=>.inl h
  have hs3:=hs1.mv hY m23 λb h=>h.elim
  refine wpIn_seq (wpIn_mono (XR hY hs3 hks g3) ?_)
  rintro e ⟨a4,ds4⟩ w4 ⟨rfl,rfl,Γ4,v4,m4,hv4,hs4,g4⟩
  have R4:H5 x F1 v1 Γ3 w3 F1 v4 Γ4 w4:=⟨m4.mono λb hb=>.inl (hb.elim (λh=>.inr (.inr (.inl h))) λh=>.inr (.inr (.inr h))),λb h=>.inl h,hv4⟩
  have R04:H5 x F0 v0 Γ0 w0 F1 v4 Γ4 w4:=(hR1.trans (.of m23)).trans R4
  have hc4:ML x c2 c4 c5 Γ4 w4:=(hc1.mv m23.le).mv m4.le
  refine wpIn_seq (wpIn_seq (wpIn_mono (Vw hY hV hc4 hr1 h1 h2 h3 h4 h5 hs4 g4) ?_))
  rintro e ⟨a5,ds5⟩ w5 ⟨rfl,rfl,Γ5,P5,g5⟩
  refine wpIn_cond (g5.evb (t:=55) (x:=!r1.1) (by kernel_rfl) []) ?_
  obtain⟨b1,s5,K5⟩:=r1
  cases b1 with
  |false=>
   obtain rfl:(false,(s5,K5))=q:=vat hf1
   have hr0:=hr0 rfl
   subst hr0
   refine wpIn_mono ((g5.forget (tm':=SU x (t::ts) size) (by kernel_rfl)).piece0 (k:=0) (Vx x (t::ts) size) P5.mv.base (pD (aI vzz vzz)) []) ?_
   rintro e ⟨a6,ds6⟩ w6 ⟨rfl,rfl,Γ6,m6,g6⟩
   refine .inr ⟨rfl,Re rfl ((R04.pst (kids:=ks) P5).post hY m6|>λp=>?_) g6⟩
   obtain⟨F',v',q1,q2,q3,q4⟩:=p.ex
   exact⟨p.mv,F',v',q1,q2,λh=>(by cases h),q4⟩
  |true=>
   refine wpIn_skip ?_
   obtain⟨F5,v5,q1,q2,q3,q4⟩:=P5.ex
   have hs5:=q3 rfl
   obtain⟨hlen,rfl⟩:=Ec hks
   have R05:H5 x F0 v0 Γ0 w0 F5 v5 Γ5 w5:=R04.trans ⟨P5.mv,q1,q2⟩
   refine wpIn_mono (Vy hY hs5 (g5.forget (tm':=Jg x (t::ts) size n (i:Int) l) (by kernel_rfl)) (by simpa using hlen)) ?_
   rintro e ⟨a6,ds6⟩ w6 ⟨rfl,rfl,Γ6,v6,m6,hv6,hs6,g6⟩
   have R06:H5 x F0 v0 Γ0 w0 F5 v6 Γ6 w6:=R05.trans ⟨m6.mono λb hb=>.inl (.inr (.inr (.inl hb))),λb h=>.inl h,λb h=>.inl (hv6 b h)⟩
   have hc6:ML x c2 c4 c5 Γ6 w6:=(hc4.mv P5.mv.le).mv m6.le
   refine wpIn_mono (g6.piece0 (k:=0) (Vz x (t::ts) size n (i:Int) l) m6.base (K6 x _ _ (Vk _ _ _)) []) ?_
   rintro e ⟨a7,ds7⟩ w7 ⟨rfl,rfl,Γ7,m7,g7⟩
   have ew:bw ((i:Int)+1)=((i+1:Nat):Int):=by rw[bX (by omega) (by omega)];omega
   rw[ew]at g7
   exact⟨l.length - (i+1),by omega,rfl,i+1,(s5,K5),F5,v6,Γ7,rfl,hlt,hf1,R06.trans (.of m7),hc6.mv m7.le,hs6.mv hY m7 λb h=>h.elim,g7⟩
 ·rw[decide_eq_false (by omega)]
  refine wpIn_exit ?_
  rw[vbJ (by omega),Ey]at hf1
  cases hf1
  exact .inl ⟨rfl,rfl,rfl,Γ2,F1,v1,hR1.trans (.of m2),hc1.mv m2.le,hs1.mv hY m2 λb h=>h.elim,g2.forget (tm':=N4 x (t::ts) size n) (by kernel_rfl)⟩
theorem HS(hY:Yv lo x.l step J)(hR:Od x.m R)(hV:∀t' ts',ts=t'::ts'->S0 lo x c2 c4 c5 R step J ts')(hlong:∀t n K r,R t n K=some r->r.1.length<4611686018427387904):S0 lo x c2 c4 c5 R step J ts:=by
 intro size kids s K r F v Γ w t0 n hv h1 h2 h5 hs hc ht0
 have hl:IK=1099511627776:=rfl
 refine callsIn_of_wp func147 (c:=Qf) rfl vzz ?_
 have hB:=hY.base hs.j
 have h0:Fr Γ w (#[t0,.int .i64 size,c2,x.kp,c4,c5]++Array.replicate 56 undef) (SU x ts size):=by
  refine⟨by kernel_rfl,λk p u hp hu=>?_⟩
  have htm:SU x ts size=[sl af ts,.int .i64 size,.eptr [yv x.l],.val x.kp,.eptr x.sp,.eptr [.val x.fv]]++List.replicate 56 .undef:=by kernel_rfl
  rw[htm]at hp
  by_cases hk:k<6
  ·rw[vac (by simpa using hk)]at hp
   rw[vaS (by simpa using hk)]at hu
   match k,hk with
   |0,_=>simp at hp hu;subst hp;subst hu;exact ht0
   |1,_=>simp at hp hu;subst hp;subst hu;exact .int _ _
   |2,_=>simp at hp hu;subst hp;subst hu;exact hc.y
   |3,_=>simp at hp hu;subst hp;subst hu;exact .val _
   |4,_=>simp at hp hu;subst hp;subst hu;exact hc.sp
   |5,_=>simp at hp hu;subst hp;subst hu;exact hc.me
  ·rw[vad (by simpa using hk),vaX]at hp
   split at hp<;>cases hp
   exact .undef u
 show Qf.wpIn Fence.wide n Pg (PU lo x J F v kids r Γ w) ⟨_,[]⟩ w
 rw[RS]
 refine wpIn_seq (wpIn_mono (h0.piece0 (k:=0) (XI x ts size) hB (K6 x ts size (L:=[]) trivial) []) ?_)
 rintro e ⟨a1,ds1⟩ w1 ⟨rfl,rfl,Γ1,m1,g1⟩
 refine wpIn_seq (wpIn_seq (wpIn_mono (g1.piece0 (k:=0) (XJ x ts size) m1.base (K6 x ts size (L:=[(14,.bool ((ts.length:Int)==0))]) ⟨vzz,vzz⟩) []) ?_))
 rintro e ⟨a2,ds2⟩ w2 ⟨rfl,rfl,Γ2,m2,g2⟩
 have m12:Mv GE no Γ w Γ2 w2:=m1.trans m2 λb h=>.inl h
 have hs2:=hs.mv hY m12 λb h=>h.elim
 have hc2:=hc.mv m12.le
 have g2':=g2.forget (tm':=SU x ts size) (by kernel_rfl)
 refine wpIn_cond (g2.evb (t:=14) (x:=(ts.length:Int)==0) (by kernel_rfl) []) ?_
 cases ts with
 | nil =>
  have e0:((([]:List ae).length:Int)==0)=true:=rfl
  rw[e0]
  simp only[G3]at hv
  rcases OE hv with⟨c1,hv⟩|⟨c1,hv⟩
  ·cases hv
   refine wpIn_mono (g2'.piece0 (k:=0) (XK x [] size c1) m2.base (pD (aI vzz vzz)) []) ?_
   rintro e ⟨a3,ds3⟩ w3 ⟨rfl,rfl,Γ3,m3,g3⟩
   have m13:Mv GE no Γ w Γ3 w3:=m12.trans m3 λb h=>.inl h
   exact Re rfl ⟨m13.mono λb h=>h.elim,F,v,λb h=>.inl h,λb h=>.inl h,λ_=>hs2.mv hY m3 λb h=>h.elim,λh=>(by cases h)⟩ g3
  ·obtain⟨q,hq,hv⟩:=A6 hv
   cases hv
   refine wpIn_mono (VB hY c1 hq hs2 g2') ?_
   rintro e ⟨a3,ds3⟩ w3 ⟨rfl,rfl,Γ3,hP,g3⟩
   exact Re rfl ((H5.of m12).pst hP) g3
 | cons t ts =>
  have e0:(((t::ts).length:Int)==0)=false:=by
   rw[beq_eq_false_iff_ne];simp only[va2];omega
  rw[e0]
  have hV:=hV t ts rfl
  have h5':(ts.length:Int)<=IK:=by simp only[va2]at h5;omega
  simp only[G3]at hv
  refine wpIn_skip ?_
  refine wpIn_seq (wpIn_seq (wpIn_mono (g2'.piece0 (k:=0) (XL x (t::ts) size) m2.base (K6 x (t::ts) size (L:=[(9,.int .i64 1)]) ⟨vzz,vzz⟩) []) ?_))
  rintro e ⟨a3,ds3⟩ w3 ⟨rfl,rfl,Γ3,m3,g3⟩
  have m13:Mv GE no Γ w Γ3 w3:=m12.trans m3 λb h=>.inl h
  refine wpIn_block (wpIn_loop_ghost (λk a' w'=>a'.defers=[]/\∃(j:Nat) (sK:S×fe) (F':Nat->Prop) (v':Value) (Γ':ay),k=(size - ts.length).toNat - j/\j<=(size - ts.length).toNat/\
   Ey (λs n=>(R t n s.2).bind λq=>Ey (λs v=>(app kids [v]).bind λks=>G3 R step ts (size - n) ks s) q.1 (s.1,q.2)) ((Q9 size ts.length).drop j) sK=some r/\
   H5 x F v Γ w F' v' Γ' w'/\ML x c2 c4 c5 Γ' w'/\Sd lo x J F' sK.1 sK.2 kids v' Γ' w'/\Fr Γ' w' a'.tmps (N4 x (t::ts) size ((j:Int)+1))) (size - ts.length).toNat ⟨rfl,0,(s,K),F,v,Γ3,rfl,vaP _,hv,.of m13,hc.mv m13.le,hs.mv hY m13 λb h=>h.elim,g3⟩ ?_)
  rintro k ⟨a4,ds4⟩ w4 ⟨hd4,j,⟨s4,K4⟩,F4,v4,Γ4,rfl,hj,hf4,hR4,hc4,hs4,g4⟩
  simp only at hd4;subst hd4
  rw[Tx]
  refine wpIn_seq (wpIn_seq (wpIn_mono (g4.piece0 (k:=0) (XM x (t::ts) size ((j:Int)+1)) hR4.mv.base (K6 x (t::ts) size (L:=[(9,.int .i64 ((j:Int)+1)),(28,.bool (decide ((j:Int)+1<=bw (bw (size - ((t::ts).length:Int))+1))))]) ⟨vzz,vzz,vzz⟩) []) ?_))
  rintro e ⟨a5,ds5⟩ w5 ⟨rfl,rfl,Γ5,m5,g5⟩
  refine wpIn_cond (g5.evb (t:=28) (x:=decide ((j:Int)+1<=bw (bw (size - ((t::ts).length:Int))+1))) (by kernel_rfl) []) ?_
  have ew:bw (bw (size - ((t::ts).length:Int))+1)=size - ts.length:=by
   have e1:((t::ts).length:Int)=(ts.length:Int)+1:=by simp
   have e2:bw (size - ((t::ts).length:Int))=size - ((t::ts).length:Int):=bX (by omega) (by omega)
   rw[e2,bX (by omega) (by omega)];omega
  rw[ew]
  by_cases hlt:(j:Int)<size - ts.length
  ·rw[vce (by omega)]
   refine wpIn_skip ?_
   rw[PN hlt,Ey]at hf4
   obtain⟨q,hq,hf4⟩:=A6 hf4
   obtain⟨qs,hqs,hq⟩:=A6 hq
   have hs5:=hs4.mv hY m5 λb h=>h.elim
   refine wpIn_seq (wpIn_block (wpIn_seq (wpIn_mono (XO (x:=x) (t:=t) (ts:=ts) (size:=size) (n:=(j:Int)+1) (hR t _ K4 qs hqs) m5.base hs5.k (g5.forget (tm':=N4 x (t::ts) size ((j:Int)+1)) (by kernel_rfl))) ?_)))
   rintro e ⟨a6,ds6⟩ w6 ⟨rfl,rfl,Γ6,m6,k6,g6⟩
   have hs6:=hs5.map hY m6 k6
   have R6:H5 x F v Γ w F4 v4 Γ6 w6:=(hR4.trans (.of m5)).trans ⟨m6.mono λb hb=>.inl (.inr (.inl hb)),λb h=>.inl h,λb h=>.inl h⟩
   have hc6:ML x c2 c4 c5 Γ6 w6:=(hc4.mv m5.le).mv m6.le
   refine wpIn_mono (OJ (r:=r) hY hV h1 h2 h5' (by omega) (by omega) (hlong t _ K4 qs hqs) hq (λhq1=>?_) R6 hc6 hs6 g6) ?_
   ·rw[hq1]at hf4
    exact(vat hf4).symm
   rintro e ⟨a7,ds7⟩ w7 (⟨rfl,rfl,hq1,Γ7,F7,v7,R7,hc7,hs7,g7⟩|⟨rfl,hx⟩)
   ·rw[hq1]at hf4
    refine wpIn_mono (g7.piece0 (k:=0) (XN x (t::ts) size ((j:Int)+1)) R7.mv.base (K6 x (t::ts) size (L:=[(9,.int .i64 (bw ((j:Int)+1+1)))]) ⟨vzz,vzz⟩) []) ?_
    rintro e ⟨a8,ds8⟩ w8 ⟨rfl,rfl,Γ8,m8,g8⟩
    have ew:bw ((j:Int)+1+1)=((j+1:Nat):Int)+1:=by rw[bX (by omega) (by omega)];omega
    rw[ew]at g8
    exact⟨(size - ts.length).toNat - (j+1),by omega,rfl,j+1,q.2,F7,v7,Γ8,rfl,by omega,hf4,R7.trans (.of m8),hc7.mv m8.le,hs7.mv hY m8 λb h=>h.elim,g8⟩
   ·exact hx
  ·rw[decide_eq_false (by omega)]
   refine wpIn_exit ?_
   rw[Ra (by omega),Ey]at hf4
   cases hf4
   refine wpIn_mono ((g5.forget (tm':=SU x (t::ts) size) (by kernel_rfl)).piece0 (k:=0) (VA x (t::ts) size) m5.base (pD (aI vzz vzz)) []) ?_
   rintro e ⟨a6,ds6⟩ w6 ⟨rfl,rfl,Γ6,m6,g6⟩
   have m56:Mv GE no Γ4 w4 Γ6 w6:=m5.trans m6 λb h=>.inl h
   have R6:H5 x F v Γ w F4 v4 Γ6 w6:=hR4.trans (.of m56)
   exact Re rfl ⟨R6.mv,F4,v4,R6.f,R6.v,λ_=>hs4.mv hY m56 λb h=>h.elim,λh=>(by cases h)⟩ g6
theorem MJ(hY:Yv lo x.l step J)(hR:Od x.m R)(hlong:∀t n K r,R t n K=some r->r.1.length<4611686018427387904):∀ts:List ae,S0 lo x c2 c4 c5 R step J ts
 |[]=>HS hY hR (λt ts h=>by cases h) hlong
 |t::ts=>HS hY hR (λt' ts' h=>by cases h;exact MJ hY hR hlong ts) hlong
end
section
variable{P:Program}{GE:List (Nat×List PVal)}{Γ Γ':ay}{w w':World}{b k:Nat}
theorem Mv.freeze(hB:dJ GE Γ w)(ho:nB GE Γ w b){c:Array Value}{t:TypeId}{fr:Nat×Nat}(hb:w.heap[b]? =some (.cells c t fr))(hk:k<=c.size):Mv GE (λx=>x=b) Γ w (Γ.put b k) w:=by
 have hle:Γ.Le w (Γ.put b k) w:=λx n hx _=>⟨n,(Γ.put_other λe=>by rw[e,ho.1]at hx;cases hx).trans hx,vaj _,λ_ _=>rfl⟩
 refine⟨hB.world hle (λx n hx=>?_) (vaj _) λg cs hg=>rfl,⟨rfl,rfl,rfl,vaj _,vaj _,λx _ hx=>⟨rfl,Γ.put_other hx⟩,hle⟩⟩
 by_cases hxb:x=b
 ·subst hxb
  rw[Γ.put_same]at hx;cases hx
  exact⟨c,t,fr,hb,hk⟩
 ·rw[Γ.put_other hxb]at hx
  exact hB.wi x n hx
theorem Mv.alloc{M:Nat->Prop}(hB:dJ GE Γ w)(o:Obj):Mv GE M Γ w Γ (w.alloc o):=Mv.mono (M1:=no) (Mv.raw hB rfl rfl rfl (by simp[World.size_alloc]) (vaj _) (λb hb _=>dH w _ hb) λb hb=>hb.elim) λb hb=>hb.elim
theorem nB.new(hB:dJ GE Γ w)(o:Obj):nB GE Γ (w.alloc o) w.heap.size:=by
 refine⟨?_,by simp[World.size_alloc],λg cs hg hx=>?_⟩
 ·cases hΓ:Γ w.heap.size with
  |none=>rfl
  |some m=>exact absurd (hB.lt hΓ) (vbw _)
 ·exact absurd (hx▸(hB.gx g cs hg).1) (vbw _)
theorem wx.new(v:Value)(t:TypeId)(w:World):wx (w.alloc (.cells #[v] t)) w.heap.size v:=⟨t,db w _⟩
theorem wr{t:TypeId}{z:Value}(hz:(zeroValue t).run P w=.ok z w):(Instr.alloc t true (.tuple #[])).run P w=.ok (.pointer (some ⟨w.heap.size,0,none⟩)) (w.alloc (.cells z.cells t)):=by
 simp[Instr.alloc,hz,newVar,newRow]
theorem wx.eptr{v:Value}(h:wx w b v)(hg:Γ b=some 1):VR Γ [] w (.eptr [.val v]) (.pointer (some ⟨b,0,none⟩)):=by
 obtain⟨t,h⟩:=h
 refine .eptr _ b 0 1 (λ_=>v) hg (by simp) (λk p hp=>?_) λk p hp=>?_
 all_goals
  have hk:k=0:=by have:=ah hp;simp at this;exact this
  subst hk
 ·rw[cell_of_row w b _ _ t _ h];rfl
 ·simp at hp;subst hp;exact .val v
end
abbrev P2:Nat:=206
abbrev Us:Nat:=146
noncomputable def Ri:Code:=f146.body.getD .skip
abbrev WE:Code:=be Ri [false]
abbrev SS:Code:=be Ri [true,false]
abbrev Rw:Code:=be Ri [true,true,false]
abbrev M7:Code:=be Ri [true,true,true,false]
abbrev Lm:Code:=be Ri [true,true,true,true]
theorem RQ:Ri=.seq WE (.seq (.region (xn SS) (bY SS) false) (.seq (.region (xn Rw) (bY Rw) false) (.seq (.region (xn M7) (bY M7) false) (.region (xn Lm) (bY Lm) false)))):=by kernel_rfl
abbrev pY(m:al)(mb:Nat):List PVal:=am m++[.val (.map (some mb))]
abbrev ST(l:Nat)(m:al)(mb:Nat)(ts:List ae)(size:Int)(L:List (Nat×PVal))(H:List av):az:=bO 12 ((0,yv l)::(1,.eptr (pY m mb))::(2,.eptr [sl af ts])::(3,.eptr [.int .i64 size])::L) H []
theorem qf(m:al)(mb:Nat):dO 0 (pY m mb):=kR.2 ⟨rQ m,vzz,vzz⟩
section
variable{S:Type}{lo:Nat}{step:S->List aa->Option (Bool×S)}{J:(Nat->Prop)->Bool->S->ay->World->Prop}{F:Nat->Prop}{s:S}{K:fe}
variable{l:Nat}{m:al}{mb:Nat}{ts:List ae}{size:Int}{a:Array Value}{Γ Γ1 Γ2 Γ':ay}{w w1 w2 w':World}{ds:List Deferred}{nn:Nat}{R:ae->Int->fe->Option (List aa×fe)}
theorem XT(l:Nat)(m:al)(mb:Nat)(ts:List ae)(size:Int):cO Pg GE 0 WE (EX .normal (ST l m mb ts size [(4,.eptr [yv l])] [.dead])) (ST l m mb ts size [] []):=by
 have z:=se (rfl:bA (yv l)=some [yv l])<|eF .normal (ST l m mb ts size [(4,.eptr [yv l])] [.dead])
 exact cK (A:=[]) mixed z (by kernel_rfl)
theorem Nd(hY:Yv lo l step J)(hR:Od m R)(hlong:∀t n K r,R t n K=some r->r.1.length<4611686018427387904){r:Bool×S×fe}(hr:G3 R step ts size [] (s,K)=some r)(h1: -IK<=size)(h2:size<=IK)(h5:(ts.length:Int)<=IK)
  (hj:J F true s Γ w) (hk:KM mb K Γ w) (hkf:¬F mb) (hlo:lo<=w.heap.size) {cs cl cn:Value} (hs:VR Γ [] w (.eptr (pY m mb)) cs) (hl:VR Γ [] w (.eptr [sl af ts]) cl) (hn:VR Γ [] w (.eptr [.int .i64 size]) cn):
  CallsIn Fence.wide nn Pg Us #[.func (.yield l) #[] #[],cs,cl,cn] w λe w'=>(∃u,e=.returned u)/\∃Γ' F',Mv GE (λb=>F b\/b=mb) Γ w Γ' w'/\(∀b,F' b->F b\/w.heap.size<=b)/\J F' r.1 r.2.1 Γ' w'/\KM mb r.2.2 Γ' w':=by
 refine callsIn_of_wp func146 (c:=Ri) rfl vzz ?_
 have hB:=hY.base hj
 have hlow:=hY.low hj
 have h0:Fr Γ w (#[.func (.yield l) #[] #[],cs,cl,cn]++Array.replicate 8 undef) (ST l m mb ts size [] []).tmps:=by
  refine⟨by kernel_rfl,λk p u hp hu=>?_⟩
  have htm:(ST l m mb ts size [] []).tmps=[yv l,.eptr (pY m mb),.eptr [sl af ts],.eptr [.int .i64 size]]++List.replicate 8 .undef:=by kernel_rfl
  rw[htm]at hp
  by_cases hk:k<4
  ·rw[vac (by simpa using hk)]at hp
   rw[vaS (by simpa using hk)]at hu
   match k,hk with
   |0,_=>simp at hp hu;subst hp;subst hu;exact .val _
   |1,_=>simp at hp hu;subst hp;subst hu;exact hs
   |2,_=>simp at hp hu;subst hp;subst hu;exact hl
   |3,_=>simp at hp hu;subst hp;subst hu;exact hn
  ·rw[vad (by simpa using hk),vaX]at hp
   split at hp<;>cases hp
   exact .undef u
 show Ri.wpIn Fence.wide nn Pg _ ⟨_,[]⟩ w
 rw[RQ]
 refine wpIn_seq (wpIn_mono (h0.piece0 (k:=0) (XT l m mb ts size) hB (pD ⟨vzz,qf m mb,⟨bB dy ts,vzz⟩,⟨vzz,vzz⟩,⟨vzz,vzz⟩,vzz⟩) []) ?_)
 rintro e ⟨a1,ds1⟩ w1 ⟨rfl,rfl,Γ1,m1,g1⟩
 have z31:(zeroValue tV).run Pg w1=.ok (.slice none 0 0) w1:=Tryz.zeroValue31 w1
 refine wpIn_seq (wpIn_region ?_)
 rw[show List.range (bY SS).size=[0] by kernel_rfl]
 refine bR (o:=bF SS 0) (by kernel_rfl) (by kernel_rfl) (cC (by kernel_rfl) (by simp only[execOp,show(bF SS 0).op=.alloc tV by kernel_rfl,Sem.run_bind,wr z31];rfl) ?_)
 rw[show(bF SS 0).dst=some 5 by kernel_rfl]
 have m2:Mv GE no Γ1 w1 Γ1 (w1.alloc (.cells #[.slice none 0 0] tV)):=.alloc m1.base _
 have hd2:wx (w1.alloc (.cells #[.slice none 0 0] tV)) w1.heap.size (.slice none 0 0):=.new _ _ w1
 have of2:nB GE Γ1 (w1.alloc (.cells #[.slice none 0 0] tV)) w1.heap.size:=.new m1.base _
 have g2:=(g1.mv m2.le).set (d:=5) (p:=.val (.pointer (some ⟨w1.heap.size,0,none⟩))) (.val _)
 have sz2:(w1.alloc (.cells #[.slice none 0 0] tV)).heap.size=w1.heap.size+1:=World.size_alloc _ _
 generalize hw2:w1.alloc (.cells #[.slice none 0 0] tV)=w2 at m2 hd2 of2 g2 sz2
 show(Code.seq (.region (xn Rw) (bY Rw) false) (.seq (.region (xn M7) (bY M7) false) (.region (xn Lm) (bY Lm) false))).wpIn Fence.wide nn Pg _ ⟨a1.setIfInBounds 5 (.pointer (some ⟨w1.heap.size,0,none⟩)),[]⟩ (w1.alloc (.cells #[.slice none 0 0] tV))
 rw[hw2]
 have z206:(zeroValue P2).run Pg w2=.ok .nilFunc w2:=Tryz.zeroValue206 w2
 refine wpIn_seq (wpIn_region ?_)
 rw[show List.range (bY Rw).size=[0] by kernel_rfl]
 refine bR (o:=bF Rw 0) (by kernel_rfl) (by kernel_rfl) (cC (by kernel_rfl) (by simp only[execOp,show(bF Rw 0).op=.alloc P2 by kernel_rfl,Sem.run_bind,wr z206];rfl) ?_)
 rw[show(bF Rw 0).dst=some 6 by kernel_rfl]
 have m3:Mv GE no Γ1 w2 Γ1 (w2.alloc (.cells #[.nilFunc] P2)):=.alloc m2.base _
 have hd3:wx (w2.alloc (.cells #[.nilFunc] P2)) w2.heap.size .nilFunc:=.new _ _ w2
 have of3:nB GE Γ1 (w2.alloc (.cells #[.nilFunc] P2)) w2.heap.size:=.new m2.base _
 have g3:=(g2.mv m3.le).set (d:=6) (p:=.val (.pointer (some ⟨w2.heap.size,0,none⟩))) (.val _)
 have sz3:(w2.alloc (.cells #[.nilFunc] P2)).heap.size=w2.heap.size+1:=World.size_alloc _ _
 show(Code.seq (.region (xn M7) (bY M7) false) (.region (xn Lm) (bY Lm) false)).wpIn Fence.wide nn Pg _ ⟨(a1.setIfInBounds 5 (.pointer (some ⟨w1.heap.size,0,none⟩))).setIfInBounds 6 (.pointer (some ⟨w2.heap.size,0,none⟩)),[]⟩ (w2.alloc (.cells #[.nilFunc] P2))
 generalize hw3:w2.alloc (.cells #[.nilFunc] P2)=w3 at m3 hd3 of3 g3 sz3
 generalize (a1.setIfInBounds 5 (.pointer (some ⟨w1.heap.size,0,none⟩))).setIfInBounds 6 (.pointer (some ⟨w2.heap.size,0,none⟩))=a3 at g3
 obtain⟨c2,ec2,vc2⟩:=g3.get (t:=4) (p:=.eptr [yv l]) (by kernel_rfl)
 obtain⟨c4,ec4,vc4⟩:=g3.get (t:=1) (p:=.eptr (pY m mb)) (by kernel_rfl)
 have e5:=g3.raw (t:=5) (u:=.pointer (some ⟨w1.heap.size,0,none⟩)) (by kernel_rfl)
 have e6:=g3.raw (t:=6) (u:=.pointer (some ⟨w2.heap.size,0,none⟩)) (by kernel_rfl)
 refine wpIn_seq (wpIn_region ?_)
 rw[show List.range (bY M7).size=[0,1] by kernel_rfl]
 have q4:(Act.mk a3 []).eval (.tmp 4)=c2:=aP ec2
 have q1:(Act.mk a3 []).eval (.tmp 1)=c4:=aP ec4
 have q5:(Act.mk a3 []).eval (.tmp 5)=.pointer (some ⟨w1.heap.size,0,none⟩):=aP e5
 have q6:(Act.mk a3 []).eval (.tmp 6)=.pointer (some ⟨w2.heap.size,0,none⟩):=aP e6
 refine bR (o:=bF M7 0) (by kernel_rfl) (by kernel_rfl) (cC (by kernel_rfl) (v:=.func (.func Sc) #[] #[c2,.pointer (some ⟨w1.heap.size,0,none⟩),c4,.pointer (some ⟨w2.heap.size,0,none⟩)]) (w':=w3) (by
  simp[execOp,show(bF M7 0).op=.makeFunc (.func Sc) #[] #[.tmp 4,.tmp 5,.tmp 1,.tmp 6] by kernel_rfl,Instr.makeFunc,q4,q5,q1,q6]) ?_)
 rw[show(bF M7 0).dst=some 7 by kernel_rfl]
 generalize hfv:(Value.func (.func Sc) #[] #[c2,.pointer (some ⟨w1.heap.size,0,none⟩),c4,.pointer (some ⟨w2.heap.size,0,none⟩)])=fv
 have g4:=g3.set (d:=7) (p:=.val fv) (.val fv)
 have q7:(Act.mk (a3.setIfInBounds 7 fv) []).eval (.tmp 7)=fv:=aP (g4.raw (by kernel_rfl))
 have q6':(Act.mk (a3.setIfInBounds 7 fv) []).eval (.tmp 6)=.pointer (some ⟨w2.heap.size,0,none⟩):=aP (g4.raw (by kernel_rfl))
 obtain⟨w5,hrun5,m5,hd5⟩:=hd3.store (P:=Pg) (T:=P2) (u:=fv) m3.base (by kernel_rfl) (by kernel_rfl) (by rw[<-hfv];rfl) of3
 refine bR (o:=bF M7 1) (by kernel_rfl) (by kernel_rfl) (jT (a:=a3.setIfInBounds 7 fv) (by kernel_rfl) (w':=w5) (by simp[execOp,show(bF M7 1).op=.store P2 (.tmp 6) (.tmp 7) by kernel_rfl,q6',q7,hrun5]) ?_)
 rw[show(bF M7 1).dst=none by kernel_rfl]
 have of5:nB GE Γ1 w5 w2.heap.size:=⟨of3.1,vaE of3.2.1 m5.size,of3.2.2⟩
 obtain⟨t5,hh5⟩:=id hd5
 have m6:=Mv.freeze (k:=1) m5.base of5 hh5 (by simp)
 have vc5:VR (Γ1.put w2.heap.size 1) [] w5 (.eptr [.val fv]) (.pointer (some ⟨w2.heap.size,0,none⟩)):=hd5.eptr (Γ1.put_same _ _)
 have m36:Mv GE (λb=>b=w2.heap.size) Γ1 w3 (Γ1.put w2.heap.size 1) w5:=m5.trans m6 λb h=>.inl h
 have m16:Mv GE no Γ w (Γ1.put w2.heap.size 1) w5:=(((m1.trans m2 λb h=>.inl h).trans m3 λb h=>.inl h)).trans m36 λb h=>by
  have h:b=w2.heap.size:=h
  have:=m1.size
  exact .inr (by omega)
 have g5:Fr (Γ1.put w2.heap.size 1) w5 (a3.setIfInBounds 7 fv) (((ST l m mb ts size [(4,.eptr [yv l])] []).tmps).set 6 (.eptr [.val fv])):=by
  have g5:=((g4.mv m5.le).mv m6.le).add (d:=6) (p:=.eptr [.val fv]) ⟨_,g4.raw (t:=6) (u:=.pointer (some ⟨w2.heap.size,0,none⟩)) (by kernel_rfl),vc5⟩
  exact g5.forget (by kernel_rfl)
 generalize Γ1.put w2.heap.size 1=Γ5 at m6 vc5 m36 m16 g5
 have hkb:¬w1.heap.size=w2.heap.size:=by omega
 have hd6:wx w5 w1.heap.size (.slice none 0 0):=(hd2.mv m3 id).mv m36 hkb
 have of6:nB GE Γ5 w5 w1.heap.size:=(of2.mv m3 id).mv m36 hkb
 let x:Cx:=⟨l,w1.heap.size,mb,m,fv⟩
 have hsd:Sd lo x J F s K [] (.slice none 0 0) Γ5 w5:=⟨hY.side hj m16 λb h=>h.elim,hk.mv m16 id,hkf,hd6,of6,λh=>by
  have h:F w1.heap.size:=h
  have:=hlow _ h;have:=m1.size;omega,λh=>by
  have h:w1.heap.size=mb:=h
  have:=hk.off.2.1;have:=m1.size;omega,fj.nil,λb hb=>by simp[Value.ownBlock]at hb,vax hlo m16.size⟩
 have hcap:ML x c2 c4 (.pointer (some ⟨w2.heap.size,0,none⟩)) Γ5 w5:=⟨vc2.mono m36.le (.refl _),vc4.mono m36.le (.refl _),vc5,hfv.symm⟩
 show(Code.region (xn Lm) (bY Lm) false).wpIn Fence.wide nn Pg _ ⟨a3.setIfInBounds 7 fv,[]⟩ w5
 refine wpIn_region ?_
 rw[show List.range (bY Lm).size=[0,1,2,3] by kernel_rfl]
 refine bR (o:=bF Lm 0) (by kernel_rfl) (by kernel_rfl) (g5.opS m16.base (d:=8) (p:=.val fv) (by kernel_rfl) (by kernel_rfl) (by kernel_rfl) (by kernel_rfl) λa6 Γ6 w6 n6 g6=>?_)
 refine bR (o:=bF Lm 1) (by kernel_rfl) (by kernel_rfl) (g6.opS n6.base (d:=9) (p:=sl af ts) (by kernel_rfl) (by kernel_rfl) (by kernel_rfl) (by kernel_rfl) λa7 Γ7 w7 n7 g7=>?_)
 refine bR (o:=bF Lm 2) (by kernel_rfl) (by kernel_rfl) (g7.opS n7.base (d:=10) (p:=.int .i64 size) (by kernel_rfl) (by kernel_rfl) (by kernel_rfl) (by kernel_rfl) λa8 Γ8 w8 n8 g8=>?_)
 have n58:Mv GE no Γ5 w5 Γ8 w8:=(n6.trans n7 λb h=>.inl h).trans n8 λb h=>.inl h
 have q8:(Act.mk a8 []).eval (.tmp 8)=.func (.func Sc) #[] #[c2,x.kp,c4,.pointer (some ⟨w2.heap.size,0,none⟩)]:=(aP (g8.raw (u:=fv) (by kernel_rfl))).trans hfv.symm
 obtain⟨t9,e9,v9⟩:=g8.get (t:=9) (p:=sl af ts) (by kernel_rfl)
 obtain⟨t10,e10,v10⟩:=g8.get (t:=10) (p:=.int .i64 size) (by kernel_rfl)
 cases v10
 have q9:(Act.mk a8 []).eval (.tmp 9)=t9:=aP e9
 have q10:(Act.mk a8 []).eval (.tmp 10)=.int .i64 size:=aP e10
 have hcall:=MJ (x:=x) (lo:=lo) (c2:=c2) (c4:=c4) (c5:=.pointer (some ⟨w2.heap.size,0,none⟩)) (step:=step) (J:=J) hY hR hlong ts size [] s K r F (.slice none 0 0) Γ8 w8 t9 (nn - 1) hr h1 h2 h5 (hsd.mv hY n58 λb h=>h.elim) (hcap.mv n58.le) v9
 have hop:(bF Lm 3).op=.call {callee:=.value (.tmp 8),args:=#[.tmp 9,.tmp 10],argTypes:=Kt (bF Lm 3)}:=by kernel_rfl
 refine bR (o:=bF Lm 3) (by kernel_rfl) (by kernel_rfl) (A7 hop q8 call147 (by
  have e:(#[]++(#[.tmp 9,.tmp 10]:Array Operand).map (Act.mk a8 []).eval++#[c2,x.kp,c4,.pointer (some ⟨w2.heap.size,0,none⟩)])=#[t9,.int .i64 size,c2,x.kp,c4,.pointer (some ⟨w2.heap.size,0,none⟩)]:=by simp[q9,q10]
  rw[e];exact hcall) ?_)
 rintro e w9 ⟨rfl,Γ9,hP⟩
 refine⟨_,rfl,?_⟩
 have mAll:Mv GE no Γ w Γ8 w8:=m16.trans n58 λb h=>.inl h
 obtain⟨F',v',p1,p2,p3,p4⟩:=hP.ex
 have mF:Mv GE (λb=>F b\/b=mb) Γ w Γ9 w9:=(mAll.mono (M:=λb=>F b\/b=mb) λb h=>h.elim).trans hP.mv λb hb=>by
  rcases hb with hb|hb|hb|hb
  ·exact .inl (.inl hb)
  ·exact .inl (.inr hb)
  ·have hb:b=w1.heap.size:=hb
   exact .inr (by have:=m1.size;omega)
  ·simp[Value.ownBlock]at hb
 have hJK:J F' r.1 r.2.1 Γ9 w9/\KM mb r.2.2 Γ9 w9:=by
  obtain⟨b,s',K'⟩:=r
  cases b with
  |true=>exact⟨(p3 rfl).j,(p3 rfl).k⟩
  |false=>exact p4 rfl
 have g9:=(g8.mv hP.mv.le).set (d:=11) (p:=.bool r.1) (.bool r.1)
 obtain⟨u,e1,_⟩:=qL (g9.sr (P:=Pg) hP.mv.base 0) (fn:=f146) (r:=.tuple []) (by kernel_rfl)
 exact⟨rfl,u,e1,⟨_,rfl⟩,Γ9,F',mF,λb hb=>(p1 b hb).imp id λh=>vax mAll.size h,hJK.1,hJK.2⟩
end
abbrev Wv:Nat:=98
abbrev Wu:Nat:=124
noncomputable def Rh:Code:=f98.body.getD .skip
abbrev SN:Code:=be Rh [true,true,false,true,true,true]
abbrev RW:Code:=be SN [true,true,false,true]
abbrev cT:Code:=be RW [true,true]
abbrev N2:Code:=be cT [true,true,true]
abbrev dB:Code:=XZ N2
abbrev ek:Code:=be dB [true,false]
abbrev Gj:Code:=be dB [true,true,false]
abbrev Ii:Code:=be dB [true,true,true,false]
theorem Tt:dB=.block 3 (.seq (.region (xn ek) (bY ek) true) (.seq (.region (xn Gj) (bY Gj) false) (.seq (.region (xn Ii) (bY Ii) false) (.cond (.tmp 62) (.exit 2) .skip)))):=by kernel_rfl
theorem Ss:PE N2=.region (xn (PE N2)) (bY (PE N2)) false:=by kernel_rfl
def Js(name:ai)(s:List aa×Int)(kids:List aa):Option (Bool×(List aa×Int)):=(KX kids).bind λks=>(app s.1 [(⟨3,0,name,ks,[],[],[]⟩:aa)]).bind λo=>some (!(bw (s.2+1)==2000),(o,bw (s.2+1)))
abbrev NI(sp:List PVal)(ccons:List aH)(d:aN)(c:aH)(size len i k:Int)(ob nb:Nat)(L:List (Nat×PVal)):List PVal:=
 (bO 65 ([(2,.int .i64 size),(3,.eptr sp),(4,.eptr (ax d)),(7,.val (.pointer (some ⟨ob,0,none⟩))),(8,.int .i64 k),(9,.eptr (aF c)),(13,.val (.pointer (some ⟨nb,0,none⟩)))]++L++[(16,sl aF ccons),(17,.int .i64 len),(18,.int .i64 i)]) [] []).tmps
def Ks(c:aH)(ks:List aa)(kv:Value):List (Nat×Nat×PVal):=
 [(1,50,.eptr ((aF c).drop 0)),(2,51,.str c.Name),(3,52,.val kv),(4,53,sl ac ks),(5,54,.agg (ac ⟨3,0,c.Name,ks,[],[],[]⟩)),(7,56,.slice [z9])]
abbrev dC:List Nat:=[49,50,51,52,53,54,55,56,57,58]
theorem RJ:RC tV eV (bY ek) 8 9 10 11 49 55 56 57 58 54 7 dC (bF ek 8) (bF ek 9) (bF ek 10) (bF ek 11):=
 ⟨by kernel_rfl,by kernel_rfl,by kernel_rfl,by kernel_rfl,by kernel_rfl,by kernel_rfl,by kernel_rfl,by kernel_rfl,by kernel_rfl,by kernel_rfl,by kernel_rfl,by kernel_rfl,by kernel_rfl,by kernel_rfl,by kernel_rfl,by kernel_rfl,by kernel_rfl⟩
theorem K2{l:List aa}{kv:Value}{Γ:ay}{w:World}(hB:dJ GE Γ w)(h:fj Pg GE eV Γ w (pG ac l) l.length kv)(hl:l.length<=cz):Calls Pg Wu #[kv] w λe w'=>∃v Γ',e=.returned v/\Mv GE no Γ w Γ' w'/\VR Γ' [] w' (sl ac l) v:=by
 obtain⟨xs,hown,hxl,hx1,hxv⟩:=h.row
 have hC:=KW
 have hx:(kv=.slice none 0 0/\l.length=0)\/∃a c,kv=.slice (some a) l.length c/\∀(j:Nat) u,xs[j]? =some u->w.cell? (a.add j)=some u:=by
  rcases h.form with⟨rfl,h0⟩|⟨g,cap,rfl⟩
  ·exact .inl ⟨rfl,h0⟩
  ·exact .inr ⟨_,cap,rfl,hown.cells (g:=g) rfl⟩
 refine(hC.2 w kv l.length xs hx hown.1 hx1 hl).mono λe w' he=>?_
 obtain⟨v',rfl,hown',hbel,hdr⟩:=he
 have m1:Mv GE no Γ w Γ w':=Mv.raw hB hbel.os hbel.tape hbel.output hbel.size (jy hdr) (λb hb _=>hbel.block b hb) λb hb=>hb.elim
 rcases hown'.2 with⟨rfl,h0⟩|⟨g,cap,cur,rfl,hge,hg,hnc,hcm,hcs,htake⟩
 ·have hl0:l=[]:=vai h0
  subst hl0
  exact⟨_,Γ,rfl,m1,.sliceNil⟩
 ·have hoff:nB GE Γ w' g:=by
   refine⟨?_,oq hg,λq cs hq e=>?_⟩
   ·cases hΓ:Γ g with
    |none=>rfl
    |some m=>exact absurd (hB.lt hΓ) (vcB.2 hge)
   ·exact absurd (e▸(hB.gx q cs hq).1) (vcB.2 hge)
  have m2:=Mv.freeze (k:=l.length * Pg.cellsOf eV) m1.base hoff hg (by rw[hcs];exact vaI _ hnc)
  have m3:Mv GE no Γ w (Γ.put g (l.length * Pg.cellsOf eV)) w':=m1.trans m2 λb hb=>by
   have hb:b=g:=hb
   exact .inr (hb▸hge)
  refine⟨_,_,rfl,m3,?_⟩
  have hlm:(l.map ac).length=l.length:=by simp
  have hk:0<Pg.cellsOf eV:=bE.hp
  have:=kz (Γ:=Γ.put g (l.length * Pg.cellsOf eV)) (bs:=[]) (w:=w') (es:=l.map ac) (cap:=cap) (size:=Pg.cellsOf eV) hg (Γ.put_same _ _) (by rw[hlm];exact vaj _) hk (by rw[hlm];exact hnc) (λi x hx=>by
   obtain⟨y,_,rfl⟩:=vah.1 (vaq hx)
   exact bE.hc y) (λi x k q hx hq=>by
   have hil:i<l.length:=by have:=ah hx;omega
   have hkl:k<Pg.cellsOf eV:=by
    obtain⟨y,_,rfl⟩:=vah.1 (vaq hx)
    have:=ah hq;rw[bE.hc y]at this;exact this
   have hlt:=uX hil hkl
   have hpos:(pG ac l)[i * Pg.cellsOf eV+k]? =some q:=by
    unfold pG
    exact rV (λx hx=>by obtain⟨y,_,rfl⟩:=vah.1 hx;exact bE.hc y) hx hq
   have hxi:i * Pg.cellsOf eV+k<xs.length:=by rw[hown.1];exact hlt
   refine⟨xs[i * Pg.cellsOf eV+k],?_,(hxv _ q _ hpos (vaa hxi)).mono m3.le (.refl _)⟩
   have h1:(cur.toList.take (l.length * Pg.cellsOf eV))[i * Pg.cellsOf eV+k]? =xs[i * Pg.cellsOf eV+k]?:=by rw[htake]
   rw[var hlt,vaa hxi]at h1
   simpa using h1)
  rw[hlm]at this
  exact this
section
variable{Fc:Fence}[hF:OkF Fc]{sp:List PVal}{ccons:List aH}{d:aN}{c:aH}{size len i k:Int}{ob nb:Nat}{a:Array Value}{Γ Γ':ay}{w w':World}{ds:List Deferred}{nn:Nat}{s:List aa×Int}{kids:List aa}{kv v:Value}
theorem BE(ks:List aa):Fw (NI sp ccons d c size len i k ob nb [(14,.val kv)]) (Ks c ks kv):=wu (by kernel_rfl)
theorem Id{o:Oper}{g:FuncId}{args:Array Operand}{tys:Array TypeId}{next:Act->World->Prop}{Q:Exit->Act->World->Prop}(ho:o.op=.call {callee:=.value (.func g),args:=args,argTypes:=tys})(hd:cq o=true)(hc:∀vs w,(callFunc g vs).run Pg w=.ok (.enter g vs) w){R:Ending->World->Prop}
  (h:Calls Pg g (args.map (Act.mk a ds).eval) w R) (hR:∀e w',R e w'->∃v,e=.returned v/\next ((Act.mk a ds).put o.dst v) w'):o.wpIn Fc nn Pg ⟨a,ds⟩ w next Q:=by
 refine hF.h hd ?_
 have hrun:(execOp (Act.mk a ds).eval o).run Pg w=.ok (.enter g (args.map (Act.mk a ds).eval)) w:=by
  simp only[execOp,ho]
  simp[resolve,Act.eval,Deferred.ofValue,invoke,hc]
 unfold Oper.wp
 rw[hrun,Oper.upon_enter]
 refine h.mono λe w' he=>?_
 obtain⟨v,rfl,hx⟩:=hR e w' he
 exact hx
def IC(sp:List PVal)(ccons:List aH)(d:aN)(c:aH)(size len i k:Int)(ob nb:Nat)(ks:List aa)(kv v:Value)(n:Nat)(a0:Array Value)(L:Nat->Prop)(a:Act)(Γ:ay)(w:World):Prop:=
 mI (NI sp ccons d c size len i k ob nb [(14,.val kv)]) (Ks c ks kv) L a.tmps Γ w/\(L 0->a.tmps[49]? =some v)/\(L 6->a.tmps[55]? =some (.int .i64 (n:Int)))/\∀t,dC.contains t=false->a.tmps[t]? =a0[t]?
theorem Vo(hB:dJ GE Γ w)(hfr:Fr Γ w a (NI sp ccons d c size len i k ob nb [(14,.val kv)]))(hk:fj Pg GE eV Γ w (pG ac kids) kids.length kv)(hkl:kids.length<=cz){o:List aa}(ho:app s.1 [(⟨3,0,c.Name,kids,[],[],[]⟩:aa)]=some o)
  (hrow:fj Pg GE eV Γ w (pG ac s.1) s.1.length v) (hh:wx w ob v) (hof:nB GE Γ w ob) (hne:v.ownBlock≠some ob):
  (Code.region (xn ek) (bY ek) true).wpIn Fc nn Pg (λe a' w'=>e=.normal/\a'.defers=ds/\∃Γ' v',Mv GE (λb=>b=ob\/v.ownBlock=some b) Γ w Γ' w'/\fj Pg GE eV Γ' w' (pG ac o) o.length v'/\wx w' ob v'/\nB GE Γ' w' ob/\v'.ownBlock≠some ob/\(∀b,v'.ownBlock=some b->v.ownBlock=some b\/w.heap.size<=b)/\
   Fr Γ' w' a'.tmps (NI sp ccons d c size len i k ob nb [])) ⟨a,ds⟩ w:=by
 obtain⟨hlen,rfl⟩:=Ec ho
 have hsz:a.size=65:=hfr.sz
 have hraw:a[7]? =some (.pointer (some ⟨ob,0,none⟩)):=hfr.raw (u:=.pointer (some ⟨ob,0,none⟩)) (by kernel_rfl)
 refine Oi (T:=tV) (e:=eV) (cs:=pG ac s.1) (ps:=ac ⟨3,0,c.Name,kids,[],[],[]⟩) (k:=s.1.length) (v:=v) (kb:=ob) mixed (by kernel_rfl) (by kernel_rfl) L8 (by kernel_rfl) (by kernel_rfl) RJ hB hrow (bE.flat_len s.1) hh hof hne (by simpa using hlen) (bE.hc _) (bE.ho _) (IC sp ccons d c size len i k ob nb kids kv v s.1.length a) ?_ ?_ (by rw[hsz];decide) (by rw[hsz];decide) ?_ ?_
 ·rintro L ⟨a1,ds'⟩ Γ1 w1 j o hmv ⟨hP,h0,h6,hD⟩ rfl ho j8 j9 j10 j11 hnl hed
  have hj:j<12:=by
   have h1:=(vaf.1 ho).1
   have h2:(bY ek).size=12:=by kernel_rfl
   omega
  have hd1:=hh.mv hmv id
  have conv:∀{dd:Nat} {a':Act} {w':World},49≠dd->dd≠55->dC.contains dd=true->(∃Γ',Mv GE no Γ1 w1 Γ' w'/\a'.defers=ds'/\mI (NI sp ccons d c size len i k ob nb [(14,.val kv)]) (Ks c kids kv) (λq=>L q\/q=j) a'.tmps Γ' w'/\∃u,a'.tmps=a1.setIfInBounds dd u)->j≠0->j≠6->
    ∃Γ',Mv GE no Γ1 w1 Γ' w'/\a'.defers=ds'/\IC sp ccons d c size len i k ob nb kids kv v s.1.length a (λq=>L q\/q=j) a' Γ' w':=by
   rintro dd a' w' n1 n2 n3 ⟨Γ',m',hd',hP',u,hu⟩ hj0 hj6
   refine⟨Γ',m',hd',hP',λhx=>?_,λhx=>?_,?_⟩
   ·rw[hu,vas (Ne.symm n1)];exact h0 (hx.resolve_right λe=>hj0 e.symm)
   ·rw[hu,vas n2];exact h6 (hx.resolve_right λe=>hj6 e.symm)
   ·rw[hu];exact n9 n3 hD
  rcases(show j=0\/j=1\/j=2\/j=3\/j=4\/j=5\/j=6\/j=7 by omega)with rfl|rfl|rfl|rfl|rfl|rfl|rfl|rfl
  ·obtain rfl:bF ek 0=o:=vat ((show(bY ek)[0]? =some (bF ek 0) by kernel_rfl).symm.trans ho)
   have hop:(bF ek 0).op=.load tV (.tmp 7):=by kernel_rfl
   have hkp:(Act.mk a1 ds').eval (.tmp 7)=.pointer (some ⟨ob,0,none⟩):=aP ((hD 7 rfl).trans hraw)
   refine cC (by kernel_rfl) (v:=v) (w':=w1) (by simp[execOp,hop,hkp,hd1.load (P:=Pg) (T:=tV) (by kernel_rfl)]) ⟨Γ1,.refl hmv.base,aV _ _ _,?_⟩
   rw[show(bF ek 0).dst=some 49 by kernel_rfl]
   have hs1:a1.size=65:=hP.fr.sz
   refine⟨hP.other (by kernel_rfl) (by simp[Ks]),λ_=>by show(a1.setIfInBounds 49 v)[49]? =_;simp[hs1],λhx=>?_,n9 rfl hD⟩
   show(a1.setIfInBounds 49 v)[55]? =_
   rw[vas (by decide)]
   exact h6 (hx.resolve_right (by decide))
  ·obtain rfl:bF ek 1=o:=vat ((show(bY ek)[1]? =some (bF ek 1) by kernel_rfl).symm.trans ho)
   have e1:iu Pg (bF ek 1).op 0 (opv GE (kw (NI sp ccons d c size len i k ob nb [(14,.val kv)]) [])) []=(au Pg 76 (.eptr (aF c)) 0).map (λp=>(p,[])):=by kernel_rfl
   exact Oper.wpIn_mono (λa' w' hq=>conv (dd:=50) (by decide) (by decide) rfl hq (by decide) (by decide)) (i7 (BE kids) hmv.base hP (o:=bF ek 1) (i:=1) (d:=50) (p:=.eptr ((aF c).drop 0)) (by simp[Ks]) (by kernel_rfl) (by kernel_rfl) (by kernel_rfl) [] (by simp) hed (by rw[e1,nk];rfl))
  ·obtain rfl:bF ek 2=o:=vat ((show(bY ek)[2]? =some (bF ek 2) by kernel_rfl).symm.trans ho)
   have e1:iu Pg (bF ek 2).op 0 (opv GE (kw (NI sp ccons d c size len i k ob nb [(14,.val kv)]) [(1,50,.eptr ((aF c).drop 0))])) []=(aG Pg 9 ((aF c).drop 0)).map (λp=>(p,[])):=by kernel_rfl
   exact Oper.wpIn_mono (λa' w' hq=>conv (dd:=51) (by decide) (by decide) rfl hq (by decide) (by decide)) (i7 (BE kids) hmv.base hP (o:=bF ek 2) (i:=2) (d:=51) (p:=.str c.Name) (by simp[Ks]) (by kernel_rfl) (by kernel_rfl) (by kernel_rfl) [(1,50,.eptr ((aF c).drop 0))] (by intro y hy;obtain rfl:=vbd.1 hy;exact⟨by simp[Ks],by kernel_rfl⟩) hed (by rw[e1,pQ];rfl))
  ·obtain rfl:bF ek 3=o:=vat ((show(bY ek)[3]? =some (bF ek 3) by kernel_rfl).symm.trans ho)
   exact Oper.wpIn_mono (λa' w' hq=>conv (dd:=52) (by decide) (by decide) rfl hq (by decide) (by decide)) (i7 (BE kids) hmv.base hP (o:=bF ek 3) (i:=3) (d:=52) (p:=.val kv) (by simp[Ks]) (by kernel_rfl) (by kernel_rfl) (by kernel_rfl) [] (by simp) hed (by kernel_rfl))
  ·obtain rfl:bF ek 4=o:=vat ((show(bY ek)[4]? =some (bF ek 4) by kernel_rfl).symm.trans ho)
   obtain⟨u,u1,u2⟩:=hP.at' (3,52,.val kv) (by simp[Ks]) (gA (j:=3) (by kernel_rfl) hed)
   cases u2
   have e52:(Act.mk a1 ds').eval (.tmp 52)=kv:=aP u1
   have hop:(bF ek 4).op=.call {callee:=.value (.func Wu),args:=#[.tmp 52],argTypes:=Kt (bF ek 4)}:=by kernel_rfl
   have hcl:=K2 hmv.base (hk.mv hmv λb _=>id) hkl
   refine Id hop (by kernel_rfl) call124 (by
    have e:(#[.tmp 52]:Array Operand).map (Act.mk a1 ds').eval=#[kv]:=by simp[e52]
    rw[e];exact hcl) ?_
   rintro e w2 ⟨v2,Γ2,rfl,m2,hv2⟩
   refine⟨v2,rfl,conv (dd:=53) (by decide) (by decide) rfl ⟨Γ2,m2,aV _ _ _,?_,v2,by rw[show(bF ek 4).dst=some 53 by kernel_rfl];rfl⟩ (by decide) (by decide)⟩
   rw[show(bF ek 4).dst=some 53 by kernel_rfl]
   exact(hP.mv m2.le).put (BE kids) (i:=4) (d:=53) (p:=sl ac kids) (by simp[Ks]) hv2
  ·obtain rfl:bF ek 5=o:=vat ((show(bY ek)[5]? =some (bF ek 5) by kernel_rfl).symm.trans ho)
   have e1:iu Pg (bF ek 5).op 0 (opv GE (kw (NI sp ccons d c size len i k ob nb [(14,.val kv)]) [(2,51,.str c.Name),(4,53,sl ac kids)])) []=(dp Pg eV [(0,.int .i64 3),(2,.str c.Name),(3,sl ac kids)]).map (λp=>(p,[])):=by kernel_rfl
   exact Oper.wpIn_mono (λa' w' hq=>conv (dd:=54) (by decide) (by decide) rfl hq (by decide) (by decide)) (i7 (BE kids) hmv.base hP (o:=bF ek 5) (i:=5) (d:=54) (p:=.agg (ac ⟨3,0,c.Name,kids,[],[],[]⟩)) (by simp[Ks]) (by kernel_rfl) (by kernel_rfl) (by kernel_rfl) [(2,51,.str c.Name),(4,53,sl ac kids)] (by
    intro y hy
    rcases vau.1 hy with rfl|hy
    ·exact⟨by simp[Ks],by kernel_rfl⟩
    ·obtain rfl:=vbd.1 hy;exact⟨by simp[Ks],by kernel_rfl⟩) hed (by rw[e1,sM];rfl))
  ·obtain rfl:bF ek 6=o:=vat ((show(bY ek)[6]? =some (bF ek 6) by kernel_rfl).symm.trans ho)
   have hop:(bF ek 6).op=.call {callee:=.builtin .len,args:=#[.tmp 49],argTypes:=#[tV]}:=by kernel_rfl
   have hv:(Act.mk a1 ds').eval (.tmp 49)=v:=aP (h0 (gA (j:=0) (by kernel_rfl) hed))
   have hrun:(execOp (Act.mk a1 ds').eval (bF ek 6)).run Pg w1=.ok (.value (.int .i64 (s.1.length:Int))) w1:=by
    rcases hrow.form with⟨rfl,hz⟩|⟨g,cap,rfl⟩
    ·simp[execOp,hop,resolve,invoke,builtin,hv,Builtin.len_,run_underlying L8.u,goInt,hz]
    ·simp[execOp,hop,resolve,invoke,builtin,hv,Builtin.len_,run_underlying L8.u,goInt]
   refine cC (by kernel_rfl) hrun ⟨Γ1,.refl hmv.base,aV _ _ _,?_⟩
   rw[show(bF ek 6).dst=some 55 by kernel_rfl]
   have hs1:a1.size=65:=hP.fr.sz
   refine⟨hP.other (by kernel_rfl) (by simp[Ks]),λhx=>?_,λ_=>by show(a1.setIfInBounds 55 _)[55]? =_;simp[hs1],n9 rfl hD⟩
   show(a1.setIfInBounds 55 _)[49]? =_
   rw[vas (by decide)]
   exact h0 (hx.resolve_right (by decide))
  ·obtain rfl:bF ek 7=o:=vat ((show(bY ek)[7]? =some (bF ek 7) by kernel_rfl).symm.trans ho)
   exact Oper.wpIn_mono (λa' w' hq=>conv (dd:=56) (by decide) (by decide) rfl hq (by decide) (by decide)) (i7 (BE kids) hmv.base hP (o:=bF ek 7) (i:=7) (d:=56) (p:=.slice [z9]) (by simp[Ks]) (by kernel_rfl) (by kernel_rfl) (by kernel_rfl) [] (by simp) hed (by kernel_rfl))
 ·rintro L a1 Γ1 w1 hmv ⟨hP,h0,h6,hD⟩ hall
  have hs:(bY ek).size=12:=by kernel_rfl
  have hL:∀j,j<8->L j:=λj hj=>hall j (by omega) (by omega) (by omega) (by omega) (by omega)
  obtain⟨u,e1,e2⟩:=hP.at' (5,54,.agg (ac ⟨3,0,c.Name,kids,[],[],[]⟩)) (by simp[Ks]) (hL 5 (by decide))
  obtain⟨q,e3,e4⟩:=hP.at' (7,56,.slice [z9]) (by simp[Ks]) (hL 7 (by decide))
  exact⟨z9,u,q,h0 (hL 0 (by decide)),h6 (hL 6 (by decide)),e3,e4,by kernel_rfl,by decide,e1,e2,(hD 7 rfl).trans hraw,by rw[hP.fr.sz,hsz];rfl,hD⟩
 ·intro Γ1 w1 hmv
  exact⟨⟨hfr.mv hmv.le,λy _ h=>h.elim⟩,λh=>h.elim,λh=>h.elim,λ_ _=>rfl⟩
 ·rintro a1 Γ1 w1 v' hd hmv hrow' hh' ho' hne' hown' hsz' hD
  refine⟨rfl,hd,Γ1,v',hmv,?_,hh',ho',hne',hown',MD (D:=dC) ((hfr.forget (tm':=NI sp ccons d c size len i k ob nb []) (by kernel_rfl)).mv hmv.le) hsz' hD (by kernel_rfl)⟩
  rw[Dz,vaB];exact hrow'
end
theorem Mv.putObj{Γ:ay}{w:World}{l:Nat}(hB:dJ GE Γ w)(ho:nB GE Γ w l)(o:Obj):Mv GE (λb=>b=l) Γ w Γ (w.putObj l o):=
 Mv.raw hB rfl rfl rfl (by simp) (vaj _) (λb _ hb=>World.putObj_heap_other hb) λb hb=>.inl (hb▸ho)
theorem nB.keep{Γ:ay}{w w':World}{b:Nat}(h:nB GE Γ w b)(hs:w.heap.size<=w'.heap.size):nB GE Γ w' b:=⟨h.1,vaE h.2.1 hs,h.2.2⟩
section
variable{Fc:Fence}[hF:OkF Fc]{sp:List PVal}{ccons:List aH}{d:aN}{c:aH}{size len i k:Int}{ob nb:Nat}{a:Array Value}{Γ Γ':ay}{w w':World}{ds:List Deferred}{nn:Nat}{s:List aa×Int}{kids:List aa}{kv v:Value}
theorem KN{name:ai}{r:Bool×(List aa×Int)}(h:Js name s kids=some r):kids.length<=cz/\app s.1 [(⟨3,0,name,kids,[],[],[]⟩:aa)]=some r.2.1/\r.1=(!(bw (s.2+1)==2000))/\r.2.2=bw (s.2+1):=by
 unfold Js at h
 obtain⟨ks,h1,h'⟩:=A6 h
 obtain⟨o,h2,h''⟩:=A6 h'
 obtain⟨h3,h4⟩:=Jz h1
 have h5:=vat h''
 rw[h4]at h2
 rw[<-h5]
 exact⟨h3,h2,rfl,rfl⟩
theorem Sa(hB:dJ GE Γ w)(hfr:Fr Γ w a (NI sp ccons d c size len i k ob nb [(14,.val kv)]))(hk:fj Pg GE eV Γ w (pG ac kids) kids.length kv){r:Bool×(List aa×Int)}(hr:Js c.Name s kids=some r)
  (hrow:fj Pg GE eV Γ w (pG ac s.1) s.1.length v) (hh:wx w ob v) (hof:nB GE Γ w ob) (hne:v.ownBlock≠some ob) (hn:wx w nb (.int .i64 s.2)) (hon:nB GE Γ w nb) (hnv:v.ownBlock≠some nb) (hon':ob≠nb):
  dB.wpIn Fc nn Pg (λe a' w'=>((e=.normal/\r.1=true)\/(e=.exit 2/\r.1=false))/\∃Γ' v',Mv GE (λb=>b=ob\/b=nb\/v.ownBlock=some b) Γ w Γ' w'/\fj Pg GE eV Γ' w' (pG ac r.2.1) r.2.1.length v'/\wx w' ob v'/\nB GE Γ' w' ob/\v'.ownBlock≠some ob/\v'.ownBlock≠some nb/\(∀b,v'.ownBlock=some b->v.ownBlock=some b\/w.heap.size<=b)/\
   wx w' nb (.int .i64 r.2.2)/\nB GE Γ' w' nb) ⟨a,ds⟩ w:=by
 obtain⟨q1,q2,q3,q4⟩:=KN hr
 rw[Tt]
 refine wpIn_block (wpIn_seq (wpIn_mono (Vo hB hfr hk q1 q2 hrow hh hof hne) ?_))
 rintro e ⟨a1,ds1⟩ w1 ⟨rfl,rfl,Γ1,v1,m1,row1,hh1,of1,ne1,own1,g1⟩
 have hn1:wx w1 nb (.int .i64 s.2):=hn.mv m1 λh=>h.elim (λe=>hon' e.symm) hnv
 have on1:nB GE Γ1 w1 nb:=hon.mv m1 λh=>h.elim (λe=>hon' e.symm) hnv
 have nv1:v1.ownBlock≠some nb:=λh=>(own1 nb h).elim hnv λh=>by have:=hon.2.1;omega
 refine wpIn_seq (wpIn_region ?_)
 rw[show List.range (bY Gj).size=[0,1,2] by kernel_rfl]
 have e13:∀{a':Array Value} {tm:List PVal} {Γ:ay} {w:World},Fr Γ w a' tm->tm[13]? =some (.val (.pointer (some ⟨nb,0,none⟩)))->(Act.mk a' ds1).eval (.tmp 13)=.pointer (some ⟨nb,0,none⟩):=λh hq=>aP (h.raw hq)
 refine bU (o:=bF Gj 0) (by kernel_rfl) (by kernel_rfl) (cC (by kernel_rfl) (v:=.int .i64 s.2) (w':=w1) (by simp[execOp,show(bF Gj 0).op=.load 3 (.tmp 13) by kernel_rfl,e13 g1 (by kernel_rfl),hn1.load (P:=Pg) (T:=3) (by kernel_rfl)]) ?_)
 rw[show(bF Gj 0).dst=some 59 by kernel_rfl]
 have g2:=g1.set (d:=59) (p:=.int .i64 s.2) (.int _ _)
 refine bU (o:=bF Gj 1) (by kernel_rfl) (by kernel_rfl) (g2.opS m1.base (d:=60) (p:=.int .i64 (bw (s.2+1))) (by kernel_rfl) (by kernel_rfl) (by kernel_rfl) (by kernel_rfl) λa3 Γ3 w3 m3 g3=>?_)
 have e60:(Act.mk a3 ds1).eval (.tmp 60)=.int .i64 (bw (s.2+1)):=by
  have:=g3.ev (t:=60) (p:=.int .i64 (bw (s.2+1))) (by kernel_rfl) ds1
  generalize (Act.mk a3 ds1).eval (.tmp 60)=q at this
  cases this;rfl
 obtain⟨w4,hrun4,m4,hn4⟩:=(hn1.mv m3 id).store (P:=Pg) (T:=3) (u:=.int .i64 (bw (s.2+1))) m3.base (by kernel_rfl) (by kernel_rfl) rfl (on1.mv m3 id)
 refine bU (o:=bF Gj 2) (by kernel_rfl) (by kernel_rfl) (jT (a:=a3) (by kernel_rfl) (w':=w4) (by simp[execOp,show(bF Gj 2).op=.store 3 (.tmp 13) (.tmp 60) by kernel_rfl,e13 g3 (by kernel_rfl),e60,hrun4]) ?_)
 rw[show(bF Gj 2).dst=none by kernel_rfl]
 show(Code.seq (.region (xn Ii) (bY Ii) false) (.cond (.tmp 62) (.exit 2) .skip)).wpIn Fc nn Pg _ ⟨a3,ds1⟩ w4
 have on4:nB GE Γ3 w4 nb:=(on1.mv m3 id).keep m4.size
 have g4:=g3.mv m4.le
 refine wpIn_seq (wpIn_region ?_)
 rw[show List.range (bY Ii).size=[0,1] by kernel_rfl]
 refine bU (o:=bF Ii 0) (by kernel_rfl) (by kernel_rfl) (cC (a:=a3) (by kernel_rfl) (v:=.int .i64 (bw (s.2+1))) (w':=w4) (by simp[execOp,show(bF Ii 0).op=.load 3 (.tmp 13) by kernel_rfl,e13 g4 (by kernel_rfl),hn4.load (P:=Pg) (T:=3) (by kernel_rfl)]) ?_)
 rw[show(bF Ii 0).dst=some 61 by kernel_rfl]
 have g5:=g4.set (d:=61) (p:=.int .i64 (bw (s.2+1))) (.int _ _)
 refine bU (o:=bF Ii 1) (by kernel_rfl) (by kernel_rfl) (g5.opS m4.base (d:=62) (p:=.bool (bw (s.2+1)==2000)) (by kernel_rfl) (by kernel_rfl) (by kernel_rfl) (by kernel_rfl) λa6 Γ6 w6 m6 g6=>?_)
 have m36:Mv GE (λb=>b=nb) Γ1 w1 Γ6 w6:=((m3.mono (M:=λb=>b=nb) λb h=>h.elim).trans m4 λb h=>.inl h).trans m6 λb h=>h.elim
 have mAll:Mv GE (λb=>b=ob\/b=nb\/v.ownBlock=some b) Γ w Γ6 w6:=(m1.mono (M:=λb=>b=ob\/b=nb\/v.ownBlock=some b) λb h=>.inl (h.imp id .inr)).trans m36 λb h=>.inl (.inr (.inl h))
 have fin:∃Γ' v',Mv GE (λb=>b=ob\/b=nb\/v.ownBlock=some b) Γ w Γ' w6/\fj Pg GE eV Γ' w6 (pG ac r.2.1) r.2.1.length v'/\wx w6 ob v'/\nB GE Γ' w6 ob/\v'.ownBlock≠some ob/\v'.ownBlock≠some nb/\(∀b,v'.ownBlock=some b->v.ownBlock=some b\/w.heap.size<=b)/\
   wx w6 nb (.int .i64 r.2.2)/\nB GE Γ' w6 nb:=by
  refine⟨Γ6,v1,mAll,row1.mv m36 λb hb hM=>?_,hh1.mv m36 hon',of1.mv m36 hon',ne1,nv1,own1,?_,on4.mv m6 id⟩
  ·have hM:b=nb:=hM
   exact nv1 (hM▸hb)
  ·rw[q4];exact hn4.mv m6 id
 refine wpIn_cond (g6.evb (t:=62) (x:=bw (s.2+1)==2000) (by kernel_rfl) ds1) ?_
 cases hc:(bw (s.2+1)==2000)with
 |true=>
  refine wpIn_exit ⟨.inr ⟨rfl,by rw[q3,hc];rfl⟩,fin⟩
 |false=>
  exact wpIn_skip ⟨.inl ⟨rfl,by rw[q3,hc];rfl⟩,fin⟩
end
abbrev mo(fn:FuncId)(a:Array Value)(D:Nat)(b:Bool):Loop:={state:=if b then .ready else .done,pending:=if b then none else some (.exit 2),fn:=fn,tmps:=a,params:=#[48],assign:=PE N2,body:=dB,defers:=D}
section
variable{sp:List PVal}{ccons:List aH}{d:aN}{c:aH}{size len i k:Int}{ob nb l D:Nat}{a:Array Value}{fn:FuncId}
def FC(ob nb l D:Nat)(v:Value):Nat->Prop:=λb=>b=ob\/b=nb\/b=l\/b=D\/v.ownBlock=some b
structure JC(sp:List PVal)(ccons:List aH)(d:aN)(c:aH)(size len i k:Int)(ob nb l D:Nat)(a:Array Value)(fn:FuncId)(F:Nat->Prop)(b:Bool)(s:List aa×Int)(Γ:ay)(w:World):Prop where
 base:dJ GE Γ w
 fr:Fr Γ w a (NI sp ccons d c size len i k ob nb [])
 ex:∃v,F=FC ob nb l D v/\wx w ob v/\fj Pg GE eV Γ w (pG ac s.1) s.1.length v/\v.ownBlock≠some ob/\v.ownBlock≠some nb/\v.ownBlock≠some l/\v.ownBlock≠some D
 oo:nB GE Γ w ob
 on:nB GE Γ w nb
 ol:nB GE Γ w l
 oD:nB GE Γ w D
 hn:wx w nb (.int .i64 s.2)
 rl:w.heap[l]? =some (.loop (mo fn a D b))
 rD:w.heap[D]? =some (.deferred (some []))
 ds:ob≠nb/\ob≠l/\ob≠D/\nb≠l/\nb≠D/\l≠D
theorem SX:Yv 0 l (Js c.Name) (JC sp ccons d c size len i k ob nb l D a fn) where
 base:=λh=>h.base
 low:=λ{F b s Γ w} h x hx=>by
  obtain⟨v,rfl,_,hr,_⟩:=h.ex
  rcases hx with rfl|rfl|rfl|rfl|hx
  ·exact h.oo.2.1
  ·exact h.on.2.1
  ·exact h.ol.2.1
  ·exact h.oD.2.1
  ·exact(hr.off _ hx).2.1
 side:=λ{F b s Γ w M Γ' w'} h hm hM=>by
  obtain⟨v,rfl,h1,h2,h3⟩:=h.ex
  have nM:∀x,FC ob nb l D v x->¬M x:=λx hx hx'=>hM x hx' hx
  exact{
   base:=hm.base
   fr:=h.fr.mv hm.le
   ex:=⟨v,rfl,h1.mv hm (nM _ (.inl rfl)),h2.mv hm λx hx=>nM x (.inr (.inr (.inr (.inr hx)))),h3⟩
   oo:=h.oo.mv hm (nM _ (.inl rfl))
   on:=h.on.mv hm (nM _ (.inr (.inl rfl)))
   ol:=h.ol.mv hm (nM _ (.inr (.inr (.inl rfl))))
   oD:=h.oD.mv hm (nM _ (.inr (.inr (.inr (.inl rfl)))))
   hn:=h.hn.mv hm (nM _ (.inr (.inl rfl)))
   rl:=(hm.keep h.ol.2.1 (nM _ (.inr (.inr (.inl rfl))))).trans h.rl
   rD:=(hm.keep h.oD.2.1 (nM _ (.inr (.inr (.inr (.inl rfl)))))).trans h.rD
   ds:=h.ds}
 yield:=λ{F s Γ w kids kv r} n h hk hkF hr=>by
  obtain⟨v,rfl,h1,h2,h3,h4,h5,h6⟩:=h.ex
  obtain⟨d1,d2,d3,d4,d5,d6⟩:=h.ds
  refine⟨_,_,_,_,run_yield h.rl rfl,?_⟩
  have hz:(((#[48]:Array Tmp).zip #[kv]).foldl (λtmps (t,a)=>tmps.setIfInBounds t a) a)=a.setIfInBounds 48 kv:=by simp
  show RoundIn Fence.wide n Pg l fn (((#[48]:Array Tmp).zip #[kv]).foldl (λtmps (t,a)=>tmps.setIfInBounds t a) a) (PE N2) dB w _
  rw[hz]
  have g0:=h.fr.set (d:=48) (p:=.val kv) (.val kv)
  refine roundIn_of_wpIn vzz ?_
  rw[Ss]
  refine wpIn_region ?_
  rw[show List.range (bY (PE N2)).size=[0] by kernel_rfl]
  refine bU (o:=bF (PE N2) 0) (by kernel_rfl) (by kernel_rfl) (g0.opS h.base (d:=14) (p:=.val kv) (by kernel_rfl) (by kernel_rfl) (by kernel_rfl) (by kernel_rfl) λa1 Γ1 w1 m1 g1=>?_)
  have hl1:w1.heap[l]? =some (.loop (mo fn a D true)):=(m1.keep h.ol.2.1 id).trans h.rl
  refine⟨_,run_beginRound hl1 rfl,?_⟩
  have m2:=Mv.putObj m1.base (h.ol.mv m1 id) (.loop {mo fn a D true with state:=.busy})
  have hl2:(w1.putObj l (.loop {mo fn a D true with state:=.busy})).heap[l]? =some (.loop {mo fn a D true with state:=.busy}):=World.putObj_heap_same (oq hl1)
  have ol2:nB GE Γ1 (w1.putObj l (.loop {mo fn a D true with state:=.busy})) l:=(h.ol.mv m1 id).keep m2.size
  generalize w1.putObj l (.loop {mo fn a D true with state:=.busy})=w2 at m2 hl2 ol2
  have m12:Mv GE (λb=>b=l) Γ w Γ1 w2:=(m1.mono (M:=λb=>b=l) λb h=>h.elim).trans m2 λb h=>.inl h
  have g2:=(g1.mv m2.le).forget (tm':=NI sp ccons d c size len i k ob nb [(14,.val kv)]) (by kernel_rfl)
  have kl:∀b,kv.ownBlock=some b->¬b=l:=λb hb e=>(hkF b hb).1 (.inr (.inr (.inl e)))
  refine wpIn_mono (Sa (ds:=[]) m2.base g2 (hk.mv m12 λb hb=>kl b hb) hr (h2.mv m12 λb hb e=>h5 (by have e:b=l:=e;rw[<-e];exact hb)) (h1.mv m12 d2) (h.oo.mv m12 d2) h3 (h.hn.mv m12 d4) (h.on.mv m12 d4) h4 d1) ?_
  rintro e ⟨a3,ds3⟩ w3 ⟨he,Γ3,v3,m3,row3,hh3,of3,ne3,nn3,own3,hn3,on3⟩
  have hlM:¬(l=ob\/l=nb\/v.ownBlock=some l):=λh=>h.elim (λe=>d2 e.symm) λh=>h.elim (λe=>d4 e.symm) h5
  have hl3:=(m3.keep ol2.2.1 hlM).trans hl2
  have ol3:=ol2.mv m3 hlM
  have hDM:¬(D=ob\/D=nb\/v.ownBlock=some D):=λh=>h.elim (λe=>d3 e.symm) λh=>h.elim (λe=>d5 e.symm) h6
  have oD2:=h.oD.mv m12 λe=>d6 e.symm
  have rD2:=(m12.keep h.oD.2.1 λe=>d6 e.symm).trans h.rD
  have oD3:=oD2.mv m3 hDM
  have rD3:=(m3.keep oD2.2.1 hDM).trans rD2
  have vl3:v3.ownBlock≠some l:=λhx=>(own3 l hx).elim h5 λhx=>by have:=ol2.2.1;omega
  have vD3:v3.ownBlock≠some D:=λhx=>(own3 D hx).elim h6 λhx=>by have:=oD2.2.1;omega
  have fin:∀b:Bool,∃Γ' F',Mv GE (FC ob nb l D v) Γ w Γ' (w3.putObj l (.loop (mo fn a D b)))/\(∀b,F' b->FC ob nb l D v b\/w.heap.size<=b)/\JC sp ccons d c size len i k ob nb l D a fn F' b r.2 Γ' (w3.putObj l (.loop (mo fn a D b))):=λb=>by
   have m4:=Mv.putObj m3.base ol3 (.loop (mo fn a D b))
   have hl4:(w3.putObj l (.loop (mo fn a D b))).heap[l]? =some (.loop (mo fn a D b)):=World.putObj_heap_same (oq hl3)
   have mAll:Mv GE (FC ob nb l D v) Γ w Γ3 (w3.putObj l (.loop (mo fn a D b))):=((m12.mono (M:=FC ob nb l D v) λb h=>.inl (.inr (.inr (.inl h)))).trans m3 λb h=>.inl (h.elim .inl λh=>h.elim (λh=>.inr (.inl h)) λh=>.inr (.inr (.inr (.inr h))))).trans m4 λb h=>.inl (.inr (.inr (.inl h)))
   refine⟨Γ3,FC ob nb l D v3,mAll,λx hx=>?_,{
    base:=m4.base
    fr:=h.fr.mv mAll.le
    ex:=⟨v3,rfl,hh3.mv m4 d2,row3.mv m4 λx hx e=>vl3 (by have e:x=l:=e;rw[<-e];exact hx),ne3,nn3,vl3,vD3⟩
    oo:=of3.mv m4 d2
    on:=on3.mv m4 d4
    ol:=ol3.keep m4.size
    oD:=oD3.mv m4 λe=>d6 e.symm
    hn:=hn3.mv m4 d4
    rl:=hl4
    rD:=(m4.keep oD3.2.1 λe=>d6 e.symm).trans rD3
    ds:=h.ds}⟩
   rcases hx with hx|hx|hx|hx|hx
   ·exact .inl (.inl hx)
   ·exact .inl (.inr (.inl hx))
   ·exact .inl (.inr (.inr (.inl hx)))
   ·exact .inl (.inr (.inr (.inr (.inl hx))))
   ·exact(own3 x hx).imp (λh=>.inr (.inr (.inr (.inr h)))) λhx=>vax m12.size hx
  rcases he with⟨rfl,hb⟩|⟨rfl,hb⟩
  ·obtain⟨Γ',F',q1,q2,q3⟩:=fin true
   refine⟨_,_,run_endRound none hl3,Γ',F',by rw[hb];rfl,q1,q2,?_⟩
   rw[hb];exact q3
  ·obtain⟨Γ',F',q1,q2,q3⟩:=fin false
   refine⟨_,_,run_endRound (some (.exit 2)) hl3,Γ',F',by rw[hb];rfl,q1,q2,?_⟩
   rw[hb];exact q3
end
end Go.Proofs.YtjddnhkahpfhdaaGreatDoor
