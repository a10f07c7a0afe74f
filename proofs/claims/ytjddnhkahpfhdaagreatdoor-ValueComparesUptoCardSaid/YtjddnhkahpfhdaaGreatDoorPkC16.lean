/- PROVED: a part of the proof. Conditions: none. -/
import Derived.Test.YtjddnhkahpfhdaaGreatDoorPkC15
set_option linter.unusedSimpArgs false
set_option linter.unusedVariables false
noncomputable section
namespace Go.Proofs.YtjddnhkahpfhdaaGreatDoor
open Go Go.RowKit Go.Proofs.Tryz
set_option linter.unusedVariables false
set_option linter.unusedSimpArgs false
set_option maxRecDepth 100000
def QN(f:aa->aa->Bool):List aa->List aa->Bool
 |[],[]=>true
 |x::l,y::r=>f x y&&QN f l r
 |_,_=>false
def U2:Nat->aa->aa->Bool
 |0,_,_=>false
 |k+1,x,y=>x.Op==y.Op&&x.N==y.N&&x.Name==y.Name&&x.Params.isEmpty&&y.Params.isEmpty&&x.Body.isEmpty&&y.Body.isEmpty&&x.Binds.isEmpty&&y.Binds.isEmpty&&QN (U2 k) x.Kids y.Kids
theorem Dv{f:aa->aa->Bool}(hf:∀x y,f x y=true->x=y):∀l r,QN f l r=true->l=r
 |[],[],_=>rfl
 |[],_::_,h=>by cases h
 |_::_,[],h=>by cases h
 |x::l,y::r,h=>by
  simp only[QN,vae]at h
  rw[hf x y h.1,Dv hf l r h.2]
theorem Gn:∀k x y,U2 k x y=true->x=y
 |0,_,_,h=>by cases h
 | k + 1,x,y,h => by
  simp only[U2,vae,vaY,vb4]at h
  obtain⟨⟨⟨⟨⟨⟨⟨⟨⟨h1,h2⟩,h3⟩,h4⟩,h5⟩,h6⟩,h7⟩,h8⟩,h9⟩,h10⟩:=h
  have h11:=Dv (Gn k) _ _ h10
  have g5:x.Params=y.Params:=h4.trans h5.symm
  have g6:x.Body=y.Body:=h6.trans h7.symm
  have g7:x.Binds=y.Binds:=h8.trans h9.symm
  clear h4 h5 h6 h7 h8 h9 h10
  cases x with
  | mk a1 a2 a3 a4 a5 a6 a7 => cases y with
   |mk b1 b2 b3 b4 b5 b6 b7=>
    have h1:a1=b1:=h1
    have h2:a2=b2:=h2
    have h3:a3=b3:=h3
    have h11:a4=b4:=h11
    have g5:a5=b5:=g5
    have g6:a6=b6:=g6
    have g7:a7=b7:=g7
    rw[h1,h2,h3,h11,g5,g6,g7]
instance eqVi:SoundEq aa:=⟨U2 1000,Gn 1000⟩
def Er(m:am)(R:ae->Int->fq->Option (List aa×fq))(t:ae)(size:Int)(K:fq):Option (List aa×fq):=
 (xS t).bind λtx=>(Iw tx [32]).bind λk1=>(uM size).bind λnt=>(Iw k1 nt).bind λkey=>match rW K key with
  |some l=>if l.length<=2000 then some (l,K)else none
  |none=>(SS m R t size K).bind λo=>(Eu ek o.1).bind λl=>some (l.take 2000,HS o.2 key (l.take 2000))
def Es(m:am):Nat->ae->Int->fq->Option (List aa×fq)
 |0,_,_,_=>none
 |k+1,t,size,K=>Er m (Es m k) t size K
theorem Lj{m:am}:∀{k:Nat} {t:ae} {n:Int} {K:fq} {r:List aa×fq},Es m k t n K=some r->r.1.length<=2000
 |0,_,_,_,_,h=>by cases h
 | k + 1,t,n,K,r,h => by
  unfold Es Er at h
  obtain⟨_,_,h⟩:=Af h
  obtain⟨_,_,h⟩:=Af h
  obtain⟨_,_,h⟩:=Af h
  obtain⟨key,_,h⟩:=Af h
  split at h
  ·split at h
   ·cases h;assumption
   ·cases h
  ·obtain⟨o,_,h⟩:=Af h
   obtain⟨l,_,h⟩:=Af h
   cases h
   simp only[vaV];omega
theorem Tb:N8 Pg W2 (Pg.cellsOf eV):=PY Tryz.sf99 rfl rfl (by kernel_rfl) (by kernel_rfl) call99
section
variable{mb:Nat}{K:fq}{o:List aa×fq}{key:ai}{v:Value}{Γ Γ':ax}{w w':World}{m:am}{t:ae}{size:Int}{nn:Nat}{a:Array Value}{ds:List Deferred}{R:ae->Int->fq->Option (List aa×fq)}{l:List aa}
theorem Wk(hs:Eu ek o.1=some l)(hB:dQ GE Γ w)(hrow:fA Pg GE eV Γ w (py ac o.1) o.1.length v)(g:Fr Γ w a (jF m mb t size [(7,.str key),(10,.val v)])):(NE JQ false).wpIn Fence.wide nn Pg (λe a' w'=>e=.normal/\a'.defers=ds/\∃Γ',Mv GE (λb=>v.ownBlock=some b) Γ w Γ' w'/\fA Pg GE eV Γ' w' (py ac l) l.length v/\Fr Γ' w' a'.tmps (jF m mb t size [(7,.str key),(10,.val v)])) ⟨a,ds⟩ w:=by
 refine wpIn_region ?_
 rw[show List.range (bW JQ).size=[0,1] by kernel_rfl]
 refine bR (o:=bD JQ 0) (by kernel_rfl) (by kernel_rfl) (g.opS hB (d:=60) (p:=.val v) (by kernel_rfl) (by kernel_rfl) (by kernel_rfl) (by kernel_rfl) λa1 Γ1 w1 m1 g1=>?_)
 have q60:(Act.mk a1 ds).eval (.tmp 60)=v:=aL (g1.raw (by kernel_rfl))
 have hop:(bD JQ 1).op=.call {callee:=.value (.func W2),args:=#[.tmp 60,.func VU],argTypes:=JX (bD JQ 1)}:=by kernel_rfl
 refine bR (o:=bD JQ 1) (by kernel_rfl) (by kernel_rfl) (Hj hop (by kernel_rfl) call99 (by
  have e:(#[.tmp 60,.func VU]:Array Operand).map (Act.mk a1 ds).eval=#[v,.func (.func VU) #[] #[]]:=by simp[q60];rfl
  rw[e];exact PZ (GD:=Qk) Tb (λx y r hr=>zy r hr) call20 QM Ql bz.hc bz.hp bz.ho hs m1.base (hrow.mv m1 λb _=>id)) ?_)
 rintro e w2 ⟨rfl,m2,row2⟩
 refine⟨_,rfl,rfl,aT _ _ _,Γ1,(m1.mono (M:=λb=>v.ownBlock=some b) λb h=>h.elim).trans m2 λb h=>.inl h,row2,?_⟩
 rw[show(bD JQ 1).dst=some 61 by kernel_rfl]
 exact((g1.mv m2.le).set (d:=61) (p:=.val (.tuple #[])) (.val _)).forget (by kernel_rfl)
theorem Wl(hB:dQ GE Γ w)(hrow:fA Pg GE eV Γ w (py ac l) l.length v)(hlen:l.length<=cy)(g:Fr Γ w a (jF m mb t size [(7,.str key),(10,.val v)])):(NE xK false).wpIn Fence.wide nn Pg (λe a' w'=>e=.normal/\a'.defers=ds/\∃Γ',Mv GE (λb=>v.ownBlock=some b) Γ w Γ' w'/\Fr Γ' w' a'.tmps (jF m mb t size [(7,.str key),(10,sl ac (l.take 2000))])) ⟨a,ds⟩ w:=by
 refine wpIn_region ?_
 rw[show List.range (bW xK).size=[0,1,2,3,4,5] by kernel_rfl]
 refine bR (o:=bD xK 0) (by kernel_rfl) (by kernel_rfl) (g.opS hB (d:=62) (p:=.val v) (by kernel_rfl) (by kernel_rfl) (by kernel_rfl) (by kernel_rfl) λa1 Γ1 w1 m1 g1=>?_)
 refine bR (o:=bD xK 1) (by kernel_rfl) (by kernel_rfl) (g1.opS m1.base (d:=63) (p:=.val v) (by kernel_rfl) (by kernel_rfl) (by kernel_rfl) (by kernel_rfl) λa2 Γ2 w2 m2 g2=>?_)
 have m02:Mv GE no Γ w Γ2 w2:=m1.trans m2 λb h=>.inl h
 have q63:(Act.mk a2 ds).eval (.tmp 63)=v:=aL (g2.raw (by kernel_rfl))
 have row2:=hrow.mv m02 λb _=>id
 have hrun:(execOp (Act.mk a2 ds).eval (bD xK 2)).run Pg w2=.ok (.value (.int .i64 (l.length:Int))) w2:=by
  have hop:(bD xK 2).op=.call {callee:=.builtin .len,args:=#[.tmp 63],argTypes:=#[tV]}:=by kernel_rfl
  rcases row2.form with⟨rfl,hz⟩|⟨g,cap,rfl⟩
  ·simp[execOp,hop,resolve,invoke,builtin,q63,Builtin.len_,run_underlying LN.u,goInt,hz]
  ·simp[execOp,hop,resolve,invoke,builtin,q63,Builtin.len_,run_underlying LN.u,goInt]
 refine bR (o:=bD xK 2) (by kernel_rfl) (by kernel_rfl) (cC (by kernel_rfl) hrun ?_)
 rw[show(bD xK 2).dst=some 64 by kernel_rfl]
 have g3:=g2.set (d:=64) (p:=.int .i64 (l.length:Int)) (.int _ _)
 refine bR (o:=bD xK 3) (by kernel_rfl) (by kernel_rfl) (g3.opS m02.base (d:=65) (p:=.int .i64 (if(2000:Int)<(l.length:Int)then 2000 else(l.length:Int))) (by kernel_rfl) (by kernel_rfl) (by kernel_rfl) (by kernel_rfl) λa4 Γ4 w4 m4 g4=>?_)
 have m04:Mv GE no Γ w Γ4 w4:=m02.trans m4 λb h=>.inl h
 have row4:=row2.mv m4 λb _=>id
 generalize hn:min l.length 2000=n
 have hnl:n<=l.length:=by omega
 have hni:(if(2000:Int)<(l.length:Int)then 2000 else(l.length:Int))=(n:Int):=by split<;>omega
 rw[hni]at g4
 have htk:l.take 2000=l.take n:=by
  by_cases h:l.length<=2000
  ·rw[show n=l.length by omega,List.take_of_length_le h,vbm]
  ·rw[show n=2000 by omega]
 have q62:(Act.mk a4 ds).eval (.tmp 62)=v:=aL (g4.raw (by kernel_rfl))
 have q65:(Act.mk a4 ds).eval (.tmp 65)=.int .i64 (n:Int):=by
  have:=g4.ev (t:=65) (p:=.int .i64 (n:Int)) (by kernel_rfl) ds
  generalize (Act.mk a4 ds).eval (.tmp 65)=q at this
  cases this;rfl
 obtain⟨hform,hfz⟩:=row4.freeze bz.hc bz.hp m04.base n hnl
 obtain⟨i0,z0,q1,q2,q3,q4,q5,q6⟩:=LN.get
 have hop:(bD xK 4).op=.slice tV (.tmp 62) none (some (.tmp 65)) none:=by kernel_rfl
 have hsl:∃u,(execOp (Act.mk a4 ds).eval (bD xK 4)).run Pg w4=.ok (.value u) w4/\u=QJ v n:=by
  rcases hform with⟨rfl,rfl⟩|⟨gg,cap,rfl,hcap⟩
  ·have hn0:n=0:=by simpa using hnl
   subst hn0
   have hsb:(Instr.sliceBounds true 0 0 none (some (.int .i64 ((0:Nat):Int))) none).run Pg w4=.ok (0,0,0) w4:=
    cP (Γ:=Γ4) (bs:=[]) (lo:=none) (hi:=some (.int .i64 ((0:Nat):Int))) rfl (by simp[wn]) (λp h=>by cases h) (λ_=>rfl) (λp h=>by cases h;exact⟨_,rfl,.int _ _⟩) (λh=>by cases h) (vaQ _) (vaQ _) (vaj _)
   have hsb:(Instr.sliceBounds true 0 0 none (some (.int .i64 0)) none).run Pg w4=.ok (0,0,0) w4:=hsb
   exact⟨_,by simp[execOp,hop,q62,q65,Instr.sliceAt,Instr.slice,run_underlying LN.u,hsb,run_sizeOf w4 q1,Addr.add,QJ],rfl⟩
  ·have hsb:(Instr.sliceBounds true l.length cap none (some (.int .i64 (n:Int))) none).run Pg w4=.ok (0,n,cap) w4:=
    cP (Γ:=Γ4) (bs:=[]) (lo:=none) (hi:=some (.int .i64 (n:Int))) rfl (by simp[wn]) (λp h=>by cases h) (λ_=>rfl) (λp h=>by cases h;exact⟨_,rfl,.int _ _⟩) (λh=>by cases h) (vaQ _) hnl hcap
   exact⟨_,by simp[execOp,hop,q62,q65,Instr.sliceAt,Instr.slice,run_underlying LN.u,hsb,run_sizeOf w4 q1,Addr.add,QJ],rfl⟩
 obtain⟨u,hru,hu⟩:=hsl
 obtain⟨Γ5,m5,v5⟩:=hfz u hu
 refine bR (o:=bD xK 4) (by kernel_rfl) (by kernel_rfl) (cC (by kernel_rfl) hru ?_)
 rw[show(bD xK 4).dst=some 66 by kernel_rfl]
 have g5:=(g4.mv m5.le).set (d:=66) (p:=sl ac (l.take n)) v5
 refine bR (o:=bD xK 5) (by kernel_rfl) (by kernel_rfl) (g5.opS m5.base (d:=10) (p:=sl ac (l.take n)) (by kernel_rfl) (by kernel_rfl) (by kernel_rfl) (by kernel_rfl) λa6 Γ6 w6 m6 g6=>?_)
 refine⟨rfl,rfl,Γ6,((m04.mono (M:=λb=>v.ownBlock=some b) λb h=>h.elim).trans m5 λb h=>.inl h).trans m6 λb h=>h.elim,?_⟩
 rw[htk]
 exact g6.forget (by kernel_rfl)
theorem Wm(hB:dQ GE Γ w)(hk:KM mb K Γ w)(g:Fr Γ w a (jF m mb t size [(7,.str key),(10,sl ac l)])):(NE FJ false).wpIn Fence.wide nn Pg (λe a' w'=>e=.normal/\a'.defers=ds/\∃Γ',Mv GE (λb=>b=mb) Γ w Γ' w'/\KM mb (HS K key l) Γ' w'/\Fr Γ' w' a'.tmps (cc 72 [(10,sl ac l)] [] []).tmps) ⟨a,ds⟩ w:=by
 refine wpIn_region ?_
 rw[show List.range (bW FJ).size=[0,1,2,3,4] by kernel_rfl]
 refine bR (o:=bD FJ 0) (by kernel_rfl) (by kernel_rfl) (g.opS hB (d:=67) (p:=.eptr [.val (.map (some mb))]) (by kernel_rfl) (by kernel_rfl) (by kernel_rfl) (by kernel_rfl) λa1 Γ1 w1 m1 g1=>?_)
 refine bR (o:=bD FJ 1) (by kernel_rfl) (by kernel_rfl) (g1.opS m1.base (d:=68) (p:=.val (.map (some mb))) (by kernel_rfl) (by kernel_rfl) (by kernel_rfl) (by kernel_rfl) λa2 Γ2 w2 m2 g2=>?_)
 refine bR (o:=bD FJ 2) (by kernel_rfl) (by kernel_rfl) (g2.opS m2.base (d:=69) (p:=.str key) (by kernel_rfl) (by kernel_rfl) (by kernel_rfl) (by kernel_rfl) λa3 Γ3 w3 m3 g3=>?_)
 refine bR (o:=bD FJ 3) (by kernel_rfl) (by kernel_rfl) (g3.opS m3.base (d:=70) (p:=sl ac l) (by kernel_rfl) (by kernel_rfl) (by kernel_rfl) (by kernel_rfl) λa4 Γ4 w4 m4 g4=>?_)
 have m04:Mv GE no Γ w Γ4 w4:=((m1.trans m2 λb h=>.inl h).trans m3 λb h=>.inl h).trans m4 λb h=>.inl h
 have q68:(Act.mk a4 ds).eval (.tmp 68)=.map (some mb):=aL (g4.raw (by kernel_rfl))
 have q69:=g4.ev (t:=69) (p:=.str key) (by kernel_rfl) ds
 have q70:=g4.ev (t:=70) (p:=sl ac l) (by kernel_rfl) ds
 obtain⟨w5,hrun,m5,k5⟩:=M0 m4.base (hk.mv m04 id) q69 q70
 refine bR (o:=bD FJ 4) (by kernel_rfl) (by kernel_rfl) (ku (by kernel_rfl) (w':=w5) (by simp[execOp,show(bD FJ 4).op=.mapUpdate tM (.tmp 68) (.tmp 69) (.tmp 70) by kernel_rfl,q68,hrun]) ?_)
 rw[show(bD FJ 4).dst=none by kernel_rfl]
 exact⟨rfl,rfl,Γ4,(m04.mono (M:=λb=>b=mb) λb h=>h.elim).trans m5 λb h=>.inl h,k5,(g4.mv m5.le).forget (by kernel_rfl)⟩
theorem Yj(hB:dQ GE Γ w)(hk:KM mb K Γ w)(g:Fr Γ w a (jF m mb t size [(7,.str key)])):(NE Mj false).wpIn Fence.wide nn Pg (λe a' w'=>e=.normal/\a'.defers=ds/\∃Γ',Mv GE no Γ w Γ' w'/\Fr Γ' w' a'.tmps (jF m mb t size [(7,.str key),(8,sl ac ((rW K key).getD [])),(9,.bool (rW K key).isSome)])) ⟨a,ds⟩ w:=by
 refine wpIn_region ?_
 rw[show List.range (bW Mj).size=[0,1,2,3,4,5,6,7,8] by kernel_rfl]
 refine bR (o:=bD Mj 0) (by kernel_rfl) (by kernel_rfl) (g.opS hB (d:=20) (p:=.eptr [.val (.map (some mb))]) (by kernel_rfl) (by kernel_rfl) (by kernel_rfl) (by kernel_rfl) λa1 Γ1 w1 m1 g1=>?_)
 refine bR (o:=bD Mj 1) (by kernel_rfl) (by kernel_rfl) (g1.opS m1.base (d:=21) (p:=.val (.map (some mb))) (by kernel_rfl) (by kernel_rfl) (by kernel_rfl) (by kernel_rfl) λa2 Γ2 w2 m2 g2=>?_)
 refine bR (o:=bD Mj 2) (by kernel_rfl) (by kernel_rfl) (g2.opS m2.base (d:=22) (p:=.str key) (by kernel_rfl) (by kernel_rfl) (by kernel_rfl) (by kernel_rfl) λa3 Γ3 w3 m3 g3=>?_)
 have m03:Mv GE no Γ w Γ3 w3:=(m1.trans m2 λb h=>.inl h).trans m3 λb h=>.inl h
 have q21:(Act.mk a3 ds).eval (.tmp 21)=.map (some mb):=aL (g3.raw (by kernel_rfl))
 have q22:=g3.ev (t:=22) (p:=.str key) (by kernel_rfl) ds
 obtain⟨u,hrun,hu⟩:=MZ m3.base (hk.mv m03 id) q22
 generalize (rW K key).getD []=l at hu
 generalize (rW K key).isSome=b at hu
 refine bR (o:=bD Mj 3) (by kernel_rfl) (by kernel_rfl) (cC (by kernel_rfl) (v:=u) (w':=w3) (by simp[execOp,show(bD Mj 3).op=.lookup tM (.tmp 21) (.tmp 22) true by kernel_rfl,q21,hrun]) ?_)
 rw[show(bD Mj 3).dst=some 23 by kernel_rfl]
 have g4:=g3.set (d:=23) hu
 refine bR (o:=bD Mj 4) (by kernel_rfl) (by kernel_rfl) (g4.opS m3.base (d:=19) (p:=.tuple [sl ac l,.bool b]) (by kernel_rfl) (by kernel_rfl) (by kernel_rfl) (by kernel_rfl) λa5 Γ5 w5 m5 g5=>?_)
 refine bR (o:=bD Mj 5) (by kernel_rfl) (by kernel_rfl) (g5.opS m5.base (d:=24) (p:=sl ac l) (by kernel_rfl) (by kernel_rfl) (by kernel_rfl) (by kernel_rfl) λa6 Γ6 w6 m6 g6=>?_)
 refine bR (o:=bD Mj 6) (by kernel_rfl) (by kernel_rfl) (g6.opS m6.base (d:=25) (p:=.bool b) (by kernel_rfl) (by kernel_rfl) (by kernel_rfl) (by kernel_rfl) λa7 Γ7 w7 m7 g7=>?_)
 refine bR (o:=bD Mj 7) (by kernel_rfl) (by kernel_rfl) (g7.opS m7.base (d:=8) (p:=sl ac l) (by kernel_rfl) (by kernel_rfl) (by kernel_rfl) (by kernel_rfl) λa8 Γ8 w8 m8 g8=>?_)
 refine bR (o:=bD Mj 8) (by kernel_rfl) (by kernel_rfl) (g8.opS m8.base (d:=9) (p:=.bool b) (by kernel_rfl) (by kernel_rfl) (by kernel_rfl) (by kernel_rfl) λa9 Γ9 w9 m9 g9=>?_)
 exact⟨rfl,rfl,Γ9,((((m03.trans m5 λb h=>.inl h).trans m6 λb h=>.inl h).trans m7 λb h=>.inl h).trans m8 λb h=>.inl h).trans m9 λb h=>.inl h,g9.forget (by kernel_rfl)⟩
theorem NH{r:List aa×fq}(hR:Ob m R)(hlong:∀t n K r,R t n K=some r->r.1.length<4611686018427387904)(h:Er m R t size K=some r)(hB:dQ GE Γ w)(hk:KM mb K Γ w){u0 u1:Value}(h0:VR Γ [] w (.agg (pT m mb)) u0)(h1:VR Γ [] w (.agg (af t)) u1):Calls Pg RP #[u0,u1,.int .i64 size] w λe w'=>∃v Γ',e=.returned v/\Mv GE (λb=>b=mb) Γ w Γ' w'/\KM mb r.2 Γ' w'/\VR Γ' [] w' (sl ac r.1) v:=by
 refine callsIn_wide.1 (callsIn_of_wp (n:=0) func67 (c:=Qt) rfl vzz ?_)
 unfold Er at h
 obtain⟨tx,e1,h⟩:=Af h
 obtain⟨k1,e2,h⟩:=Af h
 obtain⟨nt,e3,h⟩:=Af h
 obtain⟨key,e4,h⟩:=Af h
 have g0:Fr Γ w (#[u0,u1,.int .i64 size]++Array.replicate 69 undef) (cc 72 [(0,.agg (pT m mb)),(1,.agg (af t)),(2,.int .i64 size)] [] []).tmps:=by
  refine⟨by kernel_rfl,λk p u hp hu=>?_⟩
  have htm:(cc 72 [(0,.agg (pT m mb)),(1,.agg (af t)),(2,.int .i64 size)] [] []).tmps=[.agg (pT m mb),.agg (af t),.int .i64 size]++List.replicate 69 .undef:=by kernel_rfl
  rw[htm]at hp
  by_cases hk:k<3
  ·rw[vac (by simpa using hk)]at hp
   rw[vaT (by simpa using hk)]at hu
   match k,hk with
   |0,_=>simp at hp hu;subst hp;subst hu;exact h0
   |1,_=>simp at hp hu;subst hp;subst hu;exact h1
   |2,_=>simp at hp hu;subst hp;subst hu;exact .int _ _
  ·rw[vad (by simpa using hk),vaX]at hp
   split at hp<;>cases hp
   exact .undef u
 have fin:∀{a:Array Value} {Γ':ax} {w':World} {l:List aa} {K':fq},(l,K')=r->Mv GE (λb=>b=mb) Γ w Γ' w'->KM mb K' Γ' w'->Fr Γ' w' a (cc 72 [(6,sl ac l)] [] []).tmps->
   bodyPost Pg f67 (λe w'=>∃v Γ',e=.returned v/\Mv GE (λb=>b=mb) Γ w Γ' w'/\KM mb r.2 Γ' w'/\VR Γ' [] w' (sl ac r.1) v) .ret ⟨a,[]⟩ w':=λ{a Γ' w' l K'} hr hm hk' hf=>by
  subst hr
  obtain⟨u,q1,q2,_⟩:=qN (hf.sr (P:=Pg) hm.base 0) (fn:=f67) (r:=sl ac l) (by kernel_rfl)
  exact⟨rfl,u,q1,u,Γ',rfl,hm,hk',q2⟩
 show Qt.wpIn Fence.wide 0 Pg _ ⟨#[u0,u1,.int .i64 size]++Array.replicate 69 undef,[]⟩ w
 rw[Sp]
 refine wpIn_seq (wpIn_mono (g0.piece0 (k:=0) (Yh m mb t size) hB (p8 m mb t size (L:=[]) trivial) []) ?_)
 rintro e ⟨a1,ds1⟩ w1 ⟨rfl,rfl,Γ1,m1,g1⟩
 refine wpIn_seq (wpIn_mono (g1.piece0 (k:=0) (Yi m mb t size key e1 e2 e3 e4) m1.base (p8 m mb t size ⟨vzz,vzz⟩) []) ?_)
 rintro e ⟨a2,ds2⟩ w2 ⟨rfl,rfl,Γ2,m2,g2⟩
 have m02:Mv GE no Γ w Γ2 w2:=m1.trans m2 λb h=>.inl h
 refine wpIn_seq (wpIn_seq (wpIn_mono (Yj m2.base (hk.mv m02 id) g2) ?_))
 rintro e ⟨a3,ds3⟩ w3 ⟨rfl,rfl,Γ3,m3,g3⟩
 have m03:Mv GE no Γ w Γ3 w3:=m02.trans m3 λb h=>.inl h
 refine wpIn_seq (wpIn_mono (g3.piece0 (k:=0) (Yk m mb t size key _ _) m3.base (p8 m mb t size ⟨vzz,ba cq _,vzz,vzz,vzz⟩) []) ?_)
 rintro e ⟨a4,ds4⟩ w4 ⟨rfl,rfl,Γ4,m4,g4⟩
 have m04:Mv GE no Γ w Γ4 w4:=m03.trans m4 λb h=>.inl h
 refine wpIn_cond (g4.evb (t:=26) (x:=(rW K key).isSome) (by kernel_rfl) []) ?_
 cases hg:rW K key with
 | some l =>
  rw[hg]at h g4
  simp only at h
  split at h
  rotate_left
  ·cases h
  refine wpIn_mono ((g4.forget (tm':=jF m mb t size [(7,.str key),(8,sl ac l)]) (by kernel_rfl)).piece0 (k:=0) (Yl m mb t size key l) m4.base (pp ⟨ba cq l,vzz⟩) []) ?_
  rintro e ⟨a5,ds5⟩ w5 ⟨rfl,rfl,Γ5,m5,g5⟩
  have m05:Mv GE no Γ w Γ5 w5:=m04.trans m5 λb h=>.inl h
  exact fin (vaw h) (m05.mono λb h=>h.elim) (hk.mv m05 id) g5
 | none =>
  rw[hg]at h g4
  simp only at h
  obtain⟨o,ho,h⟩:=Af h
  obtain⟨l,hl,h⟩:=Af h
  refine wpIn_skip ?_
  rw[UH]
  have g4':=g4.forget (tm':=jF m mb t size [(7,.str key)]) (by kernel_rfl)
  refine wpIn_seq (wpIn_region ?_)
  rw[show List.range (bW UD).size=[0] by kernel_rfl]
  have ec:(Act.mk a4 []).eval (.const (.slice none 0 0))=.slice none 0 0:=rfl
  refine bR (o:=bD UD 0) (by kernel_rfl) (by kernel_rfl) (cC (by kernel_rfl) (v:=.slice none 0 0) (w':=w4) (by simp[execOp,show(bD UD 0).op=.assign (.const (.slice none 0 0)) by kernel_rfl,ec]) ?_)
  rw[show(bD UD 0).dst=some 10 by kernel_rfl]
  have g5:=(g4'.set (d:=10) (p:=.val (.slice none 0 0)) (.val _)).forget (tm':=jF m mb t size [(7,.str key),(10,.val (.slice none 0 0))]) (by kernel_rfl)
  show(Code.seq (.seq U7 (.block 0 N0)) sY).wpIn Fence.wide 0 Pg _ ⟨a4.setIfInBounds 10 (.slice none 0 0),[]⟩ w4
  refine wpIn_seq (wpIn_mono (UL hR hlong ho m4.base (hk.mv m04 id) g5) ?_)
  rintro e ⟨a6,ds6⟩ w6 ⟨rfl,hd6,Γ6,v6,m6,k6,row6,own6,g6⟩
  simp only at hd6;subst hd6
  have m06:Mv GE (λb=>b=mb) Γ w Γ6 w6:=(m04.mono (M:=λb=>b=mb) λb h=>h.elim).trans m6 λb h=>.inl h
  have nmb:¬v6.ownBlock=some mb:=λhx=>by
   have:=own6 mb hx
   have:=m04.size
   have:=hk.off.2.1
   omega
  obtain⟨hokS,hrl⟩:=JT hl
  have hlen:l.length<=cy:=by rw[hrl];exact(DX hokS).1
  rw[UI]
  refine wpIn_seq (wpIn_mono (Wk hl m6.base row6 g6) ?_)
  rintro e ⟨a7,ds7⟩ w7 ⟨rfl,hd7,Γ7,m7,row7,g7⟩
  simp only at hd7;subst hd7
  refine wpIn_seq (wpIn_mono (Wl m7.base row7 hlen g7) ?_)
  rintro e ⟨a8,ds8⟩ w8 ⟨rfl,hd8,Γ8,m8,g8⟩
  simp only at hd8;subst hd8
  have k8:=(k6.mv m7 nmb).mv m8 nmb
  refine wpIn_seq (wpIn_mono (Wm m8.base k8 g8) ?_)
  rintro e ⟨a9,ds9⟩ w9 ⟨rfl,hd9,Γ9,m9,k9,g9⟩
  simp only at hd9;subst hd9
  have hown:∀b,v6.ownBlock=some b->b=mb\/w.heap.size<=b:=λb hb=>.inr (vav m04.size (own6 b hb))
  have m09:Mv GE (λb=>b=mb) Γ w Γ9 w9:=((m06.trans m7 hown).trans m8 hown).trans m9 λb h=>.inl h
  refine wpIn_mono (g9.piece0 (k:=0) (Wn (l.take 2000)) m9.base (pp ⟨ba cq _,vzz⟩) []) ?_
  rintro e ⟨a10,ds10⟩ w10 ⟨rfl,rfl,Γ10,m10,g10⟩
  exact fin (vaw h) (m09.trans m10 λb h=>h.elim) (k9.mv m10 id) g10
end
theorem Od{Γ:ax}{w:World}{cs:List PVal}{mb:Nat}{v:Value}(hc:dU 0 cs)(h:VR Γ [some mb] w (.agg (cs++[.mapr 0])) v):VR Γ [] w (.agg (cs++[.val (.map (some mb))])) v:=by
 cases h with
 | agg _ vs hl hx =>
  refine .agg _ vs (by simpa using hl) λi p u hp hu=>?_
  by_cases hi:i<cs.length
  ·rw[vac hi]at hp
   exact(hx i p u (by rw[vac hi];exact hp) hu).clo (gN hc hp)
  ·rw[vad (by omega)]at hp
   have hi0:i - cs.length=0:=by have:=ag hp;simp at this;exact this
   rw[hi0]at hp
   simp at hp;subst hp
   have:=hx i (.mapr 0) u (by rw[vad (by omega),hi0];rfl) hu
   cases this with
   |mapr _ b hb=>
    simp at hb
    subst hb
    exact .val _
theorem Rw{m:am}{R:ae->Int->fq->Option (List aa×fq)}(hR:Ob m R)(hlong:∀t n K r,R t n K=some r->r.1.length<4611686018427387904):Ob m (Er m R):=λt n K r h=>by
 refine⟨call67,λΓ bs ow w vs hS=>?_⟩
 have hB:dQ GE Γ w:=hS.base
 have hsz:vs.size=3:=hS.sz
 obtain⟨v0,v1,v2,rfl⟩:=TJ hsz
 have hbl:bs.length=1:=hS.bl
 obtain⟨x,rfl⟩:∃x,bs=[x]:=List.length_eq_one_iff.1 hbl
 have hv0:=hS.tm 0 _ v0 rfl rfl
 have hv1:=hS.tm 1 _ v1 rfl rfl
 have hv2:=hS.tm 2 _ v2 rfl rfl
 obtain⟨mb,rfl⟩:∃mb,x=some mb:=by
  cases hv0 with
  |agg _ vs hl hx=>
   have hlt:6<vs.size:=by rw[hl];simp[ko]
   have:=hx 6 (.mapr 0) vs[6] (by rw[vad (by rw[ko];decide),ko];rfl) (vaE hlt)
   generalize vs[6]=q at this
   cases this with
   |mapr _ b hb=>exact⟨b,by simpa using hb⟩
 cases hv2
 obtain⟨k1,k2,k3⟩:=hS.bx 0 mb _ rfl rfl
 have hTm:cj [some mb] ow mb:=.inl ⟨0,rfl⟩
 have hk:KM mb K Γ w:=⟨⟨k1,k2,λg cs hg e=>(hS.gx g cs hg).2.1 (e▸hTm)⟩,k3.down (Kf _)⟩
 refine(NH hR hlong h hB hk (Od (rK m) hv0) (hv1.clo (show dU 0 (af t)from dD t))).mono λe w' he=>?_
 obtain⟨v,Γ',rfl,hm,hk',hv⟩:=he
 have up:∀{p v},VR Γ' [] w' p v->VR Γ' [some mb] w' p v:=λh=>h.mono (.refl _ _) (λi b h=>by simp at h)
 refine⟨v,Γ',λ_=>none,rfl,{
  wi:=hm.base.wi
  sz:=rfl
  tm:=λi p u hp hu=>by
   match i with
   |0=>simp at hp hu;subst hp;subst hu;exact up hv
   |i+1=>simp at hp
  bl:=rfl
  bx:=λi b B hb hBx=>by
   cases i with
   |zero=>
    simp at hb hBx;subst hb;subst hBx
    exact⟨hk'.off.1,hk'.off.2.1,hk'.br.up⟩
   |succ i=>simp at hb
  inj:=λi j b hi hj=>by
   cases i<;>cases j<;>simp at hi hj ⊢
  bn:=λi b hb=>.inl (.inl ⟨i,hb⟩)
  on:=λb L hL=>by cases hL
  ot:=λt k e he=>by simp at he
  ob:=λi j e cs own b hBx=>by
   cases i<;>simp at hBx
  gl:=λg cs hg=>up (hm.base.gl g cs hg)
  gc:=hm.base.gc
  gx:=hS.gx
  step:={hm.step with
   keep:=λb hb hn=>hm.step.keep b hb λe=>hn (by have e:b=mb:=e;rw[e];exact hTm)}}⟩
theorem JS(m:am):∀k,Ob m (Es m k)
 |0=>λt n K r h=>by cases h
 |k+1=>Rw (JS m k) λt n K r h=>by have:=Lj h;omega
instance iqV{α:Type}{c:α->List PVal}[q:KE c]:KF (sl c):=⟨λl=>ba q.h l⟩
def BI(m:List aM)(m3:List di)(m4:List bB)(m5:List bP)(m6:List eY)(m7:List ga)(t:ae)(n:Int)(K:fq):Option (List aa×fq):=Es ⟨m,m3,m4,m5,m6,m7⟩ (n.toNat+1) t n K
theorem EM{m:List aM}{m3:List di}{m4:List bB}{m5:List bP}{m6:List eY}{m7:List ga}{t:ae}{n:Int}{K:fq}{r:List aa×fq}(h:BI m m3 m4 m5 m6 m7 t n K=some r):C Pg GE RP [.agg [sl ay m,sl bS m3,sl aH m4,sl aX m5,sl ca m6,sl bI m7,.mapr 0],.agg (af t),.int .i64 n] [] [.map (jO (sl ac) K)] (sl ac r.1) [] [.map (jO (sl ac) r.2)]:=JS _ _ t n K r h
open Go Go.Proofs.Tryz
set_option linter.defProp false
abbrev lG:=(aa->Option aa)
abbrev p6(R:lG):Prop:=∀(v:aa),OV 69 [.agg (ac v)] (R v) (λr=>.agg (ac r)) [(3,36)]
noncomputable def WT:Code:=f69.body.getD .skip
theorem WI:ZF Pg [13,19] 69 f69 WT:=zf call69 func69 rfl mixed
section
variable(R33:lG)(t7:waA)(t8:Int)(m:Int)(m2:Int)(m3:ai)(m4:waC)(m5:waG)(m6:waI)(m7:waA)(m8:waG)(m9:waI)(kids:waA)(t9:Int)
def lz:az:=cc 22 [(1,.bptr 0 0),(2,.bptr 1 0),(3,sl ac kids),(7,sl ac t7),(8,.int .i64 t8),(9,.int .i64 t9)] [.cells [.int .i64 m,.int .i64 m2,.str m3,sl ac t7,sl cS m4,sl ak m5,sl aP m6] [],.cells [.int .i64 0,.int .i64 0,.str ([]:ai),sl ac m7,sl cS ([]:List ai),sl ak m8,sl aP m9] [(3,36),(4,9),(5,52),(6,113)]] [((3,0),36)]
def rh(o:waA):az:=cc 22 [(1,.bptr 0 0),(2,.bptr 1 0),(3,sl ac o)] [.cells [.int .i64 m,.int .i64 m2,.str m3,sl ac t7,sl cS m4,sl ak m5,sl aP m6] [],.cells [.int .i64 0,.int .i64 0,.str ([]:ai),sl ac m7,sl cS ([]:List ai),sl ak m8,sl aP m9] [(3,36),(4,9),(5,52),(6,113)]] [((3,0),36)]
instance iS_value_clone_L1:KS 0 (lz t7 t8 m m2 m3 m4 m5 m6 m7 m8 m9 kids t9):=ks 2 rfl
instance iO_value_clone_L1{o:waA}:KS 0 (rh t7 m m2 m3 m4 m5 m6 m7 m8 m9 o):=ks 2 rfl
def re:Option ((waA×Int)⊕(waA)):=
 if decide (t9<t8)=true then
  (dn t7 t9).bind λx2=>
  (R33 x2).bind λr3=>
  (app kids ([r3]:List aa)).bind λl4=>
  some (.inl (l4,bw (t9+1)))
 else
  some (.inr kids)
def EK:Option waA:=loop (λ(zz:waA×Int)=>re R33 t7 t8 zz.1 zz.2) (kids,t9)
theorem yb(hR33:p6 R33):OL 0 (cA WT 119) (re R33 t7 t8 kids t9) (λ(zz:waA×Int)=>lz t7 t8 m m2 m3 m4 m5 m6 m7 m8 m9 zz.1 zz.2) (λ_=>.exit 0) (rh t7 m m2 m3 m4 m5 m6 m7 m8 m9) (lz t7 t8 m m2 m3 m4 m5 m6 m7 m8 m9 kids t9):=WI.lx<|
 tF (tb λx2 bx2=>tb λr3 br3=>tb λl4 bl4=>tv (bz.ia (k:=.i64) bx2)<|tv (aK x2)<|tx wo<|tx (dG x2)<|tv (aF x2 [])<|bV (hR33 _ _ br3)<|tv (bz.mk' (v:=oJ) lm ([r3]:List aa) 1 (by kernel_rfl))<|tv (bz.ap bl4)<|tE)<|tE
def zJ(hR33:p6 R33):=uO (s:=(kids,t9)) λzz=>yb R33 t7 t8 m m2 m3 m4 m5 m6 m7 m8 m9 zz.1 zz.2 hR33
end
def wY(R33:lG)(v:aa):Option aa:=
 (EK R33 v.Kids (v.Kids.length:Int) ([]:List aa) 0).bind λo5=>
 some (⟨v.Op,v.N,v.Name,o5,v.Params,v.Body,v.Binds⟩:aa)
theorem Ct(R33:lG)(hR33:p6 R33){v:aa}:OV 69 [.agg (ac v)] (wY R33 v) (λr=>.agg (ac r)) [(3,36)]:=WI.va<|
 tb λo5 bo5=>Yr (dG v) rfl<|tx wo<|ts<|cE (bz.ln v.Kids)<|eo (zJ R33 v.Kids (v.Kids.length:Int) v.Op v.N v.Name v.Params v.Body v.Binds ([]:List aa) ([]:List al) ([]:List aB) ([]:List aa) 0 hR33 _ bo5)<|tz (aF (⟨v.Op,v.N,v.Name,o5,v.Params,v.Body,v.Binds⟩:aa) [])<|ty (aZ (⟨v.Op,v.N,v.Name,o5,v.Params,v.Body,v.Binds⟩:aa))<|NP λq=>aI (El (⟨v.Op,v.N,v.Name,o5,v.Params,v.Body,v.Binds⟩:aa)) q.2
def wZ:(aa->Option aa)->(aa)->Option aa:=λ(rec:aa->Option aa) (x:aa)=>wY (λv=>rec v) x
def BG(v:aa):Option aa:=oc wZ v
theorem EL{v:aa}:OV 69 [.agg (ac v)] (BG v) (λr=>.agg (ac r)) [(3,36)]:=pM λ_ h=>
 cV (F:=wZ) (M:=λ(x:aa) (r:aa)=>CC Pg GE 69 [.agg (ac x)] (.agg (ac r)) [(3,36)]) (λrec hrec x r h=>Ct _ (λv=>pM λr h=>hrec v r h) _ h) h
noncomputable def UY:Code:=f27.body.getD .skip
theorem UU:ZF Pg [31,51,57] 27 f27 UY:=zf call27 func27 rfl mixed
section
variable(size:Int)(most:Int)(t:ae)(out:waA)(n:Int)(m2:(List (ai×waA)))(m:(List aM))(m3:(List di))(m4:(List bB))(m5:(List bP))(m6:(List eY))(m7:waH)
def wU:Option Bool:=
 if decide (n<=(if 7<size then 7 else size))=true then
  some (decide ((out.length:Int)<(if 2000<most then 2000 else most)))
 else
  some false
theorem A3:OU 0 (cA UY 988) (wU size most out n) .normal (λo=>[(28,.bool o)]) (cc 58 [(2,.int .i64 size),(3,.int .i64 most),(5,.eptr (af t)),(9,.bptr 3 0),(10,sl ac out),(11,.int .i64 n)] [.dead,.dead,.map (jO (sl ac) m2),.cells [sl ay m,sl bS m3,sl aH m4,sl aX m5,sl ca m6,sl bI m7,.mapr 2] []] [((10,0),36)]):=UU.j<|
 tf (λc1=>tg 5 c1<|cE (bz.ln out)<|tE) λc1=>tg 5 c1<|tE
end
section
variable(size:Int)(most:Int)(t:ae)(m:(List aM))(m3:(List di))(m4:(List bB))(m5:(List bP))(m6:(List eY))(m7:waH)(out:waA)(n:Int)(m2:(List (ai×waA)))
def td:az:=cc 58 [(2,.int .i64 size),(3,.int .i64 most),(5,.eptr (af t)),(9,.bptr 3 0),(10,sl ac out),(11,.int .i64 n)] [.dead,.dead,.map (jO (sl ac) m2),.cells [sl ay m,sl bS m3,sl aH m4,sl aX m5,sl ca m6,sl bI m7,.mapr 2] []] [((10,0),36)]
def Cq(o:waA×(List (ai×waA))):az:=cc 58 [(3,.int .i64 most),(10,sl ac o.1)] [.dead,.dead,.map (jO (sl ac) o.2),.cells [sl ay m,sl bS m3,sl aH m4,sl aX m5,sl ca m6,sl bI m7,.mapr 2] []] [((10,0),36)]
def th:Option ((waA×Int×(List (ai×waA)))⊕((waA×(List (ai×waA))))):=
 (wU size most out n).bind λo2=>
 if o2=true then
  (BF t).bind λr4=>
  (BI m m3 m4 m5 m6 m7 r4 n m2).bind λr5=>
  (app out r5.1).bind λl6=>
  some (.inl (l6,bw (n+1),r5.2))
 else
  some (.inr (out,m2))
def FT:Option ((waA×(List (ai×waA)))):=loop (λ(zz:waA×Int×(List (ai×waA)))=>th size most t m m3 m4 m5 m6 m7 zz.1 zz.2.1 zz.2.2) (out,n,m2)
theorem zA:OL 0 (cA UY 247) (th size most t m m3 m4 m5 m6 m7 out n m2) (λ(zz:waA×Int×(List (ai×waA)))=>td size most t m m3 m4 m5 m6 m7 zz.1 zz.2.1 zz.2.2) (λ_=>.exit 0) (Cq most m m3 m4 m5 m6 m7) (td size most t m m3 m4 m5 m6 m7 out n m2):=UU.l<|
 tb λo2 bo2=>tH 1<|eo (A3 size most t out n m2 m m3 m4 m5 m6 m7 _ bo2)<|tF (tb λr4 br4=>tb λr5 br5=>tb λl6 bl6=>Yp (.dx [0,0,0,4,0,30,63,127] [] [] [19,289])<|tv (show aC Pg 135 [sl ay m,sl bS m3,sl aH m4,sl aX m5,sl ca m6,sl bI m7,.mapr 2]=some (.agg [sl ay m,sl bS m3,sl aH m4,sl aX m5,sl ca m6,sl bI m7,.mapr 2]) by kernel_rfl)<|tv (fT t)<|bV (EA _ br4)<|tc [2] (EM br5)<|tv (bz.ap bl6)<|tE)<|tE
def A4:=uO (s:=(out,n,m2)) λzz=>zA size most t m m3 m4 m5 m6 m7 zz.1 zz.2.1 zz.2.2
end
section
variable(t45:waA)(t46:Int)(m2:(List (ai×waA)))(m:(List aM))(m3:(List di))(m4:(List bB))(m5:(List bP))(m6:(List eY))(m7:waH)(copies:waA)(t47:Int)
def mJ:az:=cc 58 [(12,sl ac copies),(45,sl ac t45),(46,.int .i64 t46),(47,.int .i64 t47)] [.dead,.dead,.map (jO (sl ac) m2),.cells [sl ay m,sl bS m3,sl aH m4,sl aX m5,sl ca m6,sl bI m7,.mapr 2] []] [((12,0),36)]
def tj(o:waA):az:=cc 58 [(12,sl ac o)] [.dead,.dead,.map (jO (sl ac) m2),.cells [sl ay m,sl bS m3,sl aH m4,sl aX m5,sl ca m6,sl bI m7,.mapr 2] []] [((12,0),36)]
instance iS_value_Enum_L3:KS 0 (mJ t45 t46 m2 m m3 m4 m5 m6 m7 copies t47):=ks 4 rfl
instance iO_value_Enum_L3{o:waA}:KS 0 (tj m2 m m3 m4 m5 m6 m7 o):=ks 4 rfl
def ti:Option ((waA×Int)⊕(waA)):=
 if decide (t47<t46)=true then
  (dn t45 t47).bind λx10=>
  (BG x10).bind λr11=>
  (app copies ([r11]:List aa)).bind λl12=>
  some (.inl (l12,bw (t47+1)))
 else
  some (.inr copies)
def FU:Option waA:=loop (λ(zz:waA×Int)=>ti t45 t46 zz.1 zz.2) (copies,t47)
theorem zB:OL 0 (cA UY 2039) (ti t45 t46 copies t47) (λ(zz:waA×Int)=>mJ t45 t46 m2 m m3 m4 m5 m6 m7 zz.1 zz.2) (λ_=>.exit 2) (tj m2 m m3 m4 m5 m6 m7) (mJ t45 t46 m2 m m3 m4 m5 m6 m7 copies t47):=UU.lx<|
 tF (tb λx10 bx10=>tb λr11 br11=>tb λl12 bl12=>tv (bz.ia (k:=.i64) bx10)<|tv (aK x10)<|tx wo<|tx (dG x10)<|tv (aF x10 [])<|bV (EL _ br11)<|tv (bz.mk' (v:=oJ) lm ([r11]:List aa) 1 (by kernel_rfl))<|tv (bz.ap bl12)<|tE)<|tE
def A5:=uO (s:=(copies,t47)) λzz=>zB t45 t46 m2 m m3 m4 m5 m6 m7 zz.1 zz.2
end
def xW(m:am)(t:ae)(size:Int)(most:Int):Option waA:=
 (FT size most t m.Datas m.Classes m.Instances m.Measures m.Quals m.Defs ([]:List aa) 1 ([]:List (ai×waA))).bind λo7=>
 (UM o7.1 none (some (if(if 2000<(if most<(o7.1.length:Int)then most else(o7.1.length:Int))then 2000 else(if most<(o7.1.length:Int)then most else(o7.1.length:Int)))>0 then(if 2000<(if most<(o7.1.length:Int)then most else(o7.1.length:Int))then 2000 else(if most<(o7.1.length:Int)then most else(o7.1.length:Int)))else 0))).bind λl8=>
 (FU l8 (l8.length:Int) ([]:List aa) 0).bind λo13=>
 some o13
theorem wV{m:am}{t:ae}{size:Int}{most:Int}:OV 27 [.agg (aq m),.agg (af t),.int .i64 size,.int .i64 most] (xW m t size most) (λr=>sl ac r) [(0,36)]:=UU.v<|
 tb λo7 bo7=>tb λl8 bl8=>tb λo13 bo13=>te (fU m)<|te (kH t)<|tv (eJ m)<|tv (show dF Pg 135 [(0,.agg (aq m)),(1,.mapr 2)]=some (.agg [sl ay m.Datas,sl bS m.Classes,sl aH m.Instances,sl aX m.Measures,sl ca m.Quals,sl bI m.Defs,.mapr 2]) by kernel_rfl)<|tx Uu<|tx (Yb [sl ay m.Datas,sl bS m.Classes,sl aH m.Instances,sl aX m.Measures,sl ca m.Quals,sl bI m.Defs,.mapr 2])<|eo (A4 size most t m.Datas m.Classes m.Instances m.Measures m.Quals m.Defs ([]:List aa) 1 ([]:List (ai×waA)) _ bo7)<|cE (bz.ln o7.1)<|tv (bz.sc bl8)<|cE (bz.ln l8)<|eo (A5 l8 (l8.length:Int) o7.2 m.Datas m.Classes m.Instances m.Measures m.Quals m.Defs ([]:List aa) 0 _ bo13)<|tE
abbrev ir:=(am->aa->Option Int)
abbrev lA(R:ir):Prop:=∀(m:am) (v:aa),OV 13 [.agg (aq m),.agg (ac v)] (R m v) (λr=>.int .i64 r) []
noncomputable def XD:Code:=f36.body.getD .skip
theorem Xq:ZF Pg [31] 36 f36 XD:=zf call36 func36 rfl mixed
def vD(m:am)(v:aa):Option (ae×Bool):=
 if(v.Op==1)=true then
  some ((⟨1,([]:ai),([]:List ae),([]:List ai),(⟨0,([]:ai),0,([]:List ah)⟩:ah),([]:List ah)⟩:ae),true)
 else if(v.Op==2)=true then
  some ((⟨2,([]:ai),([]:List ae),([]:List ai),(⟨0,([]:ai),0,([]:List ah)⟩:ah),([]:List ah)⟩:ae),true)
 else if(v.Op==4)=true then
  some ((⟨3,([]:ai),([]:List ae),([]:List ai),(⟨0,([]:ai),0,([]:List ah)⟩:ah),([]:List ah)⟩:ae),true)
 else
  (fZ m v.Name).bind λr4=>
  some ((⟨4,r4.1.Name,([]:List ae),([]:List ai),(⟨0,([]:ai),0,([]:List ah)⟩:ah),([]:List ah)⟩:ae),r4.2.2)
theorem BH{m:am}{v:aa}:OV 36 [.agg (aq m),.agg (ac v)] (vD m v) (λr=>.tuple [.agg (af r.1),.bool r.2]) []:=Xq.v<|
 te (fU m)<|te (dP v)<|tx AN<|tw (bA v)<|tF (FM (nY 1) (nW 1)<|ty (aV (⟨1,([]:ai),([]:List ae),([]:List ai),(⟨0,([]:ai),0,([]:List ah)⟩:ah),([]:List ah)⟩:ae))<|NP λq=>aI (vbp PVal.tuple (jy (lp (⟨1,([]:ai),([]:List ae),([]:List ai),(⟨0,([]:ai),0,([]:List ah)⟩:ah),([]:List ah)⟩:ae)) (jy (rP (.bool true)) (rfl:([]:List PVal)=[])))) q.2)<|tF (FM (nY 2) (nW 2)<|ty (aV (⟨2,([]:ai),([]:List ae),([]:List ai),(⟨0,([]:ai),0,([]:List ah)⟩:ah),([]:List ah)⟩:ae))<|NP λq=>aI (vbp PVal.tuple (jy (lp (⟨2,([]:ai),([]:List ae),([]:List ai),(⟨0,([]:ai),0,([]:List ah)⟩:ah),([]:List ah)⟩:ae)) (jy (rP (.bool true)) (rfl:([]:List PVal)=[])))) q.2)<|tF (FM (nY 3) (nW 3)<|ty (aV (⟨3,([]:ai),([]:List ae),([]:List ai),(⟨0,([]:ai),0,([]:List ah)⟩:ah),([]:List ah)⟩:ae))<|NP λq=>aI (vbp PVal.tuple (jy (lp (⟨3,([]:ai),([]:List ae),([]:List ai),(⟨0,([]:ai),0,([]:List ah)⟩:ah),([]:List ah)⟩:ae)) (jy (rP (.bool true)) (rfl:([]:List PVal)=[])))) q.2)<|tb λr4 br4=>tv (eJ m)<|tw (bJ v)<|bV (jT _ br4)<|tx FI<|tx (iy r4.1)<|ts<|FM (rH 4 r4.1.Name) (rG 4 r4.1.Name)<|ty (aV (⟨4,r4.1.Name,([]:List ae),([]:List ai),(⟨0,([]:ai),0,([]:List ah)⟩:ah),([]:List ah)⟩:ae))<|NP λq=>aI (vbp PVal.tuple (jy (lp (⟨4,r4.1.Name,([]:List ae),([]:List ai),(⟨0,([]:ai),0,([]:List ah)⟩:ah),([]:List ah)⟩:ae)) (jy (rP (.bool r4.2.2)) (rfl:([]:List PVal)=[])))) q.2
abbrev nf:=(ae->ae->Option Bool)
abbrev ru(R:nf):Prop:=∀(a:ae) (a2:ae),OV 47 [.agg (af a),.agg (af a2)] (R a a2) (λr=>.bool r) []
noncomputable def UZ:Code:=f47.body.getD .skip
theorem Vk:ZF Pg [32] 47 f47 UZ:=zf call47 func47 rfl mixed
section
variable(v:ae)(v2:ae)
def ql:Option Bool:=
 if(v.Op !=v2.Op)=true then
  some true
 else if(!(v.Name==v2.Name))=true then
  some true
 else
  some ((v.Args.length:Int)!=(v2.Args.length:Int))
theorem AW:OU 0 (cA UZ 12) (ql v v2) .normal (λo=>[(26,.bool o)]) (cc 46 [(2,.eptr (af v)),(3,.eptr (af v2))] [.dead,.dead] []):=Vk.j<|
 have pp2:=λ{X Y Z} (r:PV _ X Y Z)=>tw (df v)<|tw (df v2)<|r;tf (λc1=>pp2<|tg 6 c1<|tE) λc1=>have pp4:=λ{X Y Z} (r:PV _ X Y Z)=>pp2<|tg 6 c1<|tw (cz v)<|tw (cz v2)<|r;tf (λc3=>pp4<|tg 13 c3<|tE) λc3=>pp4<|tg 13 c3<|tw (bo v)<|cE (fe.ln v.Args)<|tw (bo v2)<|cE (fe.ln v2.Args)<|tE
end
section
variable(R38:nf)(v:ae)(v2:ae)(t29:Int)(t30:Int)
def mG:az:=cc 46 [(2,.eptr (af v)),(3,.eptr (af v2)),(29,.int .i64 t29),(30,.int .i64 t30)] [.dead,.dead] []
def sT(o:Unit⊕(Unit)):Exit:=match o with
 |(.inl _)=>.ret
 |(.inr _)=>.exit 0
def sU(o:Unit⊕(Unit)):az:=match o with
 |(.inl o)=>cc 46 [(4,.bool false)] [.dead,.dead] []
 |(.inr o)=>cc 46 [] [.dead,.dead] []
def j1:Option (Int⊕(Unit⊕(Unit))):=
 if decide (t30<t29)=true then
  (dn v.Args t30).bind λx8=>
  (dn v2.Args t30).bind λx9=>
  (R38 x8 x9).bind λr10=>
  if(!r10)=true then
   some (.inr (.inl ()))
  else
   some (.inl (bw (t30+1)))
 else
  some (.inr (.inr ()))
def qm:Option (Unit⊕(Unit)):=loop (λ(zz:Int)=>j1 R38 v v2 t29 zz) t30
theorem zl(hR38:ru R38):OL 0 (cA UZ 119) (j1 R38 v v2 t29 t30) (λ(zz:Int)=>mG v v2 t29 zz) sT sU (mG v v2 t29 t30):=Vk.l<|
 tF (tb λx8 bx8=>tb λx9 bx9=>tb λr10 br10=>tK [0,1,0,7,15,0,32,0,224,480,1023,2047]<|tw (bo v)<|tv (fe.ia (k:=.i64) bx8)<|tv (fT x8)<|tw (bo v2)<|tv (fe.ia (k:=.i64) bx9)<|tv (fT x9)<|bV (hR38 _ _ _ br10)<|tF tE<|tE)<|tE
theorem qX(hR38:ru R38):OK 0 (.loop (cA UZ 119)) (qm R38 v v2 t29 t30) sT sU (mG v v2 t29 t30):=Iy λ_=>zl _ _ _ _ _ hR38
end
def ny(R38:nf)(a:ae)(a2:ae):Option Bool:=
 (ql a a2).bind λo5=>
 if o5=true then
  some false
 else
  (qm R38 a a2 (a.Args.length:Int) 0).bind λo12=>match o12 with
  |(.inl o12)=>
   some false
  |(.inr o12)=>
   some true
theorem EB(R38:nf)(hR38:ru R38){a:ae}{a2:ae}:OV 47 [.agg (af a),.agg (af a2)] (ny R38 a a2) (λr=>.bool r) []:=Vk.v<|
 tb λo5 bo5=>te (kH a)<|te (kH a2)<|tH 1<|eo (AW a a2 _ bo5)<|tF tE<|tw (bo a)<|cE (fe.ln a.Args)<|t2 (λo12 bo12=>eo (qX R38 a a2 (a.Args.length:Int) 0 hR38 _ bo12)<|tE) λo12 bo12=>eo (qX R38 a a2 (a.Args.length:Int) 0 hR38 _ bo12)<|tE
def su:((ae×ae)->Option Bool)->(ae×ae)->Option Bool:=λ(rec:(ae×ae)->Option Bool) (x:ae×ae)=>ny (λa a2=>rec (a,a2)) x.1 x.2
def sq(a:ae)(a2:ae):Option Bool:=oc su (a,a2)
theorem wR{a:ae}{a2:ae}:OV 47 [.agg (af a),.agg (af a2)] (sq a a2) (λr=>.bool r) []:=pM λ_ h=>
 cV (F:=su) (M:=λ(x:ae×ae) (r:Bool)=>CC Pg GE 47 [.agg (af x.1),.agg (af x.2)] (.bool r) []) (λrec hrec x r h=>EB _ (λa a2=>pM λr h=>hrec (a,a2) r h) _ h) h
noncomputable def Vu:Code:=f38.body.getD .skip
theorem Wz:ZF Pg [44,52] 38 f38 Vu:=zf call38 func38 rfl mixed
section
variable(R35:ir)(m:am)(fields:waB)(t40:waA)(t41:Int)(m2:ai)(m3:waC)(m4:waE)(m5:waF)(t42:Int)
def j3:az:=cc 67 [(2,.eptr (aq m)),(8,sl af fields),(40,sl ac t40),(41,.int .i64 t41),(42,.int .i64 t42)] [.dead,.dead,.cells [.str m2,sl cS m3,sl bT m4,sl aG m5] []] []
def tp(o:Int⊕(Unit)):Exit:=match o with
 |(.inl _)=>.ret
 |(.inr _)=>.exit 0
def mM(o:Int⊕(Unit)):az:=match o with
 |(.inl o)=>cc 67 [(4,.int .i64 o)] [.dead,.dead,.cells [.str m2,sl cS m3,sl bT m4,sl aG m5] []] []
 |(.inr o)=>cc 67 [] [.dead,.dead,.cells [.str m2,sl cS m3,sl bT m4,sl aG m5] []] []
instance iS_value_data_L1:KS 0 (j3 m fields t40 t41 m2 m3 m4 m5 t42):=ks 3 rfl
instance iO_value_data_L1{o:Int⊕(Unit)}:KS 0 (mM m2 m3 m4 m5 o):=match o with
 |(.inl o)=>ks 3 rfl
 |(.inr o)=>ks 3 rfl
def fK:Option (Int⊕(Int⊕(Unit))):=
 if decide (t42<t41)=true then
  (dn t40 t42).bind λx7=>
  (R35 m x7).bind λr8=>
  if(r8 !=0)=true then
   some (.inr (.inl r8))
  else
   (vD m x7).bind λr10=>
   (dn fields t42).bind λx11=>
   (sq r10.1 x11).bind λr12=>
   if(!r12)=true then
    some (.inr (.inl 12))
   else
    some (.inl (bw (t42+1)))
 else
  some (.inr (.inr ()))
def qp:Option (Int⊕(Unit)):=loop (λ(zz:Int)=>fK R35 m fields t40 t41 zz) t42
theorem zK(hR35:lA R35):OL 0 (cA Vu 2039) (fK R35 m fields t40 t41 t42) (λ(zz:Int)=>j3 m fields t40 t41 m2 m3 m4 m5 zz) tp (mM m2 m3 m4 m5) (j3 m fields t40 t41 m2 m3 m4 m5 t42):=Wz.lx<|
 tF (tb λx7 bx7=>tb λr8 br8=>tv (bz.ia (k:=.i64) bx7)<|tv (aK x7)<|tx wo<|tx (dG x7)<|tv (eJ m)<|tv (aF x7 [])<|bV (hR35 _ _ _ br8)<|tF tE<|tb λr10 br10=>tb λx11 bx11=>tb λr12 br12=>tv (eJ m)<|tv (aF x7 [])<|bV (BH _ br10)<|tx AN<|tx (jn r10.1)<|tK [0,0,0,6,14,31,63]<|tv (fH r10.1 [])<|tv (fe.ia (k:=.i64) bx11)<|tv (fT x11)<|bV (wR _ br12)<|tF tE<|tE)<|tE
theorem ri(hR35:lA R35):OK 0 (.loop (cA Vu 2039)) (qp R35 m fields t40 t41 t42) tp (mM m2 m3 m4 m5) (j3 m fields t40 t41 m2 m3 m4 m5 t42):=Iy λ_=>zK _ _ _ _ _ _ _ _ _ _ hR35
end
def sC(R35:ir)(m:am)(v:aa):Option Int:=
 if(v.N !=0)=true then
  some 1
 else
  (fZ m v.Name).bind λr2=>
  if(!r2.2.2)=true then
   some 5
  else
   (dn r2.1.Cons r2.2.1).bind λx4=>
   if((x4.Fields.length:Int)!=(v.Kids.length:Int))=true then
    some 13
   else
    (qp R35 m x4.Fields v.Kids (v.Kids.length:Int) 0).bind λo14=>match o14 with
    |(.inl o14)=>
     some o14
    |(.inr o14)=>
     some 0
theorem FX(R35:ir)(hR35:lA R35){m:am}{v:aa}:OV 38 [.agg (aq m),.agg (ac v)] (sC R35 m v) (λr=>.int .i64 r) []:=Wz.v<|
 te (fU m)<|te (dP v)<|tw (aS v)<|tF tE<|tb λr2 br2=>tv (eJ m)<|tw (bJ v)<|bV (jT _ br2)<|tx FI<|tx (iy r2.1)<|tF tE<|tb λx4 bx4=>ts<|tv (Im.ia (k:=.i64) bx4)<|tw (pz x4)<|cE (fe.ln x4.Fields)<|tw (bh v)<|cE (bz.ln v.Kids)<|tF tE<|tw (bh v)<|cE (bz.ln v.Kids)<|t2 (λo14 bo14=>eo (ri R35 m x4.Fields v.Kids (v.Kids.length:Int) r2.1.Name r2.1.Vars r2.1.Preds r2.1.Cons 0 hR35 _ bo14)<|tE) λo14 bo14=>eo (ri R35 m x4.Fields v.Kids (v.Kids.length:Int) r2.1.Name r2.1.Vars r2.1.Preds r2.1.Cons 0 hR35 _ bo14)<|tE
noncomputable def XE:Code:=f39.body.getD .skip
theorem Xr:ZF Pg [] 39 f39 XE:=zf call39 func39 rfl mixed
def HX(n:Int):Option Bool:=
 if decide (n>=(-1000000000000))=true then
  some (decide (n<=1000000000000))
 else
  some false
theorem M9{n:Int}:OV 39 [.int .i64 n] (HX n) (λr=>.bool r) []:=Xr.v<|
 tf (λc1=>tg 3 c1<|tE) λc1=>tg 3 c1<|tE
noncomputable def To:Code:=f13.body.getD .skip
theorem Tm:ZF Pg [] 13 f13 To:=zf call13 func13 rfl mixed
section
variable(m:am)(v:aa)
def oK:Option Bool:=
 if decide (v.Op<1)=true then
  some true
 else
  some (decide (v.Op>5))
theorem zr:OU 0 (cA To 26) (oK v) .normal (λo=>[(5,.bool o)]) (cc 70 [(2,.eptr (aq m)),(3,.eptr (ac v))] [.dead,.dead] []):=Tm.j<|
 have pp2:=λ{X Y Z} (r:PV _ X Y Z)=>tw (bA v)<|r;tf (λc1=>pp2<|tg 4 c1<|tE) λc1=>pp2<|tg 4 c1<|tw (bA v)<|tE
end
section
variable(m:am)(v:aa)
def oL:Option Bool:=
 if decide ((v.Params.length:Int)>0)=true then
  some true
 else if decide ((v.Body.length:Int)>0)=true then
  some true
 else
  some (decide ((v.Binds.length:Int)>0))
theorem zt:OU 0 (cA To 446) (oL v) .normal (λo=>[(18,.bool o)]) (cc 70 [(2,.eptr (aq m)),(3,.eptr (ac v))] [.dead,.dead] []):=Tm.j<|
 have pp7:=λ{X Y Z} (r:PV _ X Y Z)=>tw (gd v)<|cE (qO.ln v.Params)<|r;tf (λc6=>pp7<|tg 5 c6<|tE) λc6=>have pp9:=λ{X Y Z} (r:PV _ X Y Z)=>pp7<|tg 5 c6<|tw (cW v)<|cE (zb.ln v.Body)<|r;tf (λc8=>pp9<|tg 11 c8<|tE) λc8=>pp9<|tg 11 c8<|tw (dO v)<|cE (Il.ln v.Binds)<|tE
end
section
variable(v:aa)
def oM:Option Bool:=
 if(!(v.Name==([]:ai)))=true then
  some true
 else
  some (decide ((v.Kids.length:Int)>0))
theorem zu:OU 0 (cA To 7166) (oM v) .normal (λo=>[(42,.bool o)]) (cc 70 [(3,.eptr (ac v))] [.dead,.dead] []):=Tm.j<|
 have pp15:=λ{X Y Z} (r:PV _ X Y Z)=>tw (bJ v)<|r;tf (λc14=>pp15<|tg 4 c14<|tE) λc14=>pp15<|tg 4 c14<|tw (bh v)<|cE (bz.ln v.Kids)<|tE
end
section
variable(v:aa)
def oO:Option Bool:=
 if(v.Op==2)=true then
  if(v.N !=0)=true then
   some (v.N !=1)
  else
   some false
 else
  some false
theorem zw:OU 0 (cA To 57340) (oO v) .normal (λo=>[(52,.bool o)]) (cc 70 [(3,.eptr (ac v))] [.dead,.dead] []):=Tm.j<|
 have pp19:=λ{X Y Z} (r:PV _ X Y Z)=>tw (bA v)<|r;tf (λc18=>have pp21:=λ{X Y Z} (r:PV _ X Y Z)=>pp19<|tg 4 c18<|tw (aS v)<|r;tf (λc20=>pp21<|tg 9 c20<|tw (aS v)<|tE) λc20=>pp21<|tg 9 c20<|tE) λc18=>pp19<|tg 4 c18<|tE
end
section
variable(v:aa)
def oN:Option Bool:=
 (oO v).bind λo22=>
 if o22=true then
  some o22
 else
  (HX v.N).bind λr24=>
  some (!r24)
theorem zv:OU 0 (cA To 28670) (oN v) .normal (λo=>[(3,.undef),(52,.bool o)]) (cc 70 [(3,.eptr (ac v))] [.dead,.dead] []):=Tm.j<|
 tb λo22 bo22=>tH 0<|eo (zw v _ bo22)<|tF tE<|tb λr24 br24=>tw (aS v)<|bV (M9 _ br24)<|tE
end
def lR(R35:ir)(m:am)(v:aa):Option Int:=
 (oK v).bind λo3=>
 if o3=true then
  some 1
 else if(v.Op==5)=true then
  some 12
 else
  (oL v).bind λo10=>
  if o10=true then
   some 1
  else if(v.Op==3)=true then
   (sC R35 m v).bind λr13=>
   some r13
  else
   (oM v).bind λo16=>
   if o16=true then
    some 1
   else
    (oN v).bind λo25=>
    if o25=true then
     some 2
    else
     some 0
theorem Cp(R35:ir)(hR35:lA R35){m:am}{v:aa}:OV 13 [.agg (aq m),.agg (ac v)] (lR R35 m v) (λr=>.int .i64 r) []:=Tm.v<|
 tb λo3 bo3=>te (fU m)<|te (dP v)<|tH 1<|eo (zr m v _ bo3)<|tF tE<|tw (bA v)<|tF tE<|tb λo10 bo10=>tH 0<|eo (zt m v _ bo10)<|tF tE<|tw (bA v)<|tF (tb λr13 br13=>tv (eJ m)<|tv (aK v)<|bV (FX R35 hR35 _ br13)<|tE)<|tb λo16 bo16=>tH 0<|eo (zu v _ bo16)<|tF tE<|tb λo25 bo25=>tH 0<|eo (zv v _ bo25)<|tF tE<|tE
def qn:((am×aa)->Option Int)->(am×aa)->Option Int:=λ(rec:(am×aa)->Option Int) (x:am×aa)=>lR (λm v=>rec (m,v)) x.1 x.2
def kz(m:am)(v:aa):Option Int:=oc qn (m,v)
theorem fp{m:am}{v:aa}:OV 13 [.agg (aq m),.agg (ac v)] (kz m v) (λr=>.int .i64 r) []:=pM λ_ h=>
 cV (F:=qn) (M:=λ(x:am×aa) (r:Int)=>CC Pg GE 13 [.agg (aq x.1),.agg (ac x.2)] (.int .i64 r) []) (λrec hrec x r h=>Cp _ (λm v=>pM λr h=>hrec (m,v) r h) _ h) h
noncomputable def Xz:Code:=f11.body.getD .skip
theorem Xn:ZF Pg [] 11 f11 Xz:=zf call11 func11 rfl mixed
def xY(m:am)(v:aa):Option (ae×Bool):=
 (kz m v).bind λr1=>
 if(r1 !=0)=true then
  some ((⟨0,([]:ai),([]:List ae),([]:List ai),(⟨0,([]:ai),0,([]:List ah)⟩:ah),([]:List ah)⟩:ae),false)
 else
  (vD m v).bind λr3=>
  some (r3.1,r3.2)
theorem wX{m:am}{v:aa}:OV 11 [.agg (aq m),.agg (ac v)] (xY m v) (λr=>.tuple [.agg (af r.1),.bool r.2]) []:=Xn.v<|
 tb λr1 br1=>te (fU m)<|te (dP v)<|tx AN<|tv (eJ m)<|tv (aK v)<|bV (fp _ br1)<|tF (FM (Kc) (Ka)<|ty (aV (⟨0,([]:ai),([]:List ae),([]:List ai),(⟨0,([]:ai),0,([]:List ah)⟩:ah),([]:List ah)⟩:ae))<|NP λq=>aI (vbp PVal.tuple (jy (lp (⟨0,([]:ai),([]:List ae),([]:List ai),(⟨0,([]:ai),0,([]:List ah)⟩:ah),([]:List ah)⟩:ae)) (jy (rP (.bool false)) (rfl:([]:List PVal)=[])))) q.2)<|tb λr3 br3=>tv (eJ m)<|tv (aK v)<|bV (BH _ br3)<|tx (jn r3.1)<|NP λq=>aI (vbp PVal.tuple (jy (lp r3.1) (jy (rP (.bool r3.2)) (rfl:([]:List PVal)=[])))) q.2
abbrev ng:=(aa->Option ai)
abbrev rx(R:ng):Prop:=∀(v:aa),OV 24 [.agg (ac v)] (R v) (λr=>.str r) []
noncomputable def WR:Code:=f24.body.getD .skip
theorem Wy:ZF Pg [40] 24 f24 WR:=zf call24 func24 rfl mixed
section
variable(R40:ng)(v:aa)(t34:waA)(t35:Int)(v2:waC)(t36:Int)
def mL:az:=cc 53 [(1,.eptr (ac v)),(3,sl cS v2),(34,sl ac t34),(35,.int .i64 t35),(36,.int .i64 t36)] [.dead] [((3,0),9)]
def tn(o:waC):az:=cc 53 [(1,.eptr (ac v)),(3,sl cS o)] [.dead] [((3,0),9)]
instance iS_value_Text_L1:KS 0 (mL v t34 t35 v2 t36):=ks 1 rfl
instance iO_value_Text_L1{o:waC}:KS 0 (tn v o):=ks 1 rfl
def tk:Option ((waC×Int)⊕(waC)):=
 if decide (t36<t35)=true then
  (dn t34 t36).bind λx12=>
  (R40 x12).bind λr13=>
  (app v2 ([r13]:List ai)).bind λl14=>
  some (.inl (l14,bw (t36+1)))
 else
  some (.inr v2)
def FW:Option waC:=loop (λ(zz:waC×Int)=>tk R40 t34 t35 zz.1 zz.2) (v2,t36)
theorem zG(hR40:rx R40):OL 0 (cA WR 458679) (tk R40 t34 t35 v2 t36) (λ(zz:waC×Int)=>mL v t34 t35 zz.1 zz.2) (λ_=>.exit 1) (tn v) (mL v t34 t35 v2 t36):=Wy.lx<|
 tF (tb λx12 bx12=>tb λr13 br13=>tb λl14 bl14=>tv (bz.ia (k:=.i64) bx12)<|tv (aK x12)<|tx wo<|tx (dG x12)<|tv (aF x12 [])<|bV (hR40 _ _ br13)<|tv (Um [r13] 1 rfl)<|tv (qO.ap bl14)<|tE)<|tE
def A8(hR40:rx R40):=uO (s:=(v2,t36)) λzz=>zG R40 v t34 t35 zz.1 zz.2 hR40
end
def zE(R40:ng)(v:aa):Option ai:=
 if(v.Op==1)=true then
  (uM v.N).bind λr2=>
  some r2
 else if(v.Op==2)=true then
  if(v.N !=0)=true then
   some Ti
  else
   some RE
 else if(v.Op==4)=true then
  (uM v.N).bind λr6=>
  (Iw JZ r6).bind λs7=>
  (Iw s7 R0).bind λs8=>
  some s8
 else if(v.Op==3)=true then
  if((v.Kids.length:Int)==0)=true then
   some v.Name
  else
   (FW R40 v.Kids (v.Kids.length:Int) ([]:List ai) 0).bind λo15=>
   (Iw v.Name Qg).bind λs16=>
   (OT o15 Qh).bind λr17=>
   (Iw s16 r17).bind λs18=>
   (Iw s18 R0).bind λs19=>
   some s19
 else
  some UP
theorem EG(R40:ng)(hR40:rx R40){v:aa}:OV 24 [.agg (ac v)] (zE R40 v) (λr=>.str r) []:=Wy.v<|
 te (dP v)<|tw (bA v)<|tF (tb λr2 br2=>tw (aS v)<|bV (uN _ br2)<|tE)<|tF (tw (aS v)<|tF tE<|tE)<|tF (tb λr6 br6=>tb λs7 bs7=>tb λs8 bs8=>tw (aS v)<|bV (uN _ br6)<|tv (kS (P:=Pg) (t:=9) bs7)<|tv (kS (P:=Pg) (t:=9) bs8)<|tE)<|tF (tw (bh v)<|cE (bz.ln v.Kids)<|tF (tw (bJ v)<|tE)<|tb λo15 bo15=>tb λs16 bs16=>tb λr17 br17=>tb λs18 bs18=>tb λs19 bs19=>tw (bh v)<|cE (bz.ln v.Kids)<|eo (A8 R40 v v.Kids (v.Kids.length:Int) ([]:List ai) 0 hR40 _ bo15)<|tK [0,1,3,0,8,31,63,127]<|tw (bJ v)<|tv (kS (P:=Pg) (t:=9) bs16)<|bV (OW br17)<|tv (kS (P:=Pg) (t:=9) bs18)<|tv (kS (P:=Pg) (t:=9) bs19)<|tE)<|tE
def zF:(aa->Option ai)->(aa)->Option ai:=λ(rec:aa->Option ai) (x:aa)=>zE (λv=>rec v) x
def sB(v:aa):Option ai:=oc zF v
theorem aQ{v:aa}:OV 24 [.agg (ac v)] (sB v) (λr=>.str r) []:=pM λ_ h=>
 cV (F:=zF) (M:=λ(x:aa) (r:ai)=>CC Pg GE 24 [.agg (ac x)] (.str r) []) (λrec hrec x r h=>EG _ (λv=>pM λr h=>hrec v r h) _ h) h
abbrev dz:=(aa->aa->Option Bool)
abbrev fL(R:dz):Prop:=∀(a:aa) (a2:aa),OV 18 [.agg (ac a),.agg (ac a2)] (R a a2) (λr=>.bool r) []
noncomputable def Vv:Code:=f48.body.getD .skip
theorem WA:ZF Pg [19] 48 f48 Vv:=zf call48 func48 rfl mixed
section
variable(R41:dz)(s2:waA)(t15:waA)(t16:Int)(t17:Int)
def fx:az:=cc 32 [(1,sl ac s2),(2,.func (.func 18) [] []),(15,sl ac t15),(16,.int .i64 t16),(17,.int .i64 t17)] [] []
def kV(o:Unit⊕(Unit)):Exit:=match o with
 |(.inl _)=>.ret
 |(.inr _)=>.exit 0
def iF(o:Unit⊕(Unit)):az:=match o with
 |(.inl o)=>cc 32 [(6,.bool false)] [] []
 |(.inr o)=>cc 32 [] [] []
instance iS_slices_EqualFunc_L1:KS 0 (fx s2 t15 t16 t17):=ks 0 rfl
instance iO_slices_EqualFunc_L1{o:Unit⊕(Unit)}:KS 0 (iF o):=match o with
 |(.inl o)=>ks 0 rfl
 |(.inr o)=>ks 0 rfl
def cZ:Option (Int⊕(Unit⊕(Unit))):=
 if decide (t17<t16)=true then
  (dn t15 t17).bind λx3=>
  (dn s2 t17).bind λx4=>
  (R41 x3 x4).bind λr5=>
  if(!r5)=true then
   some (.inr (.inl ()))
  else
   some (.inl (bw (t17+1)))
 else
  some (.inr (.inr ()))
def jE:Option (Unit⊕(Unit)):=loop (λ(zz:Int)=>cZ R41 s2 t15 t16 zz) t17
theorem qP(hR41:fL R41):OL 0 (cA Vv 119) (cZ R41 s2 t15 t16 t17) (λ(zz:Int)=>fx s2 t15 t16 zz) kV iF (fx s2 t15 t16 t17):=WA.lx<|
 tF (tb λx3 bx3=>tb λx4 bx4=>tb λr5 br5=>tv (bz.ia (k:=.i64) bx3)<|tv (aK x3)<|tx wo<|tx (dG x3)<|tv (bz.ia (k:=.i64) bx4)<|tv (aK x4)<|tx wo<|tx (dG x4)<|tv (aF x3 [])<|tv (aF x4 [])<|bV (hR41 _ _ _ br5)<|tF tE<|tE)<|tE
theorem kP(hR41:fL R41):OK 0 (.loop (cA Vv 119)) (jE R41 s2 t15 t16 t17) kV iF (fx s2 t15 t16 t17):=Iy λ_=>qP _ _ _ _ _ hR41
end
def jr(R41:dz)(s1:waA)(s2:waA):Option Bool:=
 if((s1.length:Int)!=(s2.length:Int))=true then
  some false
 else
  (jE R41 s2 s1 (s1.length:Int) 0).bind λo7=>match o7 with
  |(.inl o7)=>
   some false
  |(.inr o7)=>
   some true
theorem wq(R41:dz)(hR41:fL R41){s1:waA}{s2:waA}:OV 48 [sl ac s1,sl ac s2,.func (.func 18) [] []] (jr R41 s1 s2) (λr=>.bool r) []:=WA.v<|
 cE (bz.ln s1)<|cE (bz.ln s2)<|tF tE<|cE (bz.ln s1)<|t2 (λo7 bo7=>eo (kP R41 s2 s1 (s1.length:Int) 0 hR41 _ bo7)<|tE) λo7 bo7=>eo (kP R41 s2 s1 (s1.length:Int) 0 hR41 _ bo7)<|tE
noncomputable def Vw:Code:=f49.body.getD .skip
theorem WB:ZF Pg [15] 49 f49 Vw:=zf call49 func49 rfl mixed
section
variable(s1:waC)(s2:waC)(t12:Int)(t13:Int)
def kR:az:=cc 26 [(0,sl cS s1),(1,sl cS s2),(12,.int .i64 t12),(13,.int .i64 t13)] [] []
def pR(o:Unit⊕(Unit)):Exit:=match o with
 |(.inl _)=>.ret
 |(.inr _)=>.exit 0
def pS(o:Unit⊕(Unit)):az:=match o with
 |(.inl o)=>cc 26 [(4,.bool false)] [] []
 |(.inr o)=>cc 26 [] [] []
def eI:Option (Int⊕(Unit⊕(Unit))):=
 if decide (t13<t12)=true then
  (dn s1 t13).bind λx3=>
  (dn s2 t13).bind λx4=>
  if(!(x3==x4))=true then
   some (.inr (.inl ()))
  else
   some (.inl (bw (t13+1)))
 else
  some (.inr (.inr ()))
def mB:Option (Unit⊕(Unit)):=loop (λ(zz:Int)=>eI s1 s2 t12 zz) t13
theorem wr:OL 0 (cA Vw 119) (eI s1 s2 t12 t13) (λ(zz:Int)=>kR s1 s2 t12 zz) pR pS (kR s1 s2 t12 t13):=WB.l<|
 tF (tb λx3 bx3=>tb λx4 bx4=>tK [0,0,3,7,0,0,48,112,255]<|tv (qO.ia (k:=.i64) bx3)<|tv (AL Wo (.str x3) [])<|tv (qO.ia (k:=.i64) bx4)<|tv (AL Wo (.str x4) [])<|tF tE<|tE)<|tE
theorem oE:OK 0 (.loop (cA Vw 119)) (mB s1 s2 t12 t13) pR pS (kR s1 s2 t12 t13):=Iy λ_=>wr _ _ _ _
end
def jq(s1:waC)(s2:waC):Option Bool:=
 if((s1.length:Int)!=(s2.length:Int))=true then
  some false
 else
  (mB s1 s2 (s1.length:Int) 0).bind λo6=>match o6 with
  |(.inl o6)=>
   some false
  |(.inr o6)=>
   some true
theorem mC{s1:waC}{s2:waC}:OV 49 [sl cS s1,sl cS s2] (jq s1 s2) (λr=>.bool r) []:=WB.v<|
 cE (qO.ln s1)<|cE (qO.ln s2)<|tF tE<|cE (qO.ln s1)<|t2 (λo6 bo6=>eo (oE s1 s2 (s1.length:Int) 0 _ bo6)<|tE) λo6 bo6=>eo (oE s1 s2 (s1.length:Int) 0 _ bo6)<|tE
abbrev bH:=(waG->waG->Option Bool)
abbrev dj(R:bH):Prop:=∀(s1:waG) (s2:waG),OV 50 [sl ak s1,sl ak s2,.func (.func 51) [] []] (R s1 s2) (λr=>.bool r) []
abbrev eR:=(al->al->Option Bool)
abbrev jG(R:eR):Prop:=∀(a:al) (a2:al),OV 51 [.agg (ak a),.agg (ak a2)] (R a a2) (λr=>.bool r) []
abbrev cd:=(waB->waB->Option Bool)
abbrev dt(R:cd):Prop:=∀(s1:waB) (s2:waB),OV 73 [sl af s1,sl af s2,.func (.func 74) [] []] (R s1 s2) (λr=>.bool r) []
abbrev kj:=(ah->ah->Option Bool)
abbrev oZ(R:kj):Prop:=∀(a:ah) (a2:ah),OV 100 [.agg (aj a),.agg (aj a2)] (R a a2) (λr=>.bool r) []
noncomputable def Sl:Code:=f127.body.getD .skip
theorem TG:ZF Pg [17] 127 f127 Sl:=zf call127 func127 rfl mixed
section
variable(R48:kj)(v:waD)(v2:waD)(t14:Int)(t15:Int)
def ms:az:=cc 30 [(0,sl aj v),(1,sl aj v2),(2,.func (.func 100) [] []),(14,.int .i64 t14),(15,.int .i64 t15)] [] []
def sP(o:Unit⊕(Unit)):Exit:=match o with
 |(.inl _)=>.ret
 |(.inr _)=>.exit 0
def sQ(o:Unit⊕(Unit)):az:=match o with
 |(.inl o)=>cc 30 [(6,.bool false)] [] []
 |(.inr o)=>cc 30 [] [] []
def hZ:Option (Int⊕(Unit⊕(Unit))):=
 if decide (t15<t14)=true then
  (dn v t15).bind λx3=>
  (dn v2 t15).bind λx4=>
  (R48 x3 x4).bind λr5=>
  if(!r5)=true then
   some (.inr (.inl ()))
  else
   some (.inl (bw (t15+1)))
 else
  some (.inr (.inr ()))
def qf:Option (Unit⊕(Unit)):=loop (λ(zz:Int)=>hZ R48 v v2 t14 zz) t15
theorem y8(hR48:oZ R48):OL 0 (cA Sl 119) (hZ R48 v v2 t14 t15) (λ(zz:Int)=>ms v v2 t14 zz) sP sQ (ms v v2 t14 t15):=TG.l<|
 tF (tb λx3 bx3=>tb λx4 bx4=>tb λr5 br5=>tK [0,0,0,6,14,0,0,96,224,511,1023]<|tv (my.ia (k:=.i64) bx3)<|tv (yQ x3)<|tv (my.ia (k:=.i64) bx4)<|tv (yQ x4)<|bV (hR48 _ _ _ br5)<|tF tE<|tE)<|tE
theorem qM(hR48:oZ R48):OK 0 (.loop (cA Sl 119)) (qf R48 v v2 t14 t15) sP sQ (ms v v2 t14 t15):=Iy λ_=>y8 _ _ _ _ _ hR48
end
def rZ(R48:kj)(a:waD)(a2:waD):Option Bool:=
 if((a.length:Int)!=(a2.length:Int))=true then
  some false
 else
  (qf R48 a a2 (a.length:Int) 0).bind λo7=>match o7 with
  |(.inl o7)=>
   some false
  |(.inr o7)=>
   some true
theorem FF(R48:kj)(hR48:oZ R48){a:waD}{a2:waD}:OV 127 [sl aj a,sl aj a2,.func (.func 100) [] []] (rZ R48 a a2) (λr=>.bool r) []:=TG.v<|
 cE (my.ln a)<|cE (my.ln a2)<|tF tE<|cE (my.ln a)<|t2 (λo7 bo7=>eo (qM R48 a a2 (a.length:Int) 0 hR48 _ bo7)<|tE) λo7 bo7=>eo (qM R48 a a2 (a.length:Int) 0 hR48 _ bo7)<|tE
noncomputable def Vo:Code:=f100.body.getD .skip
theorem Vf:ZF Pg [] 100 f100 Vo:=zf call100 func100 rfl mixed
def pO(R48:kj)(a:ah)(a2:ah):Option Bool:=
 if (a.Op == a2.Op) = true then
  if(a.Name==a2.Name)=true then
   if(a.N==a2.N)=true then
    (rZ R48 a.Kids a2.Kids).bind λr7=>
    some r7
   else
    some false
  else
   some false
 else
  some false
theorem FE(R48:kj)(hR48:oZ R48){a:ah}{a2:ah}:OV 100 [.agg (aj a),.agg (aj a2)] (pO R48 a a2) (λr=>.bool r) []:=Vf.v<|
 te (Jt a)<|te (Jt a2)<|have pp2:=λ{X Y Z} (r:PV _ X Y Z)=>tw (oe a)<|tw (oe a2)<|r;tf (λc1=>have pp4:=λ{X Y Z} (r:PV _ X Y Z)=>pp2<|tg 6 c1<|tw (iR a)<|tw (iR a2)<|r;tf (λc3=>have pp6:=λ{X Y Z} (r:PV _ X Y Z)=>pp4<|tg 13 c3<|tw (pB a)<|tw (pB a2)<|r;tf (λc5=>tb λr7 br7=>pp6<|tg 20 c5<|tw (gR a)<|tw (gR a2)<|bV (FF R48 hR48 _ br7)<|tE) λc5=>pp6<|tg 20 c5<|tE) λc3=>pp4<|tg 13 c3<|tE) λc1=>pp2<|tg 6 c1<|tE
def uX:((ah×ah)->Option Bool)->(ah×ah)->Option Bool:=λ(rec:(ah×ah)->Option Bool) (x:ah×ah)=>pO (λa a2=>rec (a,a2)) x.1 x.2
def vU(a:ah)(a2:ah):Option Bool:=oc uX (a,a2)
theorem y7{a:ah}{a2:ah}:OV 100 [.agg (aj a),.agg (aj a2)] (vU a a2) (λr=>.bool r) []:=pM λ_ h=>
 cV (F:=uX) (M:=λ(x:ah×ah) (r:Bool)=>CC Pg GE 100 [.agg (aj x.1),.agg (aj x.2)] (.bool r) []) (λrec hrec x r h=>FE _ (λa a2=>pM λr h=>hrec (a,a2) r h) _ h) h
noncomputable def Sk:Code:=f101.body.getD .skip
theorem TE:ZF Pg [19] 101 f101 Sk:=zf call101 func101 rfl mixed
section
variable(s2:waD)(t15:waD)(t16:Int)(t17:Int)
def eC:az:=cc 32 [(1,sl aj s2),(2,.func (.func 100) [] []),(15,sl aj t15),(16,.int .i64 t16),(17,.int .i64 t17)] [] []
def kw(o:Unit⊕(Unit)):Exit:=match o with
 |(.inl _)=>.ret
 |(.inr _)=>.exit 0
def gB(o:Unit⊕(Unit)):az:=match o with
 |(.inl o)=>cc 32 [(6,.bool false)] [] []
 |(.inr o)=>cc 32 [] [] []
instance iS_slices_EqualFunc_2_L1:KS 0 (eC s2 t15 t16 t17):=ks 0 rfl
instance iO_slices_EqualFunc_2_L1{o:Unit⊕(Unit)}:KS 0 (gB o):=match o with
 |(.inl o)=>ks 0 rfl
 |(.inr o)=>ks 0 rfl
def cF:Option (Int⊕(Unit⊕(Unit))):=
 if decide (t17<t16)=true then
  (dn t15 t17).bind λx3=>
  (dn s2 t17).bind λx4=>
  (vU x3 x4).bind λr5=>
  if(!r5)=true then
   some (.inr (.inl ()))
  else
   some (.inl (bw (t17+1)))
 else
  some (.inr (.inr ()))
def iD:Option (Unit⊕(Unit)):=loop (λ(zz:Int)=>cF s2 t15 t16 zz) t17
theorem oU:OL 0 (cA Sk 119) (cF s2 t15 t16 t17) (λ(zz:Int)=>eC s2 t15 t16 zz) kw gB (eC s2 t15 t16 t17):=TE.lx<|
 tF (tb λx3 bx3=>tb λx4 bx4=>tb λr5 br5=>tv (my.ia (k:=.i64) bx3)<|tv (yQ x3)<|tx Uv<|tx (GO x3)<|tv (my.ia (k:=.i64) bx4)<|tv (yQ x4)<|tx Uv<|tx (GO x4)<|tv (Gz x3 [])<|tv (Gz x4 [])<|bV (y7 _ br5)<|tF tE<|tE)<|tE
theorem jR:OK 0 (.loop (cA Sk 119)) (iD s2 t15 t16 t17) kw gB (eC s2 t15 t16 t17):=Iy λ_=>oU _ _ _ _
end
def gX(s1:waD)(s2:waD):Option Bool:=
 if((s1.length:Int)!=(s2.length:Int))=true then
  some false
 else
  (iD s2 s1 (s1.length:Int) 0).bind λo7=>match o7 with
  |(.inl o7)=>
   some false
  |(.inr o7)=>
   some true
theorem tD{s1:waD}{s2:waD}:OV 101 [sl aj s1,sl aj s2,.func (.func 100) [] []] (gX s1 s2) (λr=>.bool r) []:=TE.v<|
 cE (my.ln s1)<|cE (my.ln s2)<|tF tE<|cE (my.ln s1)<|t2 (λo7 bo7=>eo (jR s2 s1 (s1.length:Int) 0 _ bo7)<|tE) λo7 bo7=>eo (jR s2 s1 (s1.length:Int) 0 _ bo7)<|tE
noncomputable def XL:Code:=f74.body.getD .skip
theorem Xv:ZF Pg [] 74 f74 XL:=zf call74 func74 rfl mixed
def fJ(R46:cd)(a:ae)(a2:ae):Option Bool:=
 if (a.Op == a2.Op) = true then
  if (a.Name == a2.Name) = true then
   (jq a.Names a2.Names).bind λr5=>
   if r5=true then
    (vU a.Pred a2.Pred).bind λr8=>
    if r8=true then
     (gX a.Preds a2.Preds).bind λr11=>
     if r11=true then
      (R46 a.Args a2.Args).bind λr14=>
      some r14
     else
      some false
    else
     some false
   else
    some false
  else
   some false
 else
  some false
theorem oF(R46:cd)(hR46:dt R46){a:ae}{a2:ae}:OV 74 [.agg (af a),.agg (af a2)] (fJ R46 a a2) (λr=>.bool r) []:=Xv.v<|
 te (kH a)<|te (kH a2)<|have pp2:=λ{X Y Z} (r:PV _ X Y Z)=>tw (df a)<|tw (df a2)<|r;tf (λc1=>have pp4:=λ{X Y Z} (r:PV _ X Y Z)=>pp2<|tg 6 c1<|tw (cz a)<|tw (cz a2)<|r;tf (λc3=>tb λr5 br5=>have pp7:=λ{X Y Z} (r:PV _ X Y Z)=>pp4<|tg 13 c3<|tw (gS a)<|tw (gS a2)<|bV (mC _ br5)<|r;tf (λc6=>tb λr8 br8=>have pp10:=λ{X Y Z} (r:PV _ X Y Z)=>pp7<|tg 20 c6<|tw (gT a)<|tw (gT a2)<|bV (y7 _ br8)<|r;tf (λc9=>tb λr11 br11=>have pp13:=λ{X Y Z} (r:PV _ X Y Z)=>pp10<|tg 27 c9<|tw (gU a)<|tw (gU a2)<|bV (tD _ br11)<|r;tf (λc12=>tb λr14 br14=>pp13<|tg 34 c12<|tw (bo a)<|tw (bo a2)<|bV (hR46 _ _ _ br14)<|tE) λc12=>pp13<|tg 34 c12<|tE) λc9=>pp10<|tg 27 c9<|tE) λc6=>pp7<|tg 20 c6<|tE) λc3=>pp4<|tg 13 c3<|tE) λc1=>pp2<|tg 6 c1<|tE
noncomputable def VA:Code:=f73.body.getD .skip
theorem WJ:ZF Pg [19] 73 f73 VA:=zf call73 func73 rfl mixed
section
variable(R46:cd)(s2:waB)(t15:waB)(t16:Int)(t17:Int)
def cU:az:=cc 32 [(1,sl af s2),(2,.func (.func 74) [] []),(15,sl af t15),(16,.int .i64 t16),(17,.int .i64 t17)] [] []
def gE(o:Unit⊕(Unit)):Exit:=match o with
 |(.inl _)=>.ret
 |(.inr _)=>.exit 0
def ed(o:Unit⊕(Unit)):az:=match o with
 |(.inl o)=>cc 32 [(6,.bool false)] [] []
 |(.inr o)=>cc 32 [] [] []
instance iS_slices_EqualFunc_sameType_L1:KS 0 (cU s2 t15 t16 t17):=ks 0 rfl
instance iO_slices_EqualFunc_sameType_L1{o:Unit⊕(Unit)}:KS 0 (ed o):=match o with
 |(.inl o)=>ks 0 rfl
 |(.inr o)=>ks 0 rfl
def bQ:Option (Int⊕(Unit⊕(Unit))):=
 if decide (t17<t16)=true then
  (dn t15 t17).bind λx3=>
  (dn s2 t17).bind λx4=>
  (fJ R46 x3 x4).bind λr5=>
  if(!r5)=true then
   some (.inr (.inl ()))
  else
   some (.inl (bw (t17+1)))
 else
  some (.inr (.inr ()))
def eM:Option (Unit⊕(Unit)):=loop (λ(zz:Int)=>bQ R46 s2 t15 t16 zz) t17
theorem kQ(hR46:dt R46):OL 0 (cA VA 119) (bQ R46 s2 t15 t16 t17) (λ(zz:Int)=>cU s2 t15 t16 zz) gE ed (cU s2 t15 t16 t17):=WJ.lx<|
 tF (tb λx3 bx3=>tb λx4 bx4=>tb λr5 br5=>tv (fe.ia (k:=.i64) bx3)<|tv (fT x3)<|tx AN<|tx (jn x3)<|tv (fe.ia (k:=.i64) bx4)<|tv (fT x4)<|tx AN<|tx (jn x4)<|tv (fH x3 [])<|tv (fH x4 [])<|bV (oF R46 hR46 _ br5)<|tF tE<|tE)<|tE
theorem f0(hR46:dt R46):OK 0 (.loop (cA VA 119)) (eM R46 s2 t15 t16 t17) gE ed (cU s2 t15 t16 t17):=Iy λ_=>kQ _ _ _ _ _ hR46
end
def du(R46:cd)(s1:waB)(s2:waB):Option Bool:=
 if((s1.length:Int)!=(s2.length:Int))=true then
  some false
 else
  (eM R46 s2 s1 (s1.length:Int) 0).bind λo7=>match o7 with
  |(.inl o7)=>
   some false
  |(.inr o7)=>
   some true
theorem mn(R46:cd)(hR46:dt R46){s1:waB}{s2:waB}:OV 73 [sl af s1,sl af s2,.func (.func 74) [] []] (du R46 s1 s2) (λr=>.bool r) []:=WJ.v<|
 cE (fe.ln s1)<|cE (fe.ln s2)<|tF tE<|cE (fe.ln s1)<|t2 (λo7 bo7=>eo (f0 R46 s2 s1 (s1.length:Int) 0 hR46 _ bo7)<|tE) λo7 bo7=>eo (f0 R46 s2 s1 (s1.length:Int) 0 hR46 _ bo7)<|tE
def eQ:((waB×waB)->Option Bool)->(waB×waB)->Option Bool:=λ(rec:(waB×waB)->Option Bool) (x:waB×waB)=>du (λs1 s2=>rec (s1,s2)) x.1 x.2
def cr(s1:waB)(s2:waB):Option Bool:=oc eQ (s1,s2)
theorem ie{s1:waB}{s2:waB}:OV 73 [sl af s1,sl af s2,.func (.func 74) [] []] (cr s1 s2) (λr=>.bool r) []:=pM λ_ h=>
 cV (F:=eQ) (M:=λ(x:waB×waB) (r:Bool)=>CC Pg GE 73 [sl af x.1,sl af x.2,.func (.func 74) [] []] (.bool r) []) (λrec hrec x r h=>mn _ (λs1 s2=>pM λr h=>hrec (s1,s2) r h) _ h) h
end Go.Proofs.YtjddnhkahpfhdaaGreatDoor
