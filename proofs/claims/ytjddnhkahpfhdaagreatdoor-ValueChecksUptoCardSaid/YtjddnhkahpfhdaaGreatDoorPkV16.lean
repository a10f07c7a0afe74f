/- PROVED: a part of the proof. Conditions: none. -/
import Derived.Test.YtjddnhkahpfhdaaGreatDoorPkV15
set_option linter.unusedSimpArgs false
set_option linter.unusedVariables false
noncomputable section
namespace Go.Proofs.YtjddnhkahpfhdaaGreatDoor
open Go Go.RowKit Go.Proofs.Tryz
set_option linter.unusedVariables false
set_option linter.unusedSimpArgs false
set_option maxRecDepth 100000
def Qz(f:aa->aa->Bool):List aa->List aa->Bool
 |[],[]=>true
 |x::l,y::r=>f x y&&Qz f l r
 |_,_=>false
def Ur:Nat->aa->aa->Bool
 |0,_,_=>false
 |k+1,x,y=>x.Op==y.Op&&x.N==y.N&&x.Name==y.Name&&x.Params.isEmpty&&y.Params.isEmpty&&x.Body.isEmpty&&y.Body.isEmpty&&x.Binds.isEmpty&&y.Binds.isEmpty&&Qz (Ur k) x.Kids y.Kids
theorem Ep{f:aa->aa->Bool}(hf:∀x y,f x y=true->x=y):∀l r,Qz f l r=true->l=r
 |[],[],_=>rfl
 |[],_::_,h=>by cases h
 |_::_,[],h=>by cases h
 |x::l,y::r,h=>by
  simp only[Qz,vae]at h
  rw[hf x y h.1,Ep hf l r h.2]
theorem Hl:∀k x y,Ur k x y=true->x=y
 |0,_,_,h=>by cases h
 | k + 1,x,y,h => by
  simp only[Ur,vae,vaY,vb3]at h
  obtain⟨⟨⟨⟨⟨⟨⟨⟨⟨h1,h2⟩,h3⟩,h4⟩,h5⟩,h6⟩,h7⟩,h8⟩,h9⟩,h10⟩:=h
  have h11:=Ep (Hl k) _ _ h10
  have g5:x.Params=y.Params:=h4.trans h5.symm
  have g6:x.Body=y.Body:=h6.trans h7.symm
  have g7:x.Binds=y.Binds:=h8.trans h9.symm
  clear h4 h5 h6 h7 h8 h9 h10
  cases x with
  | mk a1 a2 a3 a4 a5 a6 a7 => cases y with
   |mk b1 b2 b3 b4 b5 b6 b7=>
    have h1:a1=b1:=h1
    have h2:a2=b2:=h2
    have h3:a3=b3:=h3
    have h11:a4=b4:=h11
    have g5:a5=b5:=g5
    have g6:a6=b6:=g6
    have g7:a7=b7:=g7
    rw[h1,h2,h3,h11,g5,g6,g7]
instance eqVi:SoundEq aa:=⟨Ur 1000,Hl 1000⟩
def Fp(m:al)(R:ae->Int->fe->Option (List aa×fe))(t:ae)(size:Int)(K:fe):Option (List aa×fe):=
 (yM t).bind λtx=>(Jk tx [32]).bind λk1=>(u9 size).bind λnt=>(Jk k1 nt).bind λkey=>match sa K key with
  |some l=>if l.length<=2000 then some (l,K)else none
  |none=>(Sn m R t size K).bind λo=>(Ft qq o.1).bind λl=>some (l.take 2000,IN o.2 key (l.take 2000))
def Fq(m:al):Nat->ae->Int->fe->Option (List aa×fe)
 |0,_,_,_=>none
 |k+1,t,size,K=>Fp m (Fq m k) t size K
theorem LO{m:al}:∀{k:Nat} {t:ae} {n:Int} {K:fe} {r:List aa×fe},Fq m k t n K=some r->r.1.length<=2000
 |0,_,_,_,_,h=>by cases h
 | k + 1,t,n,K,r,h => by
  unfold Fq Fp at h
  obtain⟨_,_,h⟩:=A6 h
  obtain⟨_,_,h⟩:=A6 h
  obtain⟨_,_,h⟩:=A6 h
  obtain⟨key,_,h⟩:=A6 h
  split at h
  ·split at h
   ·cases h;assumption
   ·cases h
  ·obtain⟨o,_,h⟩:=A6 h
   obtain⟨l,_,h⟩:=A6 h
   cases h
   simp only[vaU];omega
theorem SA:Oa Pg Ww (Pg.cellsOf eV):=PK Tryz.sf99 rfl rfl (by kernel_rfl) (by kernel_rfl) call99
section
variable{mb:Nat}{K:fe}{o:List aa×fe}{key:ai}{v:Value}{Γ Γ':ay}{w w':World}{m:al}{t:ae}{size:Int}{nn:Nat}{a:Array Value}{ds:List Deferred}{R:ae->Int->fe->Option (List aa×fe)}{l:List aa}
theorem VP(hs:Ft qq o.1=some l)(hB:dJ GE Γ w)(hrow:fj Pg GE eV Γ w (pG ac o.1) o.1.length v)(g:Fr Γ w a (ji m mb t size [(7,.str key),(10,.val v)])):(NL Kn false).wpIn Fence.wide nn Pg (λe a' w'=>e=.normal/\a'.defers=ds/\∃Γ',Mv GE (λb=>v.ownBlock=some b) Γ w Γ' w'/\fj Pg GE eV Γ' w' (pG ac l) l.length v/\Fr Γ' w' a'.tmps (ji m mb t size [(7,.str key),(10,.val v)])) ⟨a,ds⟩ w:=by
 refine wpIn_region ?_
 rw[show List.range (bY Kn).size=[0,1] by kernel_rfl]
 refine bU (o:=bF Kn 0) (by kernel_rfl) (by kernel_rfl) (g.opS hB (d:=60) (p:=.val v) (by kernel_rfl) (by kernel_rfl) (by kernel_rfl) (by kernel_rfl) λa1 Γ1 w1 m1 g1=>?_)
 have q60:(Act.mk a1 ds).eval (.tmp 60)=v:=aP (g1.raw (by kernel_rfl))
 have hop:(bF Kn 1).op=.call {callee:=.value (.func Ww),args:=#[.tmp 60,.func Vq],argTypes:=Kt (bF Kn 1)}:=by kernel_rfl
 refine bU (o:=bF Kn 1) (by kernel_rfl) (by kernel_rfl) (Id hop (by kernel_rfl) call99 (by
  have e:(#[.tmp 60,.func Vq]:Array Operand).map (Act.mk a1 ds).eval=#[v,.func (.func Vq) #[] #[]]:=by simp[q60];rfl
  rw[e];exact PL (GD:=P4) SA (λx y r hr=>An r hr) call20 Qy P6 bE.hc bE.hp bE.ho hs m1.base (hrow.mv m1 λb _=>id)) ?_)
 rintro e w2 ⟨rfl,m2,row2⟩
 refine⟨_,rfl,rfl,aV _ _ _,Γ1,(m1.mono (M:=λb=>v.ownBlock=some b) λb h=>h.elim).trans m2 λb h=>.inl h,row2,?_⟩
 rw[show(bF Kn 1).dst=some 61 by kernel_rfl]
 exact((g1.mv m2.le).set (d:=61) (p:=.val (.tuple #[])) (.val _)).forget (by kernel_rfl)
theorem VQ(hB:dJ GE Γ w)(hrow:fj Pg GE eV Γ w (pG ac l) l.length v)(hlen:l.length<=cz)(g:Fr Γ w a (ji m mb t size [(7,.str key),(10,.val v)])):(NL yE false).wpIn Fence.wide nn Pg (λe a' w'=>e=.normal/\a'.defers=ds/\∃Γ',Mv GE (λb=>v.ownBlock=some b) Γ w Γ' w'/\Fr Γ' w' a'.tmps (ji m mb t size [(7,.str key),(10,sl ac (l.take 2000))])) ⟨a,ds⟩ w:=by
 refine wpIn_region ?_
 rw[show List.range (bY yE).size=[0,1,2,3,4,5] by kernel_rfl]
 refine bU (o:=bF yE 0) (by kernel_rfl) (by kernel_rfl) (g.opS hB (d:=62) (p:=.val v) (by kernel_rfl) (by kernel_rfl) (by kernel_rfl) (by kernel_rfl) λa1 Γ1 w1 m1 g1=>?_)
 refine bU (o:=bF yE 1) (by kernel_rfl) (by kernel_rfl) (g1.opS m1.base (d:=63) (p:=.val v) (by kernel_rfl) (by kernel_rfl) (by kernel_rfl) (by kernel_rfl) λa2 Γ2 w2 m2 g2=>?_)
 have m02:Mv GE no Γ w Γ2 w2:=m1.trans m2 λb h=>.inl h
 have q63:(Act.mk a2 ds).eval (.tmp 63)=v:=aP (g2.raw (by kernel_rfl))
 have row2:=hrow.mv m02 λb _=>id
 have hrun:(execOp (Act.mk a2 ds).eval (bF yE 2)).run Pg w2=.ok (.value (.int .i64 (l.length:Int))) w2:=by
  have hop:(bF yE 2).op=.call {callee:=.builtin .len,args:=#[.tmp 63],argTypes:=#[tV]}:=by kernel_rfl
  rcases row2.form with⟨rfl,hz⟩|⟨g,cap,rfl⟩
  ·simp[execOp,hop,resolve,invoke,builtin,q63,Builtin.len_,run_underlying L8.u,goInt,hz]
  ·simp[execOp,hop,resolve,invoke,builtin,q63,Builtin.len_,run_underlying L8.u,goInt]
 refine bU (o:=bF yE 2) (by kernel_rfl) (by kernel_rfl) (cC (by kernel_rfl) hrun ?_)
 rw[show(bF yE 2).dst=some 64 by kernel_rfl]
 have g3:=g2.set (d:=64) (p:=.int .i64 (l.length:Int)) (.int _ _)
 refine bU (o:=bF yE 3) (by kernel_rfl) (by kernel_rfl) (g3.opS m02.base (d:=65) (p:=.int .i64 (if(2000:Int)<(l.length:Int)then 2000 else(l.length:Int))) (by kernel_rfl) (by kernel_rfl) (by kernel_rfl) (by kernel_rfl) λa4 Γ4 w4 m4 g4=>?_)
 have m04:Mv GE no Γ w Γ4 w4:=m02.trans m4 λb h=>.inl h
 have row4:=row2.mv m4 λb _=>id
 generalize hn:min l.length 2000=n
 have hnl:n<=l.length:=by omega
 have hni:(if(2000:Int)<(l.length:Int)then 2000 else(l.length:Int))=(n:Int):=by split<;>omega
 rw[hni]at g4
 have htk:l.take 2000=l.take n:=by
  by_cases h:l.length<=2000
  ·rw[show n=l.length by omega,List.take_of_length_le h,vbv]
  ·rw[show n=2000 by omega]
 have q62:(Act.mk a4 ds).eval (.tmp 62)=v:=aP (g4.raw (by kernel_rfl))
 have q65:(Act.mk a4 ds).eval (.tmp 65)=.int .i64 (n:Int):=by
  have:=g4.ev (t:=65) (p:=.int .i64 (n:Int)) (by kernel_rfl) ds
  generalize (Act.mk a4 ds).eval (.tmp 65)=q at this
  cases this;rfl
 obtain⟨hform,hfz⟩:=row4.freeze bE.hc bE.hp m04.base n hnl
 obtain⟨i0,z0,q1,q2,q3,q4,q5,q6⟩:=L8.get
 have hop:(bF yE 4).op=.slice tV (.tmp 62) none (some (.tmp 65)) none:=by kernel_rfl
 have hsl:∃u,(execOp (Act.mk a4 ds).eval (bF yE 4)).run Pg w4=.ok (.value u) w4/\u=Qv v n:=by
  rcases hform with⟨rfl,rfl⟩|⟨gg,cap,rfl,hcap⟩
  ·have hn0:n=0:=by simpa using hnl
   subst hn0
   have hsb:(Instr.sliceBounds true 0 0 none (some (.int .i64 ((0:Nat):Int))) none).run Pg w4=.ok (0,0,0) w4:=
    cM (Γ:=Γ4) (bs:=[]) (lo:=none) (hi:=some (.int .i64 ((0:Nat):Int))) rfl (by simp[wH]) (λp h=>by cases h) (λ_=>rfl) (λp h=>by cases h;exact⟨_,rfl,.int _ _⟩) (λh=>by cases h) (vaP _) (vaP _) (vaj _)
   have hsb:(Instr.sliceBounds true 0 0 none (some (.int .i64 0)) none).run Pg w4=.ok (0,0,0) w4:=hsb
   exact⟨_,by simp[execOp,hop,q62,q65,Instr.sliceAt,Instr.slice,run_underlying L8.u,hsb,run_sizeOf w4 q1,Addr.add,Qv],rfl⟩
  ·have hsb:(Instr.sliceBounds true l.length cap none (some (.int .i64 (n:Int))) none).run Pg w4=.ok (0,n,cap) w4:=
    cM (Γ:=Γ4) (bs:=[]) (lo:=none) (hi:=some (.int .i64 (n:Int))) rfl (by simp[wH]) (λp h=>by cases h) (λ_=>rfl) (λp h=>by cases h;exact⟨_,rfl,.int _ _⟩) (λh=>by cases h) (vaP _) hnl hcap
   exact⟨_,by simp[execOp,hop,q62,q65,Instr.sliceAt,Instr.slice,run_underlying L8.u,hsb,run_sizeOf w4 q1,Addr.add,Qv],rfl⟩
 obtain⟨u,hru,hu⟩:=hsl
 obtain⟨Γ5,m5,v5⟩:=hfz u hu
 refine bU (o:=bF yE 4) (by kernel_rfl) (by kernel_rfl) (cC (by kernel_rfl) hru ?_)
 rw[show(bF yE 4).dst=some 66 by kernel_rfl]
 have g5:=(g4.mv m5.le).set (d:=66) (p:=sl ac (l.take n)) v5
 refine bU (o:=bF yE 5) (by kernel_rfl) (by kernel_rfl) (g5.opS m5.base (d:=10) (p:=sl ac (l.take n)) (by kernel_rfl) (by kernel_rfl) (by kernel_rfl) (by kernel_rfl) λa6 Γ6 w6 m6 g6=>?_)
 refine⟨rfl,rfl,Γ6,((m04.mono (M:=λb=>v.ownBlock=some b) λb h=>h.elim).trans m5 λb h=>.inl h).trans m6 λb h=>h.elim,?_⟩
 rw[htk]
 exact g6.forget (by kernel_rfl)
theorem VS(hB:dJ GE Γ w)(hk:KM mb K Γ w)(g:Fr Γ w a (ji m mb t size [(7,.str key),(10,sl ac l)])):(NL GQ false).wpIn Fence.wide nn Pg (λe a' w'=>e=.normal/\a'.defers=ds/\∃Γ',Mv GE (λb=>b=mb) Γ w Γ' w'/\KM mb (IN K key l) Γ' w'/\Fr Γ' w' a'.tmps (bO 72 [(10,sl ac l)] [] []).tmps) ⟨a,ds⟩ w:=by
 refine wpIn_region ?_
 rw[show List.range (bY GQ).size=[0,1,2,3,4] by kernel_rfl]
 refine bU (o:=bF GQ 0) (by kernel_rfl) (by kernel_rfl) (g.opS hB (d:=67) (p:=.eptr [.val (.map (some mb))]) (by kernel_rfl) (by kernel_rfl) (by kernel_rfl) (by kernel_rfl) λa1 Γ1 w1 m1 g1=>?_)
 refine bU (o:=bF GQ 1) (by kernel_rfl) (by kernel_rfl) (g1.opS m1.base (d:=68) (p:=.val (.map (some mb))) (by kernel_rfl) (by kernel_rfl) (by kernel_rfl) (by kernel_rfl) λa2 Γ2 w2 m2 g2=>?_)
 refine bU (o:=bF GQ 2) (by kernel_rfl) (by kernel_rfl) (g2.opS m2.base (d:=69) (p:=.str key) (by kernel_rfl) (by kernel_rfl) (by kernel_rfl) (by kernel_rfl) λa3 Γ3 w3 m3 g3=>?_)
 refine bU (o:=bF GQ 3) (by kernel_rfl) (by kernel_rfl) (g3.opS m3.base (d:=70) (p:=sl ac l) (by kernel_rfl) (by kernel_rfl) (by kernel_rfl) (by kernel_rfl) λa4 Γ4 w4 m4 g4=>?_)
 have m04:Mv GE no Γ w Γ4 w4:=((m1.trans m2 λb h=>.inl h).trans m3 λb h=>.inl h).trans m4 λb h=>.inl h
 have q68:(Act.mk a4 ds).eval (.tmp 68)=.map (some mb):=aP (g4.raw (by kernel_rfl))
 have q69:=g4.ev (t:=69) (p:=.str key) (by kernel_rfl) ds
 have q70:=g4.ev (t:=70) (p:=sl ac l) (by kernel_rfl) ds
 obtain⟨w5,hrun,m5,k5⟩:=M9 m4.base (hk.mv m04 id) q69 q70
 refine bU (o:=bF GQ 4) (by kernel_rfl) (by kernel_rfl) (jT (by kernel_rfl) (w':=w5) (by simp[execOp,show(bF GQ 4).op=.mapUpdate tM (.tmp 68) (.tmp 69) (.tmp 70) by kernel_rfl,q68,hrun]) ?_)
 rw[show(bF GQ 4).dst=none by kernel_rfl]
 exact⟨rfl,rfl,Γ4,(m04.mono (M:=λb=>b=mb) λb h=>h.elim).trans m5 λb h=>.inl h,k5,(g4.mv m5.le).forget (by kernel_rfl)⟩
theorem X4(hB:dJ GE Γ w)(hk:KM mb K Γ w)(g:Fr Γ w a (ji m mb t size [(7,.str key)])):(NL MA false).wpIn Fence.wide nn Pg (λe a' w'=>e=.normal/\a'.defers=ds/\∃Γ',Mv GE no Γ w Γ' w'/\Fr Γ' w' a'.tmps (ji m mb t size [(7,.str key),(8,sl ac ((sa K key).getD [])),(9,.bool (sa K key).isSome)])) ⟨a,ds⟩ w:=by
 refine wpIn_region ?_
 rw[show List.range (bY MA).size=[0,1,2,3,4,5,6,7,8] by kernel_rfl]
 refine bU (o:=bF MA 0) (by kernel_rfl) (by kernel_rfl) (g.opS hB (d:=20) (p:=.eptr [.val (.map (some mb))]) (by kernel_rfl) (by kernel_rfl) (by kernel_rfl) (by kernel_rfl) λa1 Γ1 w1 m1 g1=>?_)
 refine bU (o:=bF MA 1) (by kernel_rfl) (by kernel_rfl) (g1.opS m1.base (d:=21) (p:=.val (.map (some mb))) (by kernel_rfl) (by kernel_rfl) (by kernel_rfl) (by kernel_rfl) λa2 Γ2 w2 m2 g2=>?_)
 refine bU (o:=bF MA 2) (by kernel_rfl) (by kernel_rfl) (g2.opS m2.base (d:=22) (p:=.str key) (by kernel_rfl) (by kernel_rfl) (by kernel_rfl) (by kernel_rfl) λa3 Γ3 w3 m3 g3=>?_)
 have m03:Mv GE no Γ w Γ3 w3:=(m1.trans m2 λb h=>.inl h).trans m3 λb h=>.inl h
 have q21:(Act.mk a3 ds).eval (.tmp 21)=.map (some mb):=aP (g3.raw (by kernel_rfl))
 have q22:=g3.ev (t:=22) (p:=.str key) (by kernel_rfl) ds
 obtain⟨u,hrun,hu⟩:=M8 m3.base (hk.mv m03 id) q22
 generalize (sa K key).getD []=l at hu
 generalize (sa K key).isSome=b at hu
 refine bU (o:=bF MA 3) (by kernel_rfl) (by kernel_rfl) (cC (by kernel_rfl) (v:=u) (w':=w3) (by simp[execOp,show(bF MA 3).op=.lookup tM (.tmp 21) (.tmp 22) true by kernel_rfl,q21,hrun]) ?_)
 rw[show(bF MA 3).dst=some 23 by kernel_rfl]
 have g4:=g3.set (d:=23) hu
 refine bU (o:=bF MA 4) (by kernel_rfl) (by kernel_rfl) (g4.opS m3.base (d:=19) (p:=.tuple [sl ac l,.bool b]) (by kernel_rfl) (by kernel_rfl) (by kernel_rfl) (by kernel_rfl) λa5 Γ5 w5 m5 g5=>?_)
 refine bU (o:=bF MA 5) (by kernel_rfl) (by kernel_rfl) (g5.opS m5.base (d:=24) (p:=sl ac l) (by kernel_rfl) (by kernel_rfl) (by kernel_rfl) (by kernel_rfl) λa6 Γ6 w6 m6 g6=>?_)
 refine bU (o:=bF MA 6) (by kernel_rfl) (by kernel_rfl) (g6.opS m6.base (d:=25) (p:=.bool b) (by kernel_rfl) (by kernel_rfl) (by kernel_rfl) (by kernel_rfl) λa7 Γ7 w7 m7 g7=>?_)
 refine bU (o:=bF MA 7) (by kernel_rfl) (by kernel_rfl) (g7.opS m7.base (d:=8) (p:=sl ac l) (by kernel_rfl) (by kernel_rfl) (by kernel_rfl) (by kernel_rfl) λa8 Γ8 w8 m8 g8=>?_)
 refine bU (o:=bF MA 8) (by kernel_rfl) (by kernel_rfl) (g8.opS m8.base (d:=9) (p:=.bool b) (by kernel_rfl) (by kernel_rfl) (by kernel_rfl) (by kernel_rfl) λa9 Γ9 w9 m9 g9=>?_)
 exact⟨rfl,rfl,Γ9,((((m03.trans m5 λb h=>.inl h).trans m6 λb h=>.inl h).trans m7 λb h=>.inl h).trans m8 λb h=>.inl h).trans m9 λb h=>.inl h,g9.forget (by kernel_rfl)⟩
theorem NP{r:List aa×fe}(hR:Od m R)(hlong:∀t n K r,R t n K=some r->r.1.length<4611686018427387904)(h:Fp m R t size K=some r)(hB:dJ GE Γ w)(hk:KM mb K Γ w){u0 u1:Value}(h0:VR Γ [] w (.agg (pY m mb)) u0)(h1:VR Γ [] w (.agg (af t)) u1):Calls Pg Rt #[u0,u1,.int .i64 size] w λe w'=>∃v Γ',e=.returned v/\Mv GE (λb=>b=mb) Γ w Γ' w'/\KM mb r.2 Γ' w'/\VR Γ' [] w' (sl ac r.1) v:=by
 refine callsIn_wide.1 (callsIn_of_wp (n:=0) func67 (c:=Qe) rfl vzz ?_)
 unfold Fp at h
 obtain⟨tx,e1,h⟩:=A6 h
 obtain⟨k1,e2,h⟩:=A6 h
 obtain⟨nt,e3,h⟩:=A6 h
 obtain⟨key,e4,h⟩:=A6 h
 have g0:Fr Γ w (#[u0,u1,.int .i64 size]++Array.replicate 69 undef) (bO 72 [(0,.agg (pY m mb)),(1,.agg (af t)),(2,.int .i64 size)] [] []).tmps:=by
  refine⟨by kernel_rfl,λk p u hp hu=>?_⟩
  have htm:(bO 72 [(0,.agg (pY m mb)),(1,.agg (af t)),(2,.int .i64 size)] [] []).tmps=[.agg (pY m mb),.agg (af t),.int .i64 size]++List.replicate 69 .undef:=by kernel_rfl
  rw[htm]at hp
  by_cases hk:k<3
  ·rw[vac (by simpa using hk)]at hp
   rw[vaS (by simpa using hk)]at hu
   match k,hk with
   |0,_=>simp at hp hu;subst hp;subst hu;exact h0
   |1,_=>simp at hp hu;subst hp;subst hu;exact h1
   |2,_=>simp at hp hu;subst hp;subst hu;exact .int _ _
  ·rw[vad (by simpa using hk),vaX]at hp
   split at hp<;>cases hp
   exact .undef u
 have fin:∀{a:Array Value} {Γ':ay} {w':World} {l:List aa} {K':fe},(l,K')=r->Mv GE (λb=>b=mb) Γ w Γ' w'->KM mb K' Γ' w'->Fr Γ' w' a (bO 72 [(6,sl ac l)] [] []).tmps->
   bodyPost Pg f67 (λe w'=>∃v Γ',e=.returned v/\Mv GE (λb=>b=mb) Γ w Γ' w'/\KM mb r.2 Γ' w'/\VR Γ' [] w' (sl ac r.1) v) .ret ⟨a,[]⟩ w':=λ{a Γ' w' l K'} hr hm hk' hf=>by
  subst hr
  obtain⟨u,q1,q2,_⟩:=qL (hf.sr (P:=Pg) hm.base 0) (fn:=f67) (r:=sl ac l) (by kernel_rfl)
  exact⟨rfl,u,q1,u,Γ',rfl,hm,hk',q2⟩
 show Qe.wpIn Fence.wide 0 Pg _ ⟨#[u0,u1,.int .i64 size]++Array.replicate 69 undef,[]⟩ w
 rw[RR]
 refine wpIn_seq (wpIn_mono (g0.piece0 (k:=0) (X2 m mb t size) hB (qe m mb t size (L:=[]) trivial) []) ?_)
 rintro e ⟨a1,ds1⟩ w1 ⟨rfl,rfl,Γ1,m1,g1⟩
 refine wpIn_seq (wpIn_mono (g1.piece0 (k:=0) (X3 m mb t size key e1 e2 e3 e4) m1.base (qe m mb t size ⟨vzz,vzz⟩) []) ?_)
 rintro e ⟨a2,ds2⟩ w2 ⟨rfl,rfl,Γ2,m2,g2⟩
 have m02:Mv GE no Γ w Γ2 w2:=m1.trans m2 λb h=>.inl h
 refine wpIn_seq (wpIn_seq (wpIn_mono (X4 m2.base (hk.mv m02 id) g2) ?_))
 rintro e ⟨a3,ds3⟩ w3 ⟨rfl,rfl,Γ3,m3,g3⟩
 have m03:Mv GE no Γ w Γ3 w3:=m02.trans m3 λb h=>.inl h
 refine wpIn_seq (wpIn_mono (g3.piece0 (k:=0) (X5 m mb t size key _ _) m3.base (qe m mb t size ⟨vzz,bB cQ _,vzz,vzz,vzz⟩) []) ?_)
 rintro e ⟨a4,ds4⟩ w4 ⟨rfl,rfl,Γ4,m4,g4⟩
 have m04:Mv GE no Γ w Γ4 w4:=m03.trans m4 λb h=>.inl h
 refine wpIn_cond (g4.evb (t:=26) (x:=(sa K key).isSome) (by kernel_rfl) []) ?_
 cases hg:sa K key with
 | some l =>
  rw[hg]at h g4
  simp only at h
  split at h
  rotate_left
  ·cases h
  refine wpIn_mono ((g4.forget (tm':=ji m mb t size [(7,.str key),(8,sl ac l)]) (by kernel_rfl)).piece0 (k:=0) (X6 m mb t size key l) m4.base (pD ⟨bB cQ l,vzz⟩) []) ?_
  rintro e ⟨a5,ds5⟩ w5 ⟨rfl,rfl,Γ5,m5,g5⟩
  have m05:Mv GE no Γ w Γ5 w5:=m04.trans m5 λb h=>.inl h
  exact fin (vat h) (m05.mono λb h=>h.elim) (hk.mv m05 id) g5
 | none =>
  rw[hg]at h g4
  simp only at h
  obtain⟨o,ho,h⟩:=A6 h
  obtain⟨l,hl,h⟩:=A6 h
  refine wpIn_skip ?_
  rw[T1]
  have g4':=g4.forget (tm':=ji m mb t size [(7,.str key)]) (by kernel_rfl)
  refine wpIn_seq (wpIn_region ?_)
  rw[show List.range (bY TX).size=[0] by kernel_rfl]
  have ec:(Act.mk a4 []).eval (.const (.slice none 0 0))=.slice none 0 0:=rfl
  refine bU (o:=bF TX 0) (by kernel_rfl) (by kernel_rfl) (cC (by kernel_rfl) (v:=.slice none 0 0) (w':=w4) (by simp[execOp,show(bF TX 0).op=.assign (.const (.slice none 0 0)) by kernel_rfl,ec]) ?_)
  rw[show(bF TX 0).dst=some 10 by kernel_rfl]
  have g5:=(g4'.set (d:=10) (p:=.val (.slice none 0 0)) (.val _)).forget (tm':=ji m mb t size [(7,.str key),(10,.val (.slice none 0 0))]) (by kernel_rfl)
  show(Code.seq (.seq Uw (.block 0 N3)) sY).wpIn Fence.wide 0 Pg _ ⟨a4.setIfInBounds 10 (.slice none 0 0),[]⟩ w4
  refine wpIn_seq (wpIn_mono (T7 hR hlong ho m4.base (hk.mv m04 id) g5) ?_)
  rintro e ⟨a6,ds6⟩ w6 ⟨rfl,hd6,Γ6,v6,m6,k6,row6,own6,g6⟩
  simp only at hd6;subst hd6
  have m06:Mv GE (λb=>b=mb) Γ w Γ6 w6:=(m04.mono (M:=λb=>b=mb) λb h=>h.elim).trans m6 λb h=>.inl h
  have nmb:¬v6.ownBlock=some mb:=λhx=>by
   have:=own6 mb hx
   have:=m04.size
   have:=hk.off.2.1
   omega
  obtain⟨hokS,hrl⟩:=Kq hl
  have hlen:l.length<=cz:=by rw[hrl];exact(ET hokS).1
  rw[T3]
  refine wpIn_seq (wpIn_mono (VP hl m6.base row6 g6) ?_)
  rintro e ⟨a7,ds7⟩ w7 ⟨rfl,hd7,Γ7,m7,row7,g7⟩
  simp only at hd7;subst hd7
  refine wpIn_seq (wpIn_mono (VQ m7.base row7 hlen g7) ?_)
  rintro e ⟨a8,ds8⟩ w8 ⟨rfl,hd8,Γ8,m8,g8⟩
  simp only at hd8;subst hd8
  have k8:=(k6.mv m7 nmb).mv m8 nmb
  refine wpIn_seq (wpIn_mono (VS m8.base k8 g8) ?_)
  rintro e ⟨a9,ds9⟩ w9 ⟨rfl,hd9,Γ9,m9,k9,g9⟩
  simp only at hd9;subst hd9
  have hown:∀b,v6.ownBlock=some b->b=mb\/w.heap.size<=b:=λb hb=>.inr (vax m04.size (own6 b hb))
  have m09:Mv GE (λb=>b=mb) Γ w Γ9 w9:=((m06.trans m7 hown).trans m8 hown).trans m9 λb h=>.inl h
  refine wpIn_mono (g9.piece0 (k:=0) (VT (l.take 2000)) m9.base (pD ⟨bB cQ _,vzz⟩) []) ?_
  rintro e ⟨a10,ds10⟩ w10 ⟨rfl,rfl,Γ10,m10,g10⟩
  exact fin (vat h) (m09.trans m10 λb h=>h.elim) (k9.mv m10 id) g10
end
theorem Of{Γ:ay}{w:World}{cs:List PVal}{mb:Nat}{v:Value}(hc:dO 0 cs)(h:VR Γ [some mb] w (.agg (cs++[.mapr 0])) v):VR Γ [] w (.agg (cs++[.val (.map (some mb))])) v:=by
 cases h with
 | agg _ vs hl hx =>
  refine .agg _ vs (by simpa using hl) λi p u hp hu=>?_
  by_cases hi:i<cs.length
  ·rw[vac hi]at hp
   exact(hx i p u (by rw[vac hi];exact hp) hu).clo (gz hc hp)
  ·rw[vad (by omega)]at hp
   have hi0:i - cs.length=0:=by have:=ah hp;simp at this;exact this
   rw[hi0]at hp
   simp at hp;subst hp
   have:=hx i (.mapr 0) u (by rw[vad (by omega),hi0];rfl) hu
   cases this with
   |mapr _ b hb=>
    simp at hb
    subst hb
    exact .val _
theorem Q7{m:al}{R:ae->Int->fe->Option (List aa×fe)}(hR:Od m R)(hlong:∀t n K r,R t n K=some r->r.1.length<4611686018427387904):Od m (Fp m R):=λt n K r h=>by
 refine⟨call67,λΓ bs ow w vs hS=>?_⟩
 have hB:dJ GE Γ w:=hS.base
 have hsz:vs.size=3:=hS.sz
 obtain⟨v0,v1,v2,rfl⟩:=S6 hsz
 have hbl:bs.length=1:=hS.bl
 obtain⟨x,rfl⟩:∃x,bs=[x]:=List.length_eq_one_iff.1 hbl
 have hv0:=hS.tm 0 _ v0 rfl rfl
 have hv1:=hS.tm 1 _ v1 rfl rfl
 have hv2:=hS.tm 2 _ v2 rfl rfl
 obtain⟨mb,rfl⟩:∃mb,x=some mb:=by
  cases hv0 with
  |agg _ vs hl hx=>
   have hlt:6<vs.size:=by rw[hl];simp[jP]
   have:=hx 6 (.mapr 0) vs[6] (by rw[vad (by rw[jP];decide),jP];rfl) (vaC hlt)
   generalize vs[6]=q at this
   cases this with
   |mapr _ b hb=>exact⟨b,by simpa using hb⟩
 cases hv2
 obtain⟨k1,k2,k3⟩:=hS.bx 0 mb _ rfl rfl
 have hTm:ch [some mb] ow mb:=.inl ⟨0,rfl⟩
 have hk:KM mb K Γ w:=⟨⟨k1,k2,λg cs hg e=>(hS.gx g cs hg).2.1 (e▸hTm)⟩,k3.down (KT _)⟩
 refine(NP hR hlong h hB hk (Of (rQ m) hv0) (hv1.clo (show dO 0 (af t)from dy t))).mono λe w' he=>?_
 obtain⟨v,Γ',rfl,hm,hk',hv⟩:=he
 have up:∀{p v},VR Γ' [] w' p v->VR Γ' [some mb] w' p v:=λh=>h.mono (.refl _ _) (λi b h=>by simp at h)
 refine⟨v,Γ',λ_=>none,rfl,{
  wi:=hm.base.wi
  sz:=rfl
  tm:=λi p u hp hu=>by
   match i with
   |0=>simp at hp hu;subst hp;subst hu;exact up hv
   |i+1=>simp at hp
  bl:=rfl
  bx:=λi b B hb hBx=>by
   cases i with
   |zero=>
    simp at hb hBx;subst hb;subst hBx
    exact⟨hk'.off.1,hk'.off.2.1,hk'.br.up⟩
   |succ i=>simp at hb
  inj:=λi j b hi hj=>by
   cases i<;>cases j<;>simp at hi hj ⊢
  bn:=λi b hb=>.inl (.inl ⟨i,hb⟩)
  on:=λb L hL=>by cases hL
  ot:=λt k e he=>by simp at he
  ob:=λi j e cs own b hBx=>by
   cases i<;>simp at hBx
  gl:=λg cs hg=>up (hm.base.gl g cs hg)
  gc:=hm.base.gc
  gx:=hS.gx
  step:={hm.step with
   keep:=λb hb hn=>hm.step.keep b hb λe=>hn (by have e:b=mb:=e;rw[e];exact hTm)}}⟩
theorem Kp(m:al):∀k,Od m (Fq m k)
 |0=>λt n K r h=>by cases h
 |k+1=>Q7 (Kp m k) λt n K r h=>by have:=LO h;omega
instance iqV{α:Type}{c:α->List PVal}[q:KE c]:KF (sl c):=⟨λl=>bB q.h l⟩
def CB(m:List aN)(m3:List dg)(m4:List bD)(m5:List bT)(m6:List eP)(m7:List fJ)(t:ae)(n:Int)(K:fe):Option (List aa×fe):=Fq ⟨m,m3,m4,m5,m6,m7⟩ (n.toNat+1) t n K
theorem FO{m:List aN}{m3:List dg}{m4:List bD}{m5:List bT}{m6:List eP}{m7:List fJ}{t:ae}{n:Int}{K:fe}{r:List aa×fe}(h:CB m m3 m4 m5 m6 m7 t n K=some r):C Pg GE Rt [.agg [sl ax m,sl bV m3,sl aO m4,sl aZ m5,sl ca m6,sl bN m7,.mapr 0],.agg (af t),.int .i64 n] [] [.map (jo (sl ac) K)] (sl ac r.1) [] [.map (jo (sl ac) r.2)]:=Kp _ _ t n K r h
open Go Go.Proofs.Tryz
set_option linter.defProp false
abbrev lB:=(aa->Option aa)
abbrev qa(R:lB):Prop:=∀(v:aa),OV 69 [.agg (ac v)] (R v) (λr=>.agg (ac r)) [(3,36)]
noncomputable def Wn:Code:=f69.body.getD .skip
theorem We:ZF Pg [13,19] 69 f69 Wn:=zf call69 func69 rfl mixed
section
variable(R33:lB)(t7:waC)(t8:Int)(m:Int)(m2:Int)(m3:ai)(m4:waA)(m5:waG)(m6:waI)(m7:waC)(m8:waG)(m9:waI)(kids:waC)(t9:Int)
def lk:az:=bO 22 [(1,.bptr 0 0),(2,.bptr 1 0),(3,sl ac kids),(7,sl ac t7),(8,.int .i64 t8),(9,.int .i64 t9)] [.cells [.int .i64 m,.int .i64 m2,.str m3,sl ac t7,sl cS m4,sl ak m5,sl aW m6] [],.cells [.int .i64 0,.int .i64 0,.str ([]:ai),sl ac m7,sl cS ([]:List ai),sl ak m8,sl aW m9] [(3,36),(4,9),(5,52),(6,113)]] [((3,0),36)]
def rh(o:waC):az:=bO 22 [(1,.bptr 0 0),(2,.bptr 1 0),(3,sl ac o)] [.cells [.int .i64 m,.int .i64 m2,.str m3,sl ac t7,sl cS m4,sl ak m5,sl aW m6] [],.cells [.int .i64 0,.int .i64 0,.str ([]:ai),sl ac m7,sl cS ([]:List ai),sl ak m8,sl aW m9] [(3,36),(4,9),(5,52),(6,113)]] [((3,0),36)]
instance iS_value_clone_L1:KS 0 (lk t7 t8 m m2 m3 m4 m5 m6 m7 m8 m9 kids t9):=ks 2 rfl
instance iO_value_clone_L1{o:waC}:KS 0 (rh t7 m m2 m3 m4 m5 m6 m7 m8 m9 o):=ks 2 rfl
def re:Option ((waC×Int)⊕(waC)):=
 if decide (t9<t8)=true then
  (cH t7 t9).bind λx2=>
  (R33 x2).bind λr3=>
  (app kids ([r3]:List aa)).bind λl4=>
  some (.inl (l4,bw (t9+1)))
 else
  some (.inr kids)
def FL:Option waC:=loop (λ(zz:waC×Int)=>re R33 t7 t8 zz.1 zz.2) (kids,t9)
theorem yU(hR33:qa R33):OL 0 (cA Wn 119) (re R33 t7 t8 kids t9) (λ(zz:waC×Int)=>lk t7 t8 m m2 m3 m4 m5 m6 m7 m8 m9 zz.1 zz.2) (λ_=>.exit 0) (rh t7 m m2 m3 m4 m5 m6 m7 m8 m9) (lk t7 t8 m m2 m3 m4 m5 m6 m7 m8 m9 kids t9):=We.lx<|
 tF (tb λx2 bx2=>tb λr3 br3=>tb λl4 bl4=>tv (bE.ia (k:=.i64) bx2)<|tv (aB x2)<|tx zX<|tx (eC x2)<|tv (aM x2 [])<|bP (hR33 _ _ br3)<|tv (bE.mk' (v:=oN) kZ ([r3]:List aa) 1 (by kernel_rfl))<|tv (bE.ap bl4)<|tE)<|tE
def AB(hR33:qa R33):=vd (s:=(kids,t9)) λzz=>yU R33 t7 t8 m m2 m3 m4 m5 m6 m7 m8 m9 zz.1 zz.2 hR33
end
def xH(R33:lB)(v:aa):Option aa:=
 (FL R33 v.Kids (v.Kids.length:Int) ([]:List aa) 0).bind λo5=>
 some (⟨v.Op,v.N,v.Name,o5,v.Params,v.Body,v.Binds⟩:aa)
theorem Dq(R33:lB)(hR33:qa R33){v:aa}:OV 69 [.agg (ac v)] (xH R33 v) (λr=>.agg (ac r)) [(3,36)]:=We.va<|
 tb λo5 bo5=>Yd (eC v) rfl<|tx zX<|ts<|ck (bE.ln v.Kids)<|dn (AB R33 v.Kids (v.Kids.length:Int) v.Op v.N v.Name v.Params v.Body v.Binds ([]:List aa) ([]:List aq) ([]:List aD) ([]:List aa) 0 hR33 _ bo5)<|tz (aM (⟨v.Op,v.N,v.Name,o5,v.Params,v.Body,v.Binds⟩:aa) [])<|ty (bz (⟨v.Op,v.N,v.Name,o5,v.Params,v.Body,v.Binds⟩:aa))<|GT λq=>aI (Fj (⟨v.Op,v.N,v.Name,o5,v.Params,v.Body,v.Binds⟩:aa)) q.2
def xI:(aa->Option aa)->(aa)->Option aa:=λ(rec:aa->Option aa) (x:aa)=>xH (λv=>rec v) x
def Cz(v:aa):Option aa:=kT xI v
theorem FM{v:aa}:OV 69 [.agg (ac v)] (Cz v) (λr=>.agg (ac r)) [(3,36)]:=mP λ_ h=>
 ct (F:=xI) (M:=λ(x:aa) (r:aa)=>CC Pg GE 69 [.agg (ac x)] (.agg (ac r)) [(3,36)]) (λrec hrec x r h=>Dq _ (λv=>mP λr h=>hrec v r h) _ h) h
noncomputable def Ul:Code:=f27.body.getD .skip
theorem Ui:ZF Pg [31,51,57] 27 f27 Ul:=zf call27 func27 rfl mixed
section
variable(size:Int)(most:Int)(t:ae)(out:waC)(n:Int)(m2:(List (ai×waC)))(m:(List aN))(m3:(List dg))(m4:(List bD))(m5:(List bT))(m6:(List eP))(m7:waH)
def xE:Option Bool:=
 if decide (n<=(if 7<size then 7 else size))=true then
  some (decide ((out.length:Int)<(if 2000<most then 2000 else most)))
 else
  some false
theorem BJ:OU 0 (cA Ul 988) (xE size most out n) .normal (λo=>[(28,.bool o)]) (bO 58 [(2,.int .i64 size),(3,.int .i64 most),(5,.eptr (af t)),(9,.bptr 3 0),(10,sl ac out),(11,.int .i64 n)] [.dead,.dead,.map (jo (sl ac) m2),.cells [sl ax m,sl bV m3,sl aO m4,sl aZ m5,sl ca m6,sl bN m7,.mapr 2] []] [((10,0),36)]):=Ui.j<|
 tf (λc1=>tg 5 c1<|ck (bE.ln out)<|tE) λc1=>tg 5 c1<|tE
end
section
variable(size:Int)(most:Int)(t:ae)(m:(List aN))(m3:(List dg))(m4:(List bD))(m5:(List bT))(m6:(List eP))(m7:waH)(out:waC)(n:Int)(m2:(List (ai×waC)))
def tq:az:=bO 58 [(2,.int .i64 size),(3,.int .i64 most),(5,.eptr (af t)),(9,.bptr 3 0),(10,sl ac out),(11,.int .i64 n)] [.dead,.dead,.map (jo (sl ac) m2),.cells [sl ax m,sl bV m3,sl aO m4,sl aZ m5,sl ca m6,sl bN m7,.mapr 2] []] [((10,0),36)]
def Dn(o:waC×(List (ai×waC))):az:=bO 58 [(3,.int .i64 most),(10,sl ac o.1)] [.dead,.dead,.map (jo (sl ac) o.2),.cells [sl ax m,sl bV m3,sl aO m4,sl aZ m5,sl ca m6,sl bN m7,.mapr 2] []] [((10,0),36)]
def tt:Option ((waC×Int×(List (ai×waC)))⊕((waC×(List (ai×waC))))):=
 (xE size most out n).bind λo2=>
 if o2=true then
  (Cy t).bind λr4=>
  (CB m m3 m4 m5 m6 m7 r4 n m2).bind λr5=>
  (app out r5.1).bind λl6=>
  some (.inl (l6,bw (n+1),r5.2))
 else
  some (.inr (out,m2))
def GY:Option ((waC×(List (ai×waC)))):=loop (λ(zz:waC×Int×(List (ai×waC)))=>tt size most t m m3 m4 m5 m6 m7 zz.1 zz.2.1 zz.2.2) (out,n,m2)
theorem Ao:OL 0 (cA Ul 247) (tt size most t m m3 m4 m5 m6 m7 out n m2) (λ(zz:waC×Int×(List (ai×waC)))=>tq size most t m m3 m4 m5 m6 m7 zz.1 zz.2.1 zz.2.2) (λ_=>.exit 0) (Dn most m m3 m4 m5 m6 m7) (tq size most t m m3 m4 m5 m6 m7 out n m2):=Ui.l<|
 tb λo2 bo2=>qT 1<|dn (BJ size most t out n m2 m m3 m4 m5 m6 m7 _ bo2)<|tF (tb λr4 br4=>tb λr5 br5=>tb λl6 bl6=>Yb (.dx [0,0,0,4,0,30,63,127] [] [] [19,289])<|tv (show aG Pg 135 [sl ax m,sl bV m3,sl aO m4,sl aZ m5,sl ca m6,sl bN m7,.mapr 2]=some (.agg [sl ax m,sl bV m3,sl aO m4,sl aZ m5,sl ca m6,sl bN m7,.mapr 2]) by kernel_rfl)<|tv (cw t)<|bP (Fy _ br4)<|tc [2] (FO br5)<|tv (bE.ap bl6)<|tE)<|tE
def BK:=vd (s:=(out,n,m2)) λzz=>Ao size most t m m3 m4 m5 m6 m7 zz.1 zz.2.1 zz.2.2
end
section
variable(t45:waC)(t46:Int)(m2:(List (ai×waC)))(m:(List aN))(m3:(List dg))(m4:(List bD))(m5:(List bT))(m6:(List eP))(m7:waH)(copies:waC)(t47:Int)
def mC:az:=bO 58 [(12,sl ac copies),(45,sl ac t45),(46,.int .i64 t46),(47,.int .i64 t47)] [.dead,.dead,.map (jo (sl ac) m2),.cells [sl ax m,sl bV m3,sl aO m4,sl aZ m5,sl ca m6,sl bN m7,.mapr 2] []] [((12,0),36)]
def tA(o:waC):az:=bO 58 [(12,sl ac o)] [.dead,.dead,.map (jo (sl ac) m2),.cells [sl ax m,sl bV m3,sl aO m4,sl aZ m5,sl ca m6,sl bN m7,.mapr 2] []] [((12,0),36)]
instance iS_value_Enum_L3:KS 0 (mC t45 t46 m2 m m3 m4 m5 m6 m7 copies t47):=ks 4 rfl
instance iO_value_Enum_L3{o:waC}:KS 0 (tA m2 m m3 m4 m5 m6 m7 o):=ks 4 rfl
def tu:Option ((waC×Int)⊕(waC)):=
 if decide (t47<t46)=true then
  (cH t45 t47).bind λx10=>
  (Cz x10).bind λr11=>
  (app copies ([r11]:List aa)).bind λl12=>
  some (.inl (l12,bw (t47+1)))
 else
  some (.inr copies)
def GZ:Option waC:=loop (λ(zz:waC×Int)=>tu t45 t46 zz.1 zz.2) (copies,t47)
theorem Ap:OL 0 (cA Ul 2039) (tu t45 t46 copies t47) (λ(zz:waC×Int)=>mC t45 t46 m2 m m3 m4 m5 m6 m7 zz.1 zz.2) (λ_=>.exit 2) (tA m2 m m3 m4 m5 m6 m7) (mC t45 t46 m2 m m3 m4 m5 m6 m7 copies t47):=Ui.lx<|
 tF (tb λx10 bx10=>tb λr11 br11=>tb λl12 bl12=>tv (bE.ia (k:=.i64) bx10)<|tv (aB x10)<|tx zX<|tx (eC x10)<|tv (aM x10 [])<|bP (FM _ br11)<|tv (bE.mk' (v:=oN) kZ ([r11]:List aa) 1 (by kernel_rfl))<|tv (bE.ap bl12)<|tE)<|tE
def BL:=vd (s:=(copies,t47)) λzz=>Ap t45 t46 m2 m m3 m4 m5 m6 m7 zz.1 zz.2
end
def yP(m:al)(t:ae)(size:Int)(most:Int):Option waC:=
 (GY size most t m.Datas m.Classes m.Instances m.Measures m.Quals m.Defs ([]:List aa) 1 ([]:List (ai×waC))).bind λo7=>
 (T9 o7.1 none (some (if(if 2000<(if most<(o7.1.length:Int)then most else(o7.1.length:Int))then 2000 else(if most<(o7.1.length:Int)then most else(o7.1.length:Int)))>0 then(if 2000<(if most<(o7.1.length:Int)then most else(o7.1.length:Int))then 2000 else(if most<(o7.1.length:Int)then most else(o7.1.length:Int)))else 0))).bind λl8=>
 (GZ l8 (l8.length:Int) ([]:List aa) 0).bind λo13=>
 some o13
theorem xF{m:al}{t:ae}{size:Int}{most:Int}:OV 27 [.agg (am m),.agg (af t),.int .i64 size,.int .i64 most] (yP m t size most) (λr=>sl ac r) [(0,36)]:=Ui.v<|
 tb λo7 bo7=>tb λl8 bl8=>tb λo13 bo13=>te (de m)<|te (eZ t)<|tv (bh m)<|tv (show dp Pg 135 [(0,.agg (am m)),(1,.mapr 2)]=some (.agg [sl ax m.Datas,sl bV m.Classes,sl aO m.Instances,sl aZ m.Measures,sl ca m.Quals,sl bN m.Defs,.mapr 2]) by kernel_rfl)<|tx TN<|tx (XV [sl ax m.Datas,sl bV m.Classes,sl aO m.Instances,sl aZ m.Measures,sl ca m.Quals,sl bN m.Defs,.mapr 2])<|dn (BK size most t m.Datas m.Classes m.Instances m.Measures m.Quals m.Defs ([]:List aa) 1 ([]:List (ai×waC)) _ bo7)<|ck (bE.ln o7.1)<|tv (bE.sc bl8)<|ck (bE.ln l8)<|dn (BL l8 (l8.length:Int) o7.2 m.Datas m.Classes m.Instances m.Measures m.Quals m.Defs ([]:List aa) 0 _ bo13)<|tE
abbrev gW:=(al->aa->Option Int)
abbrev ll(R:gW):Prop:=∀(m:al) (v:aa),OV 13 [.agg (am m),.agg (ac v)] (R m v) (λr=>.int .i64 r) []
noncomputable def Xl:Code:=f36.body.getD .skip
theorem WY:ZF Pg [31] 36 f36 Xl:=zf call36 func36 rfl mixed
def vR(m:al)(v:aa):Option (ae×Bool):=
 if(v.Op==1)=true then
  some ((⟨1,([]:ai),([]:List ae),([]:List ai),(⟨0,([]:ai),0,([]:List ag)⟩:ag),([]:List ag)⟩:ae),true)
 else if(v.Op==2)=true then
  some ((⟨2,([]:ai),([]:List ae),([]:List ai),(⟨0,([]:ai),0,([]:List ag)⟩:ag),([]:List ag)⟩:ae),true)
 else if(v.Op==4)=true then
  some ((⟨3,([]:ai),([]:List ae),([]:List ai),(⟨0,([]:ai),0,([]:List ag)⟩:ag),([]:List ag)⟩:ae),true)
 else
  (fG m v.Name).bind λr4=>
  some ((⟨4,r4.1.Name,([]:List ae),([]:List ai),(⟨0,([]:ai),0,([]:List ag)⟩:ag),([]:List ag)⟩:ae),r4.2.2)
theorem CA{m:al}{v:aa}:OV 36 [.agg (am m),.agg (ac v)] (vR m v) (λr=>.tuple [.agg (af r.1),.bool r.2]) []:=WY.v<|
 te (de m)<|te (cD v)<|tx tK<|tw (aJ v)<|tF (AD (iy 1) (iw 1)<|ty (aR (⟨1,([]:ai),([]:List ae),([]:List ai),(⟨0,([]:ai),0,([]:List ag)⟩:ag),([]:List ag)⟩:ae))<|GT λq=>aI (vbj PVal.tuple (eL (eT (⟨1,([]:ai),([]:List ae),([]:List ai),(⟨0,([]:ai),0,([]:List ag)⟩:ag),([]:List ag)⟩:ae)) (eL (rP (.bool true)) (rfl:([]:List PVal)=[])))) q.2)<|tF (AD (iy 2) (iw 2)<|ty (aR (⟨2,([]:ai),([]:List ae),([]:List ai),(⟨0,([]:ai),0,([]:List ag)⟩:ag),([]:List ag)⟩:ae))<|GT λq=>aI (vbj PVal.tuple (eL (eT (⟨2,([]:ai),([]:List ae),([]:List ai),(⟨0,([]:ai),0,([]:List ag)⟩:ag),([]:List ag)⟩:ae)) (eL (rP (.bool true)) (rfl:([]:List PVal)=[])))) q.2)<|tF (AD (iy 3) (iw 3)<|ty (aR (⟨3,([]:ai),([]:List ae),([]:List ai),(⟨0,([]:ai),0,([]:List ag)⟩:ag),([]:List ag)⟩:ae))<|GT λq=>aI (vbj PVal.tuple (eL (eT (⟨3,([]:ai),([]:List ae),([]:List ai),(⟨0,([]:ai),0,([]:List ag)⟩:ag),([]:List ag)⟩:ae)) (eL (rP (.bool true)) (rfl:([]:List PVal)=[])))) q.2)<|tb λr4 br4=>tv (bh m)<|tw (bH v)<|bP (jw _ br4)<|tx By<|tx (eS r4.1)<|ts<|AD (nh 4 r4.1.Name) (ng 4 r4.1.Name)<|ty (aR (⟨4,r4.1.Name,([]:List ae),([]:List ai),(⟨0,([]:ai),0,([]:List ag)⟩:ag),([]:List ag)⟩:ae))<|GT λq=>aI (vbj PVal.tuple (eL (eT (⟨4,r4.1.Name,([]:List ae),([]:List ai),(⟨0,([]:ai),0,([]:List ag)⟩:ag),([]:List ag)⟩:ae)) (eL (rP (.bool r4.2.2)) (rfl:([]:List PVal)=[])))) q.2
abbrev nc:=(ae->ae->Option Bool)
abbrev rr(R:nc):Prop:=∀(a:ae) (a2:ae),OV 47 [.agg (af a),.agg (af a2)] (R a a2) (λr=>.bool r) []
noncomputable def Uo:Code:=f47.body.getD .skip
theorem UN:ZF Pg [32] 47 f47 Uo:=zf call47 func47 rfl mixed
section
variable(v:ae)(v2:ae)
def qn:Option Bool:=
 if(v.Op !=v2.Op)=true then
  some true
 else if(!(v.Name==v2.Name))=true then
  some true
 else
  some ((v.Args.length:Int)!=(v2.Args.length:Int))
theorem BF:OU 0 (cA Uo 12) (qn v v2) .normal (λo=>[(26,.bool o)]) (bO 46 [(2,.eptr (af v)),(3,.eptr (af v2))] [.dead,.dead] []):=UN.j<|
 have pp2:=λ{X Y Z} (r:PV _ X Y Z)=>tw (bW v)<|tw (bW v2)<|r;tf (λc1=>pp2<|tg 6 c1<|tE) λc1=>have pp4:=λ{X Y Z} (r:PV _ X Y Z)=>pp2<|tg 6 c1<|tw (bM v)<|tw (bM v2)<|r;tf (λc3=>pp4<|tg 13 c3<|tE) λc3=>pp4<|tg 13 c3<|tw (aL v)<|ck (dl.ln v.Args)<|tw (aL v2)<|ck (dl.ln v2.Args)<|tE
end
section
variable(R38:nc)(v:ae)(v2:ae)(t29:Int)(t30:Int)
def my:az:=bO 46 [(2,.eptr (af v)),(3,.eptr (af v2)),(29,.int .i64 t29),(30,.int .i64 t30)] [.dead,.dead] []
def ta(o:Unit⊕(Unit)):Exit:=match o with
 |(.inl _)=>.ret
 |(.inr _)=>.exit 0
def td(o:Unit⊕(Unit)):az:=match o with
 |(.inl o)=>bO 46 [(4,.bool false)] [.dead,.dead] []
 |(.inr o)=>bO 46 [] [.dead,.dead] []
def jE:Option (Int⊕(Unit⊕(Unit))):=
 if decide (t30<t29)=true then
  (cH v.Args t30).bind λx8=>
  (cH v2.Args t30).bind λx9=>
  (R38 x8 x9).bind λr10=>
  if(!r10)=true then
   some (.inr (.inl ()))
  else
   some (.inl (bw (t30+1)))
 else
  some (.inr (.inr ()))
def qo:Option (Unit⊕(Unit)):=loop (λ(zz:Int)=>jE R38 v v2 t29 zz) t30
theorem Ac(hR38:rr R38):OL 0 (cA Uo 119) (jE R38 v v2 t29 t30) (λ(zz:Int)=>my v v2 t29 zz) ta td (my v v2 t29 t30):=UN.l<|
 tF (tb λx8 bx8=>tb λx9 bx9=>tb λr10 br10=>oY [0,1,0,7,15,0,32,0,224,480,1023,2047]<|tw (aL v)<|tv (dl.ia (k:=.i64) bx8)<|tv (cw x8)<|tw (aL v2)<|tv (dl.ia (k:=.i64) bx9)<|tv (cw x9)<|bP (hR38 _ _ _ br10)<|tF tE<|tE)<|tE
theorem qX(hR38:rr R38):OK 0 (.loop (cA Uo 119)) (qo R38 v v2 t29 t30) ta td (my v v2 t29 t30):=DF λ_=>Ac _ _ _ _ _ hR38
end
def ny(R38:nc)(a:ae)(a2:ae):Option Bool:=
 (qn a a2).bind λo5=>
 if o5=true then
  some false
 else
  (qo R38 a a2 (a.Args.length:Int) 0).bind λo12=>match o12 with
  |(.inl o12)=>
   some false
  |(.inr o12)=>
   some true
theorem FA(R38:nc)(hR38:rr R38){a:ae}{a2:ae}:OV 47 [.agg (af a),.agg (af a2)] (ny R38 a a2) (λr=>.bool r) []:=UN.v<|
 tb λo5 bo5=>te (eZ a)<|te (eZ a2)<|qT 1<|dn (BF a a2 _ bo5)<|tF tE<|tw (aL a)<|ck (dl.ln a.Args)<|t2 (λo12 bo12=>dn (qX R38 a a2 (a.Args.length:Int) 0 hR38 _ bo12)<|tE) λo12 bo12=>dn (qX R38 a a2 (a.Args.length:Int) 0 hR38 _ bo12)<|tE
def sA:((ae×ae)->Option Bool)->(ae×ae)->Option Bool:=λ(rec:(ae×ae)->Option Bool) (x:ae×ae)=>ny (λa a2=>rec (a,a2)) x.1 x.2
def sy(a:ae)(a2:ae):Option Bool:=kT sA (a,a2)
theorem xC{a:ae}{a2:ae}:OV 47 [.agg (af a),.agg (af a2)] (sy a a2) (λr=>.bool r) []:=mP λ_ h=>
 ct (F:=sA) (M:=λ(x:ae×ae) (r:Bool)=>CC Pg GE 47 [.agg (af x.1),.agg (af x.2)] (.bool r) []) (λrec hrec x r h=>FA _ (λa a2=>mP λr h=>hrec (a,a2) r h) _ h) h
noncomputable def UX:Code:=f38.body.getD .skip
theorem V3:ZF Pg [44,52] 38 f38 UX:=zf call38 func38 rfl mixed
section
variable(R35:gW)(m:al)(fields:waB)(t40:waC)(t41:Int)(m2:ai)(m3:waA)(m4:waD)(m5:waE)(t42:Int)
def jF:az:=bO 67 [(2,.eptr (am m)),(8,sl af fields),(40,sl ac t40),(41,.int .i64 t41),(42,.int .i64 t42)] [.dead,.dead,.cells [.str m2,sl cS m3,sl bG m4,sl aF m5] []] []
def tD(o:Int⊕(Unit)):Exit:=match o with
 |(.inl _)=>.ret
 |(.inr _)=>.exit 0
def mH(o:Int⊕(Unit)):az:=match o with
 |(.inl o)=>bO 67 [(4,.int .i64 o)] [.dead,.dead,.cells [.str m2,sl cS m3,sl bG m4,sl aF m5] []] []
 |(.inr o)=>bO 67 [] [.dead,.dead,.cells [.str m2,sl cS m3,sl bG m4,sl aF m5] []] []
instance iS_value_data_L1:KS 0 (jF m fields t40 t41 m2 m3 m4 m5 t42):=ks 3 rfl
instance iO_value_data_L1{o:Int⊕(Unit)}:KS 0 (mH m2 m3 m4 m5 o):=match o with
 |(.inl o)=>ks 3 rfl
 |(.inr o)=>ks 3 rfl
def fw:Option (Int⊕(Int⊕(Unit))):=
 if decide (t42<t41)=true then
  (cH t40 t42).bind λx7=>
  (R35 m x7).bind λr8=>
  if(r8 !=0)=true then
   some (.inr (.inl r8))
  else
   (vR m x7).bind λr10=>
   (cH fields t42).bind λx11=>
   (sy r10.1 x11).bind λr12=>
   if(!r12)=true then
    some (.inr (.inl 12))
   else
    some (.inl (bw (t42+1)))
 else
  some (.inr (.inr ()))
def qv:Option (Int⊕(Unit)):=loop (λ(zz:Int)=>fw R35 m fields t40 t41 zz) t42
theorem AC(hR35:ll R35):OL 0 (cA UX 2039) (fw R35 m fields t40 t41 t42) (λ(zz:Int)=>jF m fields t40 t41 m2 m3 m4 m5 zz) tD (mH m2 m3 m4 m5) (jF m fields t40 t41 m2 m3 m4 m5 t42):=V3.lx<|
 tF (tb λx7 bx7=>tb λr8 br8=>tv (bE.ia (k:=.i64) bx7)<|tv (aB x7)<|tx zX<|tx (eC x7)<|tv (bh m)<|tv (aM x7 [])<|bP (hR35 _ _ _ br8)<|tF tE<|tb λr10 br10=>tb λx11 bx11=>tb λr12 br12=>tv (bh m)<|tv (aM x7 [])<|bP (CA _ br10)<|tx tK<|tx (fu r10.1)<|oY [0,0,0,6,14,31,63]<|tv (cx r10.1 [])<|tv (dl.ia (k:=.i64) bx11)<|tv (cw x11)<|bP (xC _ br12)<|tF tE<|tE)<|tE
theorem ri(hR35:ll R35):OK 0 (.loop (cA UX 2039)) (qv R35 m fields t40 t41 t42) tD (mH m2 m3 m4 m5) (jF m fields t40 t41 m2 m3 m4 m5 t42):=DF λ_=>AC _ _ _ _ _ _ _ _ _ _ hR35
end
def sF(R35:gW)(m:al)(v:aa):Option Int:=
 if(v.N !=0)=true then
  some 1
 else
  (fG m v.Name).bind λr2=>
  if(!r2.2.2)=true then
   some 5
  else
   (cH r2.1.Cons r2.2.1).bind λx4=>
   if((x4.Fields.length:Int)!=(v.Kids.length:Int))=true then
    some 13
   else
    (qv R35 m x4.Fields v.Kids (v.Kids.length:Int) 0).bind λo14=>match o14 with
    |(.inl o14)=>
     some o14
    |(.inr o14)=>
     some 0
theorem G2(R35:gW)(hR35:ll R35){m:al}{v:aa}:OV 38 [.agg (am m),.agg (ac v)] (sF R35 m v) (λr=>.int .i64 r) []:=V3.v<|
 te (de m)<|te (cD v)<|tw (aC v)<|tF tE<|tb λr2 br2=>tv (bh m)<|tw (bH v)<|bP (jw _ br2)<|tx By<|tx (eS r2.1)<|tF tE<|tb λx4 bx4=>ts<|tv (Dj.ia (k:=.i64) bx4)<|tw (km x4)<|ck (dl.ln x4.Fields)<|tw (aU v)<|ck (bE.ln v.Kids)<|tF tE<|tw (aU v)<|ck (bE.ln v.Kids)<|t2 (λo14 bo14=>dn (ri R35 m x4.Fields v.Kids (v.Kids.length:Int) r2.1.Name r2.1.Vars r2.1.Preds r2.1.Cons 0 hR35 _ bo14)<|tE) λo14 bo14=>dn (ri R35 m x4.Fields v.Kids (v.Kids.length:Int) r2.1.Name r2.1.Vars r2.1.Preds r2.1.Cons 0 hR35 _ bo14)<|tE
noncomputable def Xn:Code:=f39.body.getD .skip
theorem W0:ZF Pg [] 39 f39 Xn:=zf call39 func39 rfl mixed
def IR(n:Int):Option Bool:=
 if decide (n>=(-1000000000000))=true then
  some (decide (n<=1000000000000))
 else
  some false
theorem Nk{n:Int}:OV 39 [.int .i64 n] (IR n) (λr=>.bool r) []:=W0.v<|
 tf (λc1=>tg 3 c1<|tE) λc1=>tg 3 c1<|tE
noncomputable def SL:Code:=f13.body.getD .skip
theorem SJ:ZF Pg [] 13 f13 SL:=zf call13 func13 rfl mixed
section
variable(m:al)(v:aa)
def oO:Option Bool:=
 if decide (v.Op<1)=true then
  some true
 else
  some (decide (v.Op>5))
theorem Ai:OU 0 (cA SL 26) (oO v) .normal (λo=>[(5,.bool o)]) (bO 70 [(2,.eptr (am m)),(3,.eptr (ac v))] [.dead,.dead] []):=SJ.j<|
 have pp2:=λ{X Y Z} (r:PV _ X Y Z)=>tw (aJ v)<|r;tf (λc1=>pp2<|tg 4 c1<|tE) λc1=>pp2<|tg 4 c1<|tw (aJ v)<|tE
end
section
variable(m:al)(v:aa)
def oP:Option Bool:=
 if decide ((v.Params.length:Int)>0)=true then
  some true
 else if decide ((v.Body.length:Int)>0)=true then
  some true
 else
  some (decide ((v.Binds.length:Int)>0))
theorem Aj:OU 0 (cA SL 446) (oP v) .normal (λo=>[(18,.bool o)]) (bO 70 [(2,.eptr (am m)),(3,.eptr (ac v))] [.dead,.dead] []):=SJ.j<|
 have pp7:=λ{X Y Z} (r:PV _ X Y Z)=>tw (eI v)<|ck (lY.ln v.Params)<|r;tf (λc6=>pp7<|tg 5 c6<|tE) λc6=>have pp9:=λ{X Y Z} (r:PV _ X Y Z)=>pp7<|tg 5 c6<|tw (cy v)<|ck (yF.ln v.Body)<|r;tf (λc8=>pp9<|tg 11 c8<|tE) λc8=>pp9<|tg 11 c8<|tw (cU v)<|ck (GR.ln v.Binds)<|tE
end
section
variable(v:aa)
def oQ:Option Bool:=
 if(!(v.Name==([]:ai)))=true then
  some true
 else
  some (decide ((v.Kids.length:Int)>0))
theorem Ak:OU 0 (cA SL 7166) (oQ v) .normal (λo=>[(42,.bool o)]) (bO 70 [(3,.eptr (ac v))] [.dead,.dead] []):=SJ.j<|
 have pp15:=λ{X Y Z} (r:PV _ X Y Z)=>tw (bH v)<|r;tf (λc14=>pp15<|tg 4 c14<|tE) λc14=>pp15<|tg 4 c14<|tw (aU v)<|ck (bE.ln v.Kids)<|tE
end
section
variable(v:aa)
def oT:Option Bool:=
 if(v.Op==2)=true then
  if(v.N !=0)=true then
   some (v.N !=1)
  else
   some false
 else
  some false
theorem Am:OU 0 (cA SL 57340) (oT v) .normal (λo=>[(52,.bool o)]) (bO 70 [(3,.eptr (ac v))] [.dead,.dead] []):=SJ.j<|
 have pp19:=λ{X Y Z} (r:PV _ X Y Z)=>tw (aJ v)<|r;tf (λc18=>have pp21:=λ{X Y Z} (r:PV _ X Y Z)=>pp19<|tg 4 c18<|tw (aC v)<|r;tf (λc20=>pp21<|tg 9 c20<|tw (aC v)<|tE) λc20=>pp21<|tg 9 c20<|tE) λc18=>pp19<|tg 4 c18<|tE
end
section
variable(v:aa)
def oR:Option Bool:=
 (oT v).bind λo22=>
 if o22=true then
  some o22
 else
  (IR v.N).bind λr24=>
  some (!r24)
theorem Al:OU 0 (cA SL 28670) (oR v) .normal (λo=>[(3,.undef),(52,.bool o)]) (bO 70 [(3,.eptr (ac v))] [.dead,.dead] []):=SJ.j<|
 tb λo22 bo22=>qT 0<|dn (Am v _ bo22)<|tF tE<|tb λr24 br24=>tw (aC v)<|bP (Nk _ br24)<|tE
end
def lI(R35:gW)(m:al)(v:aa):Option Int:=
 (oO v).bind λo3=>
 if o3=true then
  some 1
 else if(v.Op==5)=true then
  some 12
 else
  (oP v).bind λo10=>
  if o10=true then
   some 1
  else if(v.Op==3)=true then
   (sF R35 m v).bind λr13=>
   some r13
  else
   (oQ v).bind λo16=>
   if o16=true then
    some 1
   else
    (oR v).bind λo25=>
    if o25=true then
     some 2
    else
     some 0
theorem Dm(R35:gW)(hR35:ll R35){m:al}{v:aa}:OV 13 [.agg (am m),.agg (ac v)] (lI R35 m v) (λr=>.int .i64 r) []:=SJ.v<|
 tb λo3 bo3=>te (de m)<|te (cD v)<|qT 1<|dn (Ai m v _ bo3)<|tF tE<|tw (aJ v)<|tF tE<|tb λo10 bo10=>qT 0<|dn (Aj m v _ bo10)<|tF tE<|tw (aJ v)<|tF (tb λr13 br13=>tv (bh m)<|tv (aB v)<|bP (G2 R35 hR35 _ br13)<|tE)<|tb λo16 bo16=>qT 0<|dn (Ak v _ bo16)<|tF tE<|tb λo25 bo25=>qT 0<|dn (Al v _ bo25)<|tF tE<|tE
def qp:((al×aa)->Option Int)->(al×aa)->Option Int:=λ(rec:(al×aa)->Option Int) (x:al×aa)=>lI (λm v=>rec (m,v)) x.1 x.2
def ma(m:al)(v:aa):Option Int:=kT qp (m,v)
theorem cX{m:al}{v:aa}:OV 13 [.agg (am m),.agg (ac v)] (ma m v) (λr=>.int .i64 r) []:=mP λ_ h=>
 ct (F:=qp) (M:=λ(x:al×aa) (r:Int)=>CC Pg GE 13 [.agg (am x.1),.agg (ac x.2)] (.int .i64 r) []) (λrec hrec x r h=>Dm _ (λm v=>mP λr h=>hrec (m,v) r h) _ h) h
noncomputable def Xf:Code:=f11.body.getD .skip
theorem WS:ZF Pg [] 11 f11 Xf:=zf call11 func11 rfl mixed
def lj(m:al)(v:aa):Option (ae×Bool):=
 (ma m v).bind λr1=>
 if(r1 !=0)=true then
  some ((⟨0,([]:ai),([]:List ae),([]:List ai),(⟨0,([]:ai),0,([]:List ag)⟩:ag),([]:List ag)⟩:ae),false)
 else
  (vR m v).bind λr3=>
  some (r3.1,r3.2)
theorem qt{m:al}{v:aa}:OV 11 [.agg (am m),.agg (ac v)] (lj m v) (λr=>.tuple [.agg (af r.1),.bool r.2]) []:=WS.v<|
 tb λr1 br1=>te (de m)<|te (cD v)<|tx tK<|tv (bh m)<|tv (aB v)<|bP (cX _ br1)<|tF (AD (Ef) (Ee)<|ty (aR (⟨0,([]:ai),([]:List ae),([]:List ai),(⟨0,([]:ai),0,([]:List ag)⟩:ag),([]:List ag)⟩:ae))<|GT λq=>aI (vbj PVal.tuple (eL (eT (⟨0,([]:ai),([]:List ae),([]:List ai),(⟨0,([]:ai),0,([]:List ag)⟩:ag),([]:List ag)⟩:ae)) (eL (rP (.bool false)) (rfl:([]:List PVal)=[])))) q.2)<|tb λr3 br3=>tv (bh m)<|tv (aB v)<|bP (CA _ br3)<|tx (fu r3.1)<|GT λq=>aI (vbj PVal.tuple (eL (eT r3.1) (eL (rP (.bool r3.2)) (rfl:([]:List PVal)=[])))) q.2
abbrev nf:=(aa->Option ai)
abbrev rv(R:nf):Prop:=∀(v:aa),OV 24 [.agg (ac v)] (R v) (λr=>.str r) []
noncomputable def Wk:Code:=f24.body.getD .skip
theorem V2:ZF Pg [40] 24 f24 Wk:=zf call24 func24 rfl mixed
section
variable(R40:nf)(v:aa)(t34:waC)(t35:Int)(v2:waA)(t36:Int)
def mG:az:=bO 53 [(1,.eptr (ac v)),(3,sl cS v2),(34,sl ac t34),(35,.int .i64 t35),(36,.int .i64 t36)] [.dead] [((3,0),9)]
def tC(o:waA):az:=bO 53 [(1,.eptr (ac v)),(3,sl cS o)] [.dead] [((3,0),9)]
instance iS_value_Text_L1:KS 0 (mG v t34 t35 v2 t36):=ks 1 rfl
instance iO_value_Text_L1{o:waA}:KS 0 (tC v o):=ks 1 rfl
def tB:Option ((waA×Int)⊕(waA)):=
 if decide (t36<t35)=true then
  (cH t34 t36).bind λx12=>
  (R40 x12).bind λr13=>
  (app v2 ([r13]:List ai)).bind λl14=>
  some (.inl (l14,bw (t36+1)))
 else
  some (.inr v2)
def G1:Option waA:=loop (λ(zz:waA×Int)=>tB R40 t34 t35 zz.1 zz.2) (v2,t36)
theorem Ay(hR40:rv R40):OL 0 (cA Wk 458679) (tB R40 t34 t35 v2 t36) (λ(zz:waA×Int)=>mG v t34 t35 zz.1 zz.2) (λ_=>.exit 1) (tC v) (mG v t34 t35 v2 t36):=V2.lx<|
 tF (tb λx12 bx12=>tb λr13 br13=>tb λl14 bl14=>tv (bE.ia (k:=.i64) bx12)<|tv (aB x12)<|tx zX<|tx (eC x12)<|tv (aM x12 [])<|bP (hR40 _ _ br13)<|tv (TH [r13] 1 rfl)<|tv (lY.ap bl14)<|tE)<|tE
def BO(hR40:rv R40):=vd (s:=(v2,t36)) λzz=>Ay R40 v t34 t35 zz.1 zz.2 hR40
end
def Aw(R40:nf)(v:aa):Option ai:=
 if(v.Op==1)=true then
  (u9 v.N).bind λr2=>
  some r2
 else if(v.Op==2)=true then
  if(v.N !=0)=true then
   some SF
  else
   some Rg
 else if(v.Op==4)=true then
  (u9 v.N).bind λr6=>
  (Jk Kw r6).bind λs7=>
  (Jk s7 RB).bind λs8=>
  some s8
 else if(v.Op==3)=true then
  if((v.Kids.length:Int)==0)=true then
   some v.Name
  else
   (G1 R40 v.Kids (v.Kids.length:Int) ([]:List ai) 0).bind λo15=>
   (Jk v.Name P0).bind λs16=>
   (OP o15 P1).bind λr17=>
   (Jk s16 r17).bind λs18=>
   (Jk s18 RB).bind λs19=>
   some s19
 else
  some Ud
theorem FH(R40:nf)(hR40:rv R40){v:aa}:OV 24 [.agg (ac v)] (Aw R40 v) (λr=>.str r) []:=V2.v<|
 te (cD v)<|tw (aJ v)<|tF (tb λr2 br2=>tw (aC v)<|bP (vb _ br2)<|tE)<|tF (tw (aC v)<|tF tE<|tE)<|tF (tb λr6 br6=>tb λs7 bs7=>tb λs8 bs8=>tw (aC v)<|bP (vb _ br6)<|tv (kD (P:=Pg) (t:=9) bs7)<|tv (kD (P:=Pg) (t:=9) bs8)<|tE)<|tF (tw (aU v)<|ck (bE.ln v.Kids)<|tF (tw (bH v)<|tE)<|tb λo15 bo15=>tb λs16 bs16=>tb λr17 br17=>tb λs18 bs18=>tb λs19 bs19=>tw (aU v)<|ck (bE.ln v.Kids)<|dn (BO R40 v v.Kids (v.Kids.length:Int) ([]:List ai) 0 hR40 _ bo15)<|oY [0,1,3,0,8,31,63,127]<|tw (bH v)<|tv (kD (P:=Pg) (t:=9) bs16)<|bP (OQ br17)<|tv (kD (P:=Pg) (t:=9) bs18)<|tv (kD (P:=Pg) (t:=9) bs19)<|tE)<|tE
def Ax:(aa->Option ai)->(aa)->Option ai:=λ(rec:aa->Option ai) (x:aa)=>Aw (λv=>rec v) x
def sE(v:aa):Option ai:=kT Ax v
theorem aS{v:aa}:OV 24 [.agg (ac v)] (sE v) (λr=>.str r) []:=mP λ_ h=>
 ct (F:=Ax) (M:=λ(x:aa) (r:ai)=>CC Pg GE 24 [.agg (ac x)] (.str r) []) (λrec hrec x r h=>FH _ (λv=>mP λr h=>hrec v r h) _ h) h
abbrev dw:=(aa->aa->Option Bool)
abbrev fx(R:dw):Prop:=∀(a:aa) (a2:aa),OV 18 [.agg (ac a),.agg (ac a2)] (R a a2) (λr=>.bool r) []
noncomputable def U0:Code:=f48.body.getD .skip
theorem V7:ZF Pg [19] 48 f48 U0:=zf call48 func48 rfl mixed
section
variable(R41:dw)(s2:waC)(t15:waC)(t16:Int)(t17:Int)
def fh:az:=bO 32 [(1,sl ac s2),(2,.func (.func 18) [] []),(15,sl ac t15),(16,.int .i64 t16),(17,.int .i64 t17)] [] []
def kJ(o:Unit⊕(Unit)):Exit:=match o with
 |(.inl _)=>.ret
 |(.inr _)=>.exit 0
def ib(o:Unit⊕(Unit)):az:=match o with
 |(.inl o)=>bO 32 [(6,.bool false)] [] []
 |(.inr o)=>bO 32 [] [] []
instance iS_slices_EqualFunc_L1:KS 0 (fh s2 t15 t16 t17):=ks 0 rfl
instance iO_slices_EqualFunc_L1{o:Unit⊕(Unit)}:KS 0 (ib o):=match o with
 |(.inl o)=>ks 0 rfl
 |(.inr o)=>ks 0 rfl
def kI:Option (Int⊕(Unit⊕(Unit))):=
 if decide (t17<t16)=true then
  (cH t15 t17).bind λx3=>
  (cH s2 t17).bind λx4=>
  (R41 x3 x4).bind λr5=>
  if(!r5)=true then
   some (.inr (.inl ()))
  else
   some (.inl (bw (t17+1)))
 else
  some (.inr (.inr ()))
def mQ:Option (Unit⊕(Unit)):=loop (λ(zz:Int)=>kI R41 s2 t15 t16 zz) t17
theorem qN(hR41:fx R41):OL 0 (cA U0 119) (kI R41 s2 t15 t16 t17) (λ(zz:Int)=>fh s2 t15 t16 zz) kJ ib (fh s2 t15 t16 t17):=V7.lx<|
 tF (tb λx3 bx3=>tb λx4 bx4=>tb λr5 br5=>tv (bE.ia (k:=.i64) bx3)<|tv (aB x3)<|tx zX<|tx (eC x3)<|tv (bE.ia (k:=.i64) bx4)<|tv (aB x4)<|tx zX<|tx (eC x4)<|tv (aM x3 [])<|tv (aM x4 [])<|bP (hR41 _ _ _ br5)<|tF tE<|tE)<|tE
theorem kA(hR41:fx R41):OK 0 (.loop (cA U0 119)) (mQ R41 s2 t15 t16 t17) kJ ib (fh s2 t15 t16 t17):=DF λ_=>qN _ _ _ _ _ hR41
end
def qM(R41:dw)(s1:waC)(s2:waC):Option Bool:=
 if((s1.length:Int)!=(s2.length:Int))=true then
  some false
 else
  (mQ R41 s2 s1 (s1.length:Int) 0).bind λo7=>match o7 with
  |(.inl o7)=>
   some false
  |(.inr o7)=>
   some true
theorem wI(R41:dw)(hR41:fx R41){s1:waC}{s2:waC}:OV 48 [sl ac s1,sl ac s2,.func (.func 18) [] []] (qM R41 s1 s2) (λr=>.bool r) []:=V7.v<|
 ck (bE.ln s1)<|ck (bE.ln s2)<|tF tE<|ck (bE.ln s1)<|t2 (λo7 bo7=>dn (kA R41 s2 s1 (s1.length:Int) 0 hR41 _ bo7)<|tE) λo7 bo7=>dn (kA R41 s2 s1 (s1.length:Int) 0 hR41 _ bo7)<|tE
noncomputable def U1:Code:=f49.body.getD .skip
theorem V8:ZF Pg [15] 49 f49 U1:=zf call49 func49 rfl mixed
section
variable(s1:waA)(s2:waA)(t12:Int)(t13:Int)
def kC:az:=bO 26 [(0,sl cS s1),(1,sl cS s2),(12,.int .i64 t12),(13,.int .i64 t13)] [] []
def pW(o:Unit⊕(Unit)):Exit:=match o with
 |(.inl _)=>.ret
 |(.inr _)=>.exit 0
def pX(o:Unit⊕(Unit)):az:=match o with
 |(.inl o)=>bO 26 [(4,.bool false)] [] []
 |(.inr o)=>bO 26 [] [] []
def pV:Option (Int⊕(Unit⊕(Unit))):=
 if decide (t13<t12)=true then
  (cH s1 t13).bind λx3=>
  (cH s2 t13).bind λx4=>
  if(!(x3==x4))=true then
   some (.inr (.inl ()))
  else
   some (.inl (bw (t13+1)))
 else
  some (.inr (.inr ()))
def sV:Option (Unit⊕(Unit)):=loop (λ(zz:Int)=>pV s1 s2 t12 zz) t13
theorem wJ:OL 0 (cA U1 119) (pV s1 s2 t12 t13) (λ(zz:Int)=>kC s1 s2 t12 zz) pW pX (kC s1 s2 t12 t13):=V8.l<|
 tF (tb λx3 bx3=>tb λx4 bx4=>oY [0,0,3,7,0,0,48,112,255]<|tv (lY.ia (k:=.i64) bx3)<|tv (yB T8 (.str x3) [])<|tv (lY.ia (k:=.i64) bx4)<|tv (yB T8 (.str x4) [])<|tF tE<|tE)<|tE
theorem oJ:OK 0 (.loop (cA U1 119)) (sV s1 s2 t12 t13) pW pX (kC s1 s2 t12 t13):=DF λ_=>wJ _ _ _ _
end
def nr(s1:waA)(s2:waA):Option Bool:=
 if((s1.length:Int)!=(s2.length:Int))=true then
  some false
 else
  (sV s1 s2 (s1.length:Int) 0).bind λo6=>match o6 with
  |(.inl o6)=>
   some false
  |(.inr o6)=>
   some true
theorem mr{s1:waA}{s2:waA}:OV 49 [sl cS s1,sl cS s2] (nr s1 s2) (λr=>.bool r) []:=V8.v<|
 ck (lY.ln s1)<|ck (lY.ln s2)<|tF tE<|ck (lY.ln s1)<|t2 (λo6 bo6=>dn (oJ s1 s2 (s1.length:Int) 0 _ bo6)<|tE) λo6 bo6=>dn (oJ s1 s2 (s1.length:Int) 0 _ bo6)<|tE
abbrev bL:=(waG->waG->Option Bool)
abbrev dh(R:bL):Prop:=∀(s1:waG) (s2:waG),OV 50 [sl ak s1,sl ak s2,.func (.func 51) [] []] (R s1 s2) (λr=>.bool r) []
abbrev eK:=(aq->aq->Option Bool)
abbrev jj(R:eK):Prop:=∀(a:aq) (a2:aq),OV 51 [.agg (ak a),.agg (ak a2)] (R a a2) (λr=>.bool r) []
abbrev cd:=(waB->waB->Option Bool)
abbrev dm(R:cd):Prop:=∀(s1:waB) (s2:waB),OV 73 [sl af s1,sl af s2,.func (.func 74) [] []] (R s1 s2) (λr=>.bool r) []
abbrev jO:=(ag->ag->Option Bool)
abbrev pg(R:jO):Prop:=∀(a:ag) (a2:ag),OV 100 [.agg (aj a),.agg (aj a2)] (R a a2) (λr=>.bool r) []
noncomputable def RN:Code:=f127.body.getD .skip
theorem S3:ZF Pg [17] 127 f127 RN:=zf call127 func127 rfl mixed
section
variable(R48:jO)(v:waF)(v2:waF)(t14:Int)(t15:Int)
def mm:az:=bO 30 [(0,sl aj v),(1,sl aj v2),(2,.func (.func 100) [] []),(14,.int .i64 t14),(15,.int .i64 t15)] [] []
def sT(o:Unit⊕(Unit)):Exit:=match o with
 |(.inl _)=>.ret
 |(.inr _)=>.exit 0
def sU(o:Unit⊕(Unit)):az:=match o with
 |(.inl o)=>bO 30 [(6,.bool false)] [] []
 |(.inr o)=>bO 30 [] [] []
def sS:Option (Int⊕(Unit⊕(Unit))):=
 if decide (t15<t14)=true then
  (cH v t15).bind λx3=>
  (cH v2 t15).bind λx4=>
  (R48 x3 x4).bind λr5=>
  if(!r5)=true then
   some (.inr (.inl ()))
  else
   some (.inl (bw (t15+1)))
 else
  some (.inr (.inr ()))
def xr:Option (Unit⊕(Unit)):=loop (λ(zz:Int)=>sS R48 v v2 t14 zz) t15
theorem zV(hR48:pg R48):OL 0 (cA RN 119) (sS R48 v v2 t14 t15) (λ(zz:Int)=>mm v v2 t14 zz) sT sU (mm v v2 t14 t15):=S3.l<|
 tF (tb λx3 bx3=>tb λx4 bx4=>tb λr5 br5=>oY [0,0,0,6,14,0,0,96,224,511,1023]<|tv (iC.ia (k:=.i64) bx3)<|tv (lW x3)<|tv (iC.ia (k:=.i64) bx4)<|tv (lW x4)<|bP (hR48 _ _ _ br5)<|tF tE<|tE)<|tE
theorem qK(hR48:pg R48):OK 0 (.loop (cA RN 119)) (xr R48 v v2 t14 t15) sT sU (mm v v2 t14 t15):=DF λ_=>zV _ _ _ _ _ hR48
end
def Fe(R48:jO)(a:waF)(a2:waF):Option Bool:=
 if((a.length:Int)!=(a2.length:Int))=true then
  some false
 else
  (xr R48 a a2 (a.length:Int) 0).bind λo7=>match o7 with
  |(.inl o7)=>
   some false
  |(.inr o7)=>
   some true
theorem GO(R48:jO)(hR48:pg R48){a:waF}{a2:waF}:OV 127 [sl aj a,sl aj a2,.func (.func 100) [] []] (Fe R48 a a2) (λr=>.bool r) []:=S3.v<|
 ck (iC.ln a)<|ck (iC.ln a2)<|tF tE<|ck (iC.ln a)<|t2 (λo7 bo7=>dn (qK R48 a a2 (a.length:Int) 0 hR48 _ bo7)<|tE) λo7 bo7=>dn (qK R48 a a2 (a.length:Int) 0 hR48 _ bo7)<|tE
noncomputable def UR:Code:=f100.body.getD .skip
theorem UE:ZF Pg [] 100 f100 UR:=zf call100 func100 rfl mixed
def Cq(R48:jO)(a:ag)(a2:ag):Option Bool:=
 if (a.Op == a2.Op) = true then
  if(a.Name==a2.Name)=true then
   if(a.N==a2.N)=true then
    (Fe R48 a.Kids a2.Kids).bind λr7=>
    some r7
   else
    some false
  else
   some false
 else
  some false
theorem GN(R48:jO)(hR48:pg R48){a:ag}{a2:ag}:OV 100 [.agg (aj a),.agg (aj a2)] (Cq R48 a a2) (λr=>.bool r) []:=UE.v<|
 te (zP a)<|te (zP a2)<|have pp2:=λ{X Y Z} (r:PV _ X Y Z)=>tw (gD a)<|tw (gD a2)<|r;tf (λc1=>have pp4:=λ{X Y Z} (r:PV _ X Y Z)=>pp2<|tg 6 c1<|tw (eu a)<|tw (eu a2)<|r;tf (λc3=>have pp6:=λ{X Y Z} (r:PV _ X Y Z)=>pp4<|tg 13 c3<|tw (il a)<|tw (il a2)<|r;tf (λc5=>tb λr7 br7=>pp6<|tg 20 c5<|tw (co a)<|tw (co a2)<|bP (GO R48 hR48 _ br7)<|tE) λc5=>pp6<|tg 20 c5<|tE) λc3=>pp4<|tg 13 c3<|tE) λc1=>pp2<|tg 6 c1<|tE
def Cr:((ag×ag)->Option Bool)->(ag×ag)->Option Bool:=λ(rec:(ag×ag)->Option Bool) (x:ag×ag)=>Cq (λa a2=>rec (a,a2)) x.1 x.2
def Bx(a:ag)(a2:ag):Option Bool:=kT Cr (a,a2)
theorem zU{a:ag}{a2:ag}:OV 100 [.agg (aj a),.agg (aj a2)] (Bx a a2) (λr=>.bool r) []:=mP λ_ h=>
 ct (F:=Cr) (M:=λ(x:ag×ag) (r:Bool)=>CC Pg GE 100 [.agg (aj x.1),.agg (aj x.2)] (.bool r) []) (λrec hrec x r h=>GN _ (λa a2=>mP λr h=>hrec (a,a2) r h) _ h) h
noncomputable def RM:Code:=f101.body.getD .skip
theorem S1:ZF Pg [19] 101 f101 RM:=zf call101 func101 rfl mixed
section
variable(s2:waF)(t15:waF)(t16:Int)(t17:Int)
def ez:az:=bO 32 [(1,sl aj s2),(2,.func (.func 100) [] []),(15,sl aj t15),(16,.int .i64 t16),(17,.int .i64 t17)] [] []
def jX(o:Unit⊕(Unit)):Exit:=match o with
 |(.inl _)=>.ret
 |(.inr _)=>.exit 0
def gb(o:Unit⊕(Unit)):az:=match o with
 |(.inl o)=>bO 32 [(6,.bool false)] [] []
 |(.inr o)=>bO 32 [] [] []
instance iS_slices_EqualFunc_2_L1:KS 0 (ez s2 t15 t16 t17):=ks 0 rfl
instance iO_slices_EqualFunc_2_L1{o:Unit⊕(Unit)}:KS 0 (gb o):=match o with
 |(.inl o)=>ks 0 rfl
 |(.inr o)=>ks 0 rfl
def jW:Option (Int⊕(Unit⊕(Unit))):=
 if decide (t17<t16)=true then
  (cH t15 t17).bind λx3=>
  (cH s2 t17).bind λx4=>
  (Bx x3 x4).bind λr5=>
  if(!r5)=true then
   some (.inr (.inl ()))
  else
   some (.inl (bw (t17+1)))
 else
  some (.inr (.inr ()))
def kG:Option (Unit⊕(Unit)):=loop (λ(zz:Int)=>jW s2 t15 t16 zz) t17
theorem pb:OL 0 (cA RM 119) (jW s2 t15 t16 t17) (λ(zz:Int)=>ez s2 t15 t16 zz) jX gb (ez s2 t15 t16 t17):=S1.lx<|
 tF (tb λx3 bx3=>tb λx4 bx4=>tb λr5 br5=>tv (iC.ia (k:=.i64) bx3)<|tv (lW x3)<|tx TO<|tx (HG x3)<|tv (iC.ia (k:=.i64) bx4)<|tv (lW x4)<|tx TO<|tx (HG x4)<|tv (Hz x3 [])<|tv (Hz x4 [])<|bP (zU _ br5)<|tF tE<|tE)<|tE
theorem jr:OK 0 (.loop (cA RM 119)) (kG s2 t15 t16 t17) jX gb (ez s2 t15 t16 t17):=DF λ_=>pb _ _ _ _
end
def oE(s1:waF)(s2:waF):Option Bool:=
 if((s1.length:Int)!=(s2.length:Int))=true then
  some false
 else
  (kG s2 s1 (s1.length:Int) 0).bind λo7=>match o7 with
  |(.inl o7)=>
   some false
  |(.inr o7)=>
   some true
theorem tL{s1:waF}{s2:waF}:OV 101 [sl aj s1,sl aj s2,.func (.func 100) [] []] (oE s1 s2) (λr=>.bool r) []:=S1.v<|
 ck (iC.ln s1)<|ck (iC.ln s2)<|tF tE<|ck (iC.ln s1)<|t2 (λo7 bo7=>dn (jr s2 s1 (s1.length:Int) 0 _ bo7)<|tE) λo7 bo7=>dn (jr s2 s1 (s1.length:Int) 0 _ bo7)<|tE
noncomputable def Xv:Code:=f74.body.getD .skip
theorem W8:ZF Pg [] 74 f74 Xv:=zf call74 func74 rfl mixed
def mw(R46:cd)(a:ae)(a2:ae):Option Bool:=
 if (a.Op == a2.Op) = true then
  if (a.Name == a2.Name) = true then
   (nr a.Names a2.Names).bind λr5=>
   if r5=true then
    (Bx a.Pred a2.Pred).bind λr8=>
    if r8=true then
     (oE a.Preds a2.Preds).bind λr11=>
     if r11=true then
      (R46 a.Args a2.Args).bind λr14=>
      some r14
     else
      some false
    else
     some false
   else
    some false
  else
   some false
 else
  some false
theorem oK(R46:cd)(hR46:dm R46){a:ae}{a2:ae}:OV 74 [.agg (af a),.agg (af a2)] (mw R46 a a2) (λr=>.bool r) []:=W8.v<|
 te (eZ a)<|te (eZ a2)<|have pp2:=λ{X Y Z} (r:PV _ X Y Z)=>tw (bW a)<|tw (bW a2)<|r;tf (λc1=>have pp4:=λ{X Y Z} (r:PV _ X Y Z)=>pp2<|tg 6 c1<|tw (bM a)<|tw (bM a2)<|r;tf (λc3=>tb λr5 br5=>have pp7:=λ{X Y Z} (r:PV _ X Y Z)=>pp4<|tg 13 c3<|tw (dW a)<|tw (dW a2)<|bP (mr _ br5)<|r;tf (λc6=>tb λr8 br8=>have pp10:=λ{X Y Z} (r:PV _ X Y Z)=>pp7<|tg 20 c6<|tw (dY a)<|tw (dY a2)<|bP (zU _ br8)<|r;tf (λc9=>tb λr11 br11=>have pp13:=λ{X Y Z} (r:PV _ X Y Z)=>pp10<|tg 27 c9<|tw (cp a)<|tw (cp a2)<|bP (tL _ br11)<|r;tf (λc12=>tb λr14 br14=>pp13<|tg 34 c12<|tw (aL a)<|tw (aL a2)<|bP (hR46 _ _ _ br14)<|tE) λc12=>pp13<|tg 34 c12<|tE) λc9=>pp10<|tg 27 c9<|tE) λc6=>pp7<|tg 20 c6<|tE) λc3=>pp4<|tg 13 c3<|tE) λc1=>pp2<|tg 6 c1<|tE
noncomputable def U7:Code:=f73.body.getD .skip
theorem Wf:ZF Pg [19] 73 f73 U7:=zf call73 func73 rfl mixed
section
variable(R46:cd)(s2:waB)(t15:waB)(t16:Int)(t17:Int)
def cR:az:=bO 32 [(1,sl af s2),(2,.func (.func 74) [] []),(15,sl af t15),(16,.int .i64 t16),(17,.int .i64 t17)] [] []
def gh(o:Unit⊕(Unit)):Exit:=match o with
 |(.inl _)=>.ret
 |(.inr _)=>.exit 0
def eb(o:Unit⊕(Unit)):az:=match o with
 |(.inl o)=>bO 32 [(6,.bool false)] [] []
 |(.inr o)=>bO 32 [] [] []
instance iS_slices_EqualFunc_sameType_L1:KS 0 (cR s2 t15 t16 t17):=ks 0 rfl
instance iO_slices_EqualFunc_sameType_L1{o:Unit⊕(Unit)}:KS 0 (eb o):=match o with
 |(.inl o)=>ks 0 rfl
 |(.inr o)=>ks 0 rfl
def gf:Option (Int⊕(Unit⊕(Unit))):=
 if decide (t17<t16)=true then
  (cH t15 t17).bind λx3=>
  (cH s2 t17).bind λx4=>
  (mw R46 x3 x4).bind λr5=>
  if(!r5)=true then
   some (.inr (.inl ()))
  else
   some (.inl (bw (t17+1)))
 else
  some (.inr (.inr ()))
def gM:Option (Unit⊕(Unit)):=loop (λ(zz:Int)=>gf R46 s2 t15 t16 zz) t17
theorem kB(hR46:dm R46):OL 0 (cA U7 119) (gf R46 s2 t15 t16 t17) (λ(zz:Int)=>cR s2 t15 t16 zz) gh eb (cR s2 t15 t16 t17):=Wf.lx<|
 tF (tb λx3 bx3=>tb λx4 bx4=>tb λr5 br5=>tv (dl.ia (k:=.i64) bx3)<|tv (cw x3)<|tx tK<|tx (fu x3)<|tv (dl.ia (k:=.i64) bx4)<|tv (cw x4)<|tx tK<|tx (fu x4)<|tv (cx x3 [])<|tv (cx x4 [])<|bP (oK R46 hR46 _ br5)<|tF tE<|tE)<|tE
theorem fI(hR46:dm R46):OK 0 (.loop (cA U7 119)) (gM R46 s2 t15 t16 t17) gh eb (cR s2 t15 t16 t17):=DF λ_=>kB _ _ _ _ _ hR46
end
def iq(R46:cd)(s1:waB)(s2:waB):Option Bool:=
 if((s1.length:Int)!=(s2.length:Int))=true then
  some false
 else
  (gM R46 s2 s1 (s1.length:Int) 0).bind λo7=>match o7 with
  |(.inl o7)=>
   some false
  |(.inr o7)=>
   some true
theorem lZ(R46:cd)(hR46:dm R46){s1:waB}{s2:waB}:OV 73 [sl af s1,sl af s2,.func (.func 74) [] []] (iq R46 s1 s2) (λr=>.bool r) []:=Wf.v<|
 ck (dl.ln s1)<|ck (dl.ln s2)<|tF tE<|ck (dl.ln s1)<|t2 (λo7 bo7=>dn (fI R46 s2 s1 (s1.length:Int) 0 hR46 _ bo7)<|tE) λo7 bo7=>dn (fI R46 s2 s1 (s1.length:Int) 0 hR46 _ bo7)<|tE
def ir:((waB×waB)->Option Bool)->(waB×waB)->Option Bool:=λ(rec:(waB×waB)->Option Bool) (x:waB×waB)=>iq (λs1 s2=>rec (s1,s2)) x.1 x.2
def dM(s1:waB)(s2:waB):Option Bool:=kT ir (s1,s2)
theorem gN{s1:waB}{s2:waB}:OV 73 [sl af s1,sl af s2,.func (.func 74) [] []] (dM s1 s2) (λr=>.bool r) []:=mP λ_ h=>
 ct (F:=ir) (M:=λ(x:waB×waB) (r:Bool)=>CC Pg GE 73 [sl af x.1,sl af x.2,.func (.func 74) [] []] (.bool r) []) (λrec hrec x r h=>lZ _ (λs1 s2=>mP λr h=>hrec (s1,s2) r h) _ h) h
end Go.Proofs.YtjddnhkahpfhdaaGreatDoor
