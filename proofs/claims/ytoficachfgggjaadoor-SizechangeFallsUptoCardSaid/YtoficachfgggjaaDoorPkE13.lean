/- PROVED: a part of the proof. Conditions: none. -/
import Derived.Test.YtoficachfgggjaaDoorPkE12
noncomputable section
namespace Go.Proofs.YtoficachfgggjaaDoor
open Go
set_option linter.unusedSimpArgs false
set_option linter.unusedVariables false
inductive Cl(l:List aa):aa->Prop where
 |base (g:aa):g∈l->Cl l g
 |comp (a b:aa):Cl l a->Cl l b->a.Callee=b.Caller->Cl l (bV a b)
theorem Cl.ok{l:List aa}(h:∀g∈l,od g){g:aa}(hg:Cl l g):od g:=by
 induction hg with
 |base g hg=>exact h g hg
 |comp a b _ _ _ iha ihb=>exact vb iha ihb
theorem u5{σ X:Type}(body:σ->Option (σ⊕X))(I:σ->Prop)(μ:σ->Nat)(Q:X->Prop)
  (h:∀s,I s->(∃s',body s=some (.inl s')/\I s'/\μ s'<μ s)\/(∃x,body s=some (.inr x)/\Q x)):∀s,I s->∃x,loop body s=some x/\Q x:=by
 intro s
 induction hm:μ s using Nat.strongRecOn generalizing s with
 | _ n ih =>
  intro hI
  rcases h s hI with⟨s',h1,h2,h3⟩|⟨x,h1,h2⟩
  ·obtain⟨x,h4,h5⟩:=ih (μ s') (by omega) s' rfl h2
   exact⟨x,by rw[cz h1];exact h4,h5⟩
  ·exact⟨x,aG h1,h2⟩
def Dd(m:List (ah×Bool))(out:List aa):Prop:=∀g,od g->(pf m (Ea g)).getD false=decide (g∈out)
theorem y0{α:Type}(v:α)(k:ah):∀(m:List (ah×α)) (j:ah),pf (sw m k v) j=if j=k then some v else pf m j
 | [],j => by
  unfold sw pf
  by_cases h:j=k
  ·subst h;simp
  ·simp[h]
 | e :: r,j => by
  have ih:=y0 v k r j
  unfold sw
  by_cases hk:(k==e.1)=true
  ·rw[vaf hk]
   have hk':k=e.1:=by simpa using hk
   unfold pf
   by_cases h:j=k
   ·subst h;simp
   ·have:¬j=e.1:=fun x=>h (x.trans hk'.symm)
    simp[h,this]
  ·rw[vag hk]
   unfold pf at ih ⊢
   rw[List.find?_cons,List.find?_cons]
   by_cases h:(j==e.1)=true
   ·have hj:j=e.1:=by simpa using h
    have:¬j=k:=fun x=>hk (by rw[<-x,hj];simp)
    rw[h]
    simp[this]
   ·simp only[h]
    exact ih
def ic(out:List aa)(g:aa):List aa:=if g∈out then out else out++[g]
theorem Eo{g:aa}{m:List (ah×Bool)}{out:List aa}(hg:od g)(hm:Dd m out)(hl:out.length<=1000):∃m',bD g m out=some (m',ic out g)/\Dd m' (ic out g):=by
 unfold bD
 rw[Dn hg,vaa,hm g hg]
 unfold ic
 by_cases h:g∈out
 ·rw[vag (by simp[h]),vaf h]
  exact⟨m,rfl,hm⟩
 ·rw[vaf (by simp[h]),vag h]
  have hal:=gH hg.arcs
  have hcl:qA g.Arcs=some g.Arcs:=by unfold qA;rw[vaf (by unfold dF;omega)]
  rw[hcl,vaa,nw (by simp;omega),vaa]
  refine⟨sw m (Ea g) true,rfl,fun k hk=>?_⟩
  rw[y0]
  by_cases he:Ea k=Ea g
  ·rw[vaf he]
   have:=DT hk hg he
   subst this
   simp
  ·rw[vag he,hm k hk]
   have:k≠g:=fun e=>he (by rw[e])
   simp[this]
theorem iK{out:List aa}{g x:aa}:x∈ic out g↔x∈out\/x=g:=by
 unfold ic
 split
 ·rename_i h
  exact⟨.inl,fun hh=>hh.elim id fun e=>e▸h⟩
 ·simp
theorem zD{out:List aa}{g:aa}(h:out.Nodup):(ic out g).Nodup:=by
 unfold ic
 split
 ·exact h
 ·rename_i hg
  rw[vcL]
  exact⟨h,by simp,fun a ha b hb=>by rw[vaW.1 hb];exact fun e=>hg (e▸ha)⟩
theorem uv{out:List aa}{g:aa}:out.length<=(ic out g).length/\(ic out g).length<=out.length+1:=by
 unfold ic
 split<;>simp
theorem jJ{out:List aa}{g x:aa}{i:Nat}(h:out[i]? =some x):(ic out g)[i]? =some x:=by
 unfold ic
 split
 ·exact h
 ·rw[vad (va1.1 h).1];exact h
structure CS(l:List aa)(m:List (ah×Bool))(out:List aa):Prop where
 seen:Dd m out
 nd:out.Nodup
 cl:∀g∈out,Cl l g
theorem Ce{l:List aa}(hok:∀g∈l,od g){m:List (ah×Bool)}{out:List aa}{g:aa}(h:CS l m out)(hg:Cl l g)(hl:out.length<=1000):∃m',bD g m out=some (m',ic out g)/\CS l m' (ic out g):=by
 obtain⟨m',h1,h2⟩:=Eo (hg.ok hok) h.seen hl
 refine⟨m',h1,h2,zD h.nd,fun x hx=>?_⟩
 rcases iK.1 hx with hx|rfl
 ·exact h.cl x hx
 ·exact hg
theorem Ex(l:List aa)(hl:l.length<=1000000)(ha:∀g∈l,g.Arcs.length<=40):bg l (l.length:Int) 0=some (match l.find? (fun g=>vG g !=0)with|some g=>.inl ([],vG g)|none=>.inr ()):=by
 have key:∀(r pre:List aa),l=pre++r->bg l (l.length:Int) (pre.length:Int)=some (match r.find? (fun g=>vG g !=0)with|some g=>.inl ([],vG g)|none=>.inr ()):=by
  intro r
  induction r with
  | nil =>
   intro pre h
   unfold bg
   rw[aG (x:=.inr ())]
   ·rfl
   ·unfold b6
    rw[vag (by rw[h];simp)]
  | cons x r ih =>
   intro pre h
   have hlt:pre.length<l.length:=by rw[h];simp
   have hb:b6 l (l.length:Int) (pre.length:Int)=if(vG x !=0)=true then some (.inr (.inl ([],vG x)))else some (.inl (((pre++[x]).length:Nat):Int)):=by
    unfold b6
    have hi:d9 l (pre.length:Int)=some x:=by rw[h];exact dR pre x r
    have hx:=ha x (by rw[h];simp)
    rw[vaf (by simpa using hlt),hi,vaa,yn x (by omega),vaa,dh (by omega) (by omega)]
    congr 3
    simp
   unfold bg
   rw[List.find?_cons]
   cases hv:(vG x !=0)with
   |true=>rw[hv,vaf rfl]at hb;rw[aG hb]
   |false=>
    rw[hv,vag (by simp)]at hb
    rw[cz hb]
    have:=ih (pre++[x]) (by rw[h];simp)
    unfold bg at this
    exact this
 have:=key l [] rfl
 exact this
theorem Ey(l:List aa)(hl:l.length<=100)(hok:∀g∈l,od g):∃m out,bJ l (l.length:Int) 0 [] []=some (m,out)/\CS l m out/\(∀g∈l,g∈out)/\out.length<=l.length:=by
 have key:∀(r pre:List aa) (m:List (ah×Bool)) (out:List aa),l=pre++r->CS l m out->(∀g∈pre,g∈out)->out.length<=pre.length->
   ∃m' out',bJ l (l.length:Int) (pre.length:Int) m out=some (m',out')/\CS l m' out'/\(∀g∈l,g∈out')/\out'.length<=l.length:=by
  intro r
  induction r with
  |nil=>
   intro pre m out h hc hp ho
   refine⟨m,out,?_,hc,fun g hg=>hp g (by rw[h]at hg;simpa using hg),by rw[h];simpa using ho⟩
   unfold bJ
   refine aG ?_
   unfold cb
   rw[vag (by rw[h];simp)]
  | cons x r ih =>
   intro pre m out h hc hp ho
   have hlt:pre.length<l.length:=by rw[h];simp
   obtain⟨m',h1,h2⟩:=Ce hok hc (.base x (by rw[h];simp)) (by omega)
   have hb:cb l (l.length:Int) (pre.length:Int) m out=some (.inl ((((pre++[x]).length:Nat):Int),m',ic out x)):=by
    unfold cb
    have hi:d9 l (pre.length:Int)=some x:=by rw[h];exact dR pre x r
    rw[vaf (by simpa using hlt),hi,vaa,h1,vaa,dh (by omega) (by omega)]
    congr 3
    simp
   obtain⟨m2,out2,k1,k2⟩:=ih (pre++[x]) m' (ic out x) (by rw[h];simp) h2 (fun g hg=>by
    rcases vaC.1 hg with hg|hg
    ·exact iK.2 (.inl (hp g hg))
    ·exact iK.2 (.inr (vaW.1 hg))) (by have:=(uv (out:=out) (g:=x)).2;simp;omega)
   refine⟨m2,out2,?_,k2⟩
   unfold bJ at k1 ⊢
   rw[cz hb];exact k1
 have:=key l [] [] [] rfl ⟨fun g _=>by simp[pf],by simp,by simp⟩ (by simp) (by simp)
 exact this
def xC(out:List aa)(i k:Nat):Prop:=∀x y,out[i]? =some x->out[k]? =some y->(x.Callee=y.Caller->bV x y∈out)/\(y.Callee=x.Caller->bV y x∈out)
def xk(out:List aa)(i:Nat):Prop:=∀p q,p<i->q<=p->xC out p q
theorem vg{out:List aa}{g:aa}{i k:Nat}(hi:i<out.length)(hk:k<out.length)(h:xC out i k):xC (ic out g) i k:=fun x y hx hy=>by
 have e1:out[i]? =some x:=by rw[jJ (vab hi)]at hx;rw[<-hx];exact vab hi
 have e2:out[k]? =some y:=by rw[jJ (vab hk)]at hy;rw[<-hy];exact vab hk
 obtain⟨h1,h2⟩:=h x y e1 e2
 exact⟨fun c=>iK.2 (.inl (h1 c)),fun c=>iK.2 (.inl (h2 c))⟩
structure CI(l:List aa)(i k:Nat)(m:List (ah×Bool))(out:List aa):Prop where
 cs:CS l m out
 sub:∀g∈l,g∈out
 len:out.length<=402
 done:xk out i
 row:∀q,q<k->xC out i q
theorem B6{l:List aa}{i k:Nat}{m m':List (ah×Bool)}{out:List aa}{g:aa}(h:CI l i k m out)(hi:i<out.length)(hk:k<=i)(hc:CS l m' (ic out g))(hl:(ic out g).length<=402):CI l i k m' (ic out g):=
 ⟨hc,fun x hx=>iK.2 (.inl (h.sub x hx)),hl,fun p q hp hq=>vg (by omega) (by omega) (h.done p q hp hq),fun q hq=>vg hi (by omega) (h.row q hq)⟩
theorem DX{l:List aa}(hok:∀g∈l,od g){i k:Nat}{m:List (ah×Bool)}{out:List aa}(h:CS l m out)(hi:i<out.length)(hk:k<out.length)(hl:out.length<=401):∃m' g,cG (i:Int) (k:Int) m out=some (m',ic out g)/\CS l m' (ic out g)/\(out[i].Callee=out[k].Caller->g=bV out[i] out[k]):=by
 unfold cG
 rw[fc out i hi,vaa,fc out k hk,vaa]
 have ci:=h.cl _ (vaS hi)
 have ck:=h.cl _ (vaS hk)
 by_cases hc:out[i].Callee=out[k].Caller
 ·rw[vaf (by simpa using hc),vaa,vaa,uC _ _ (ci.ok hok).arcs (ck.ok hok).arcs,vaa]
  obtain⟨m',h1,h2⟩:=Ce hok h (.comp _ _ ci ck hc) (by omega)
  rw[h1,vaa]
  exact⟨m',_,rfl,h2,fun _=>rfl⟩
 ·rw[vag (by simpa using hc)]
  have e:ic out out[i]=out:=by unfold ic;rw[vaf (vaS hi)]
  exact⟨m,out[i],by rw[e],by rw[e];exact h,fun hh=>absurd hh hc⟩
theorem Fq{l:List aa}(hok:∀g∈l,od g){i k:Nat}{m:List (ah×Bool)}{out:List aa}(h:CI l i k m out)(hi:i<out.length)(hk:k<=i)(hl:out.length<=400):∃m' out',dV (i:Int) (k:Int) m out=some (m',out')/\CI l i (k+1) m' out'/\out.length<=out'.length:=by
 unfold dV
 obtain⟨m1,g1,e1,c1,f1⟩:=DX hok h.cs hi (show k<out.length by omega) (by omega)
 rw[e1,vaa]
 have l1:=uv (out:=out) (g:=g1)
 have I1:=B6 h hi hk c1 (by omega)
 have hi1:i<(ic out g1).length:=by omega
 have hk1:k<(ic out g1).length:=by omega
 have gi:(ic out g1)[i]=out[i]:=by
  have:=jJ (g:=g1) (vab hi)
  rw[vab hi1]at this
  exact vaQ this
 have gk:(ic out g1)[k]=out[k]'(by omega):=by
  have:=jJ (g:=g1) (vab (show k<out.length by omega))
  rw[vab hk1]at this
  exact vaQ this
 obtain⟨m2,g2,e2,c2,f2⟩:=DX (i:=k) (k:=i) hok c1 hk1 hi1 (by omega)
 have l2:=uv (out:=ic out g1) (g:=g2)
 have I2:=B6 I1 hi1 hk c2 (by omega)
 refine⟨m2,ic (ic out g1) g2,?_,⟨I2.cs,I2.sub,I2.len,I2.done,fun q hq=>?_⟩,by omega⟩
 ·unfold cG at e2
  exact e2
 ·by_cases hqk:q=k
  ·subst hqk
   intro x y hx hy
   have hx':x=out[i]:=by
    rw[jJ (jJ (vab hi))]at hx
    exact(vaQ hx).symm
   have hy':y=out[q]'(by omega):=by
    rw[jJ (jJ (vab (show q<out.length by omega)))]at hy
    exact(vaQ hy).symm
   subst hx';subst hy'
   refine⟨fun c=>?_,fun c=>?_⟩
   ·rw[<-f1 c];exact iK.2 (.inl (iK.2 (.inr rfl)))
   ·rw[gi,gk]at f2
    rw[<-f2 c];exact iK.2 (.inr rfl)
  ·exact I2.row q (by omega)
theorem Fs{l:List aa}(hok:∀g∈l,od g){i:Nat}(hi400:i<=400){m:List (ah×Bool)}{out:List aa}(h:CI l i 0 m out)(hi:i<out.length):∃o:List (ah×Bool)×List aa,dX (i:Int) 0 m out=some o/\(CI l i 0 o.1 o.2/\out.length<=o.2.length/\(o.2.length<=400->xk o.2 (i+1))):=by
 unfold dX
 refine u5 (fun(zz:Int×(List (ah×Bool))×(List aa))=>dl (i:Int) zz.1 zz.2.1 zz.2.2)
  (fun s=>∃k:Nat,s.1=(k:Int)/\k<=i+1/\CI l i k s.2.1 s.2.2/\out.length<=s.2.2.length) (fun s=>i+1 - s.1.toNat) _ ?_ (0,m,out) ⟨0,rfl,by omega,h,vap _⟩
 rintro⟨k',m1,out1⟩ ⟨k,rfl,hk,hc,hl⟩
 simp only at hc hl ⊢
 have hJ6:dU (i:Int) (k:Int) out1=some (decide (k<=i)&&decide (out1.length<=400)):=by
  unfold dU
  by_cases h1:k<=i
  ·rw[vaf (by simpa using h1)]
   simp[h1]
   omega
  ·rw[vag (by simpa using h1)];simp[h1]
 unfold dl
 rw[hJ6,vaa]
 by_cases hcond:k<=i/\out1.length<=400
 ·rw[vaf (by simpa using hcond)]
  obtain⟨m2,out2,e1,c2,hl2⟩:=Fq hok hc (by omega) hcond.1 hcond.2
  rw[e1,vaa]
  refine .inl ⟨_,rfl,⟨k+1,?_,by omega,c2,(show out.length<=out2.length by omega)⟩,?_⟩
  ·simp only;rw[dh (by omega) (by omega)];omega
  ·simp only;rw[dh (by omega) (by omega)];omega
 ·rw[vag (by simpa using hcond)]
  refine .inr ⟨_,rfl,⟨hc.cs,hc.sub,hc.len,hc.done,fun q hq=>absurd hq (vaI _)⟩,hl,fun hle=>?_⟩
  simp only at hle ⊢
  have hki:k=i+1:=by omega
  subst hki
  intro p q hp hq
  by_cases hpi:p=i
  ·subst hpi;exact hc.row q (by omega)
  ·exact hc.done p q (by omega) hq
theorem Fr{l:List aa}(hok:∀g∈l,od g){m:List (ah×Bool)}{out:List aa}(h:CS l m out)(hsub:∀g∈l,g∈out)(hl:out.length<=100):∃o:List (ah×Bool)×List aa,dW 0 m out=some o/\(CS l o.1 o.2/\o.2.length<=402/\(∀g∈l,g∈o.2)/\(o.2.length<=400->xk o.2 o.2.length)):=by
 unfold dW
 refine u5 (fun(zz:Int×(List (ah×Bool))×(List aa))=>dj zz.1 zz.2.1 zz.2.2)
  (fun s=>∃i:Nat,s.1=(i:Int)/\i<=402/\CI l i 0 s.2.1 s.2.2\/s.2.2.length>400/\CI l 0 0 s.2.1 s.2.2) (fun s=>(if s.2.2.length<=400 then 1000 else 0)+(500 - s.1.toNat)) _ ?_ (0,m,out) ⟨0,.inl ⟨rfl,by omega,⟨h,hsub,(show out.length<=402 by omega),fun p q hp=>absurd hp (vaI _),fun q hq=>absurd hq (vaI _)⟩⟩⟩
 rintro⟨i',m1,out1⟩ ⟨i,hI⟩
 simp only at hI ⊢
 have hJ4:∀j:Int,dT j out1=some (decide (j<(out1.length:Int))&&decide (out1.length<=400)):=fun j=>by
  unfold dT
  by_cases h1:j<(out1.length:Int)
  ·rw[vaf (by simpa using h1)]
   simp[h1]
   omega
  ·rw[vag (by simpa using h1)];simp[h1]
 unfold dj
 rw[hJ4,vaa]
 by_cases hlen:out1.length<=400
 ·have hI:i'=(i:Int)/\i<=402/\CI l i 0 m1 out1:=by
   rcases hI with h|h
   ·exact h
   ·omega
  obtain⟨rfl,hi,hc⟩:=hI
  by_cases hlt:i<out1.length
  ·rw[vaf (by simp;omega)]
   obtain⟨⟨m2,out2⟩,e1,c2,hl2,hd2⟩:=Fs hok (by omega) hc hlt
   simp only at c2 hl2 hd2
   rw[e1,vaa]
   refine .inl ⟨_,rfl,?_,?_⟩
   ·simp only
    rw[dh (by omega) (by omega)]
    by_cases h4:out2.length<=400
    ·exact⟨i+1,.inl ⟨by omega,by omega,⟨c2.cs,c2.sub,c2.len,hd2 h4,fun q hq=>absurd hq (vaI _)⟩⟩⟩
    ·exact⟨0,.inr ⟨by omega,⟨c2.cs,c2.sub,c2.len,fun p q hp=>absurd hp (vaI _),fun q hq=>absurd hq (vaI _)⟩⟩⟩
   ·simp only
    rw[dh (by omega) (by omega),vaf hlen]
    split<;>omega
  ·rw[vag (by simp;omega)]
   exact .inr ⟨_,rfl,hc.cs,hc.len,hc.sub,fun _ p q hp hq=>hc.done p q (by simp only at hp;omega) hq⟩
 ·rw[vag (by simp;omega)]
  rcases hI with⟨_,_,hc⟩|⟨_,hc⟩
  ·exact .inr ⟨_,rfl,hc.cs,hc.len,hc.sub,fun h4=>absurd h4 hlen⟩
  ·exact .inr ⟨_,rfl,hc.cs,hc.len,hc.sub,fun h4=>absurd h4 hlen⟩
def f7(l:List aa):Option Int:=(l.find? (fun g=>vG g !=0)).map vG
theorem lN{l:List aa}(h:f7 l=none):∀g∈l,od g:=fun g hg=>by
 unfold f7 at h
 rw[vbV,vbS]at h
 have:=h g hg
 exact qt.1 (by simpa using this)
structure qS(l r:List aa):Prop where
 mem:∀g,g∈r↔Cl l g
 srt:my qJ r
 nd:r.Nodup
def Cb(l:List aa):Prop:=∃r:List aa,r.Nodup/\r.length>400/\∀g∈r,Cl l g
theorem yK{l out:List aa}(hs:∀g∈l,g∈out)(hd:xk out out.length):∀g,Cl l g->g∈out:=fun g hg=>by
 induction hg with
 |base g hg=>exact hs g hg
 | comp a b _ _ hc iha ihb =>
  obtain⟨p,hp⟩:=vbu iha
  obtain⟨q,hq⟩:=vbu ihb
  have hpl:=(va1.1 hp).1
  have hql:=(va1.1 hq).1
  by_cases hpq:q<=p
  ·exact(hd p q hpl hpq a b hp hq).1 hc
  ·exact(hd q p hql (by omega) b a hq hp).2 hc
theorem zB(l:List aa)(hl:l.length<=100)(ha:∀g∈l,g.Arcs.length<=40):(∀e,f7 l=some e->aH l=some ([],e)/\e≠0)/\(f7 l=none->(∃r,aH l=some (r,0)/\qS l r/\r.length<=400)\/(aH l=some ([],7)/\Cb l)):=by
 have h1:=Ex l (by omega) ha
 constructor
 ·intro e he
  unfold f7 at he
  cases hf:l.find? (fun g=>vG g !=0)with
  |none=>rw[hf]at he;cases he
  |some g=>
   rw[hf]at h1 he
   cases he
   unfold aH
   rw[h1,vaa]
   refine⟨rfl,?_⟩
   have:=vbI hf
   simpa using this
 ·intro he
  have hok:=lN he
  have hf:l.find? (fun g=>vG g !=0)=none:=by
   unfold f7 at he
   rwa[vbV]at he
  rw[hf]at h1
  obtain⟨m,out,e2,c2,s2,l2⟩:=Ey l hl hok
  obtain⟨⟨m3,out3⟩,e3,c3,l3,s3,d3⟩:=Fr hok c2 s2 (by omega)
  simp only at c3 l3 s3 d3
  unfold aH
  rw[h1,vaa]
  simp only
  rw[e2,vaa]
  simp only
  rw[e3,vaa]
  simp only
  by_cases h4:out3.length<=400
  ·left
   rw[vag (by simp;omega)]
   obtain⟨r,hr1,hr2,hr3⟩:=xY (l:=out3) (fun g hg=>by have:=gH ((c3.cl g hg).ok hok).arcs;omega) (by omega)
   rw[hr1,vaa]
   refine⟨r,rfl,⟨fun g=>⟨fun hg=>c3.cl g (hr2.mem_iff.1 hg),fun hg=>hr2.mem_iff.2 (yK s3 (d3 h4) g hg)⟩,hr3,hr2.nodup_iff.2 c3.nd⟩,by rw[hr2.length_eq];exact h4⟩
  ·right
   rw[vaf (by simp;omega)]
   exact⟨rfl,out3,c3.nd,by omega,c3.cl⟩
theorem wN{α σ τ X:Type}(l:List α)(body:τ->Option (τ⊕X))(mk:Int->σ->τ)(e:σ->X)(I:Nat->σ->Prop)
  (hin:∀(i:Nat) (h:i<l.length) s,I i s->∃s',body (mk (i:Int) s)=some (.inl (mk ((i+1:Nat):Int) s'))/\I (i+1) s') (hend:∀s,I l.length s->body (mk (l.length:Int) s)=some (.inr (e s))) (s:σ) (h0:I 0 s):
  ∃s',loop body (mk 0 s)=some (e s')/\I l.length s':=by
 have key:∀k i s,k+i=l.length->I i s->∃s',loop body (mk (i:Int) s)=some (e s')/\I l.length s':=by
  intro k
  induction k with
  |zero=>
   intro i s hi hI
   have:i=l.length:=by omega
   subst this
   exact⟨s,aG (hend s hI),hI⟩
  |succ k ih=>
   intro i s hi hI
   obtain⟨s',h1,h2⟩:=hin i (by omega) s hI
   obtain⟨s2,h3,h4⟩:=ih (i+1) s' (by omega) h2
   exact⟨s2,by rw[cz h1];exact h3,h4⟩
 exact key l.length 0 s (by omega) h0
def ly(out:List aa)(g:aa):List aa:=out.takeWhile fun x=>qJ x g
def lz(out:List aa)(g:aa):List aa:=out.dropWhile fun x=>qJ x g
def oo(out:List aa)(g:aa):List aa:=if(lz out g).head?=some g then out else ly out g++g::lz out g
theorem vK(out:List aa)(g:aa):ly out g++lz out g=out:=List.takeWhile_append_dropWhile
theorem xP{out:List aa}{g x:aa}(h:x∈ly out g):qJ x g=true:=by
 unfold ly at h
 induction out with
 |nil=>simp at h
 | cons y r ih =>
  rw[List.takeWhile_cons]at h
  split at h
  ·rename_i hy
   rcases vay.1 h with rfl|h
   ·exact hy
   ·exact ih h
  ·simp at h
theorem sY{out:List aa}{g y:aa}{r:List aa}(h:lz out g=y::r):qJ y g=false:=by
 unfold lz at h
 have:=List.head?_dropWhile_not (fun x=>qJ x g) out
 rw[h]at this
 simpa using this
theorem AR(g:aa):qJ g g=false:=kp.irr g trivial
theorem ei{out:List aa}{g x:aa}:x∈oo out g↔x∈out\/x=g:=by
 unfold oo
 split
 ·rename_i h
  have hg:g∈out:=by
   rw[<-vK out g]
   cases hq:lz out g with
   |nil=>rw[hq]at h;cases h
   |cons y r=>rw[hq]at h;simp at h;subst h;simp
  exact⟨.inl,fun hh=>hh.elim id fun e=>e▸hg⟩
 ·have:=vK out g
  constructor
  ·intro hx
   rcases vaC.1 hx with hx|hx
   ·exact .inl (by rw[<-this];simp[hx])
   ·rcases vay.1 hx with hx|hx
    ·exact .inr hx
    ·exact .inl (by rw[<-this];simp[hx])
  ·rintro(hx|rfl)
   ·rw[<-this]at hx
    rcases vaC.1 hx with hx|hx<;>simp[hx]
   ·simp
theorem zd{out:List aa}{g:aa}(hs:my qJ out)(h:¬(lz out g).head?=some g):g∉out:=fun hg=>by
 rw[<-vK out g]at hg hs
 rcases vaC.1 hg with hg|hg
 ·have:=xP hg
  rw[AR]at this;cases this
 ·cases hq:lz out g with
  |nil=>rw[hq]at hg;cases hg
  | cons y r =>
   have hy:=sY hq
   rw[hq]at h hg hs
   have hne:y≠g:=fun e=>h (by rw[e];rfl)
   rcases vay.1 hg with hg|hg
   ·exact hne hg.symm
   ·have:=(vaX.1 (vbq.1 hs).2.1).1 g hg
    exact hne (kp.tot y g trivial trivial hy this)
theorem A2{out:List aa}{g:aa}(hs:my qJ out):my qJ (oo out g):=by
 unfold oo
 split
 ·exact hs
 ·have hs':=hs
  rw[<-vK out g]at hs'
  obtain⟨h1,h2,h3⟩:=vbq.1 hs'
  refine vbq.2 ⟨h1,vaX.2 ⟨fun y hy=>?_,h2⟩,fun x hx y hy=>?_⟩
  ·cases hq:lz out g with
   |nil=>rw[hq]at hy;cases hy
   | cons z r =>
    have hz:=sY hq
    rw[hq]at hy h2
    rcases vay.1 hy with rfl|hy
    ·exact hz
    ·exact kp.ntrans y z g trivial trivial trivial ((vaX.1 h2).1 y hy) hz
  ·rcases vay.1 hy with rfl|hy
   ·have h4:=xP hx
    cases hc:qJ y x with
    |false=>rfl
    |true=>
     have:=kp.trans x y x trivial trivial trivial h4 hc
     rw[AR]at this;cases this
   ·exact h3 x hx y hy
theorem C8{out:List aa}{g:aa}(hs:my qJ out)(hn:out.Nodup):(oo out g).Nodup:=by
 unfold oo
 split
 ·exact hn
 ·rename_i h
  have hg:=zd hs h
  rw[<-vK out g]at hn hg
  rw[vcL]at hn ⊢
  obtain⟨h1,h2,h3⟩:=hn
  refine⟨h1,vbR.2 ⟨fun hh=>hg (by simp[hh]),h2⟩,fun a ha b hb=>?_⟩
  rcases vay.1 hb with rfl|hb
  ·exact fun e=>hg (vaC.2 (.inl (e▸ha)))
  ·exact h3 a ha b hb
theorem rQ{out:List aa}{g:aa}:(oo out g).length=out.length+(if(lz out g).head?=some g then 0 else 1):=by
 unfold oo
 split
 ·rfl
 ·have:=vbk List.length (vK out g)
  simp at this ⊢
  omega
theorem C7(out:List aa)(g:aa)(hl:out.length<=1000)(ha:∀x∈out,x.Arcs.length<=40):tT out g=some (oo out g):=by
 have hpq:=vK out g
 have hlen:=vbk List.length hpq
 simp only[vaP]at hlen
 have hloop:jh out g 0=some ((ly out g).length:Int):=by
  have key:∀(r pre:List aa),ly out g=pre++r->jh out g (pre.length:Int)=some ((ly out g).length:Int):=by
   intro r
   induction r with
   | nil =>
    intro pre h
    unfold jh
    rw[aG (x:=(pre.length:Int))]
    ·rw[h];simp
    ·have hJ:kK out g (pre.length:Int)=some false:=by
      unfold kK
      have hp:pre=ly out g:=by rw[h];simp
      cases hq:lz out g with
      |nil=>
       rw[vag]
       rw[hq]at hlen
       simp at hlen ⊢
       rw[hp];omega
      | cons y t =>
       have hi:d9 out (pre.length:Int)=some y:=by
        have h2:=dR pre y t
        rw[hp,<-hq,hpq]at h2
        rw[hp];exact h2
       have hy:y∈out:=by rw[<-hpq,hq];simp
       rw[vaf (by rw[hq]at hlen;simp at hlen ⊢;rw[hp];omega),hi,vaa,AP y g (by have:=ha y hy;omega),vaa]
       have:=sY hq
       unfold qJ at this
       rw[this]
     unfold kl
     rw[hJ,vaa,vag (by simp)]
   | cons x r ih =>
    intro pre h
    have hx:x∈ly out g:=by rw[h];simp
    have hlt:=xP hx
    have hpl:pre.length<(ly out g).length:=by rw[h];simp
    have hJ:kK out g (pre.length:Int)=some true:=by
     unfold kK
     have hi:d9 out (pre.length:Int)=some x:=by
      have h2:=dR pre x (r++lz out g)
      have h3:pre++x::(r++lz out g)=out:=by
       have h4:(pre++x::r)++lz out g=out:=h▸hpq
       simpa using h4
      rw[h3]at h2;exact h2
     have hxo:x∈out:=by rw[<-hpq];simp[hx]
     rw[vaf (by simp;omega),hi,vaa,AP x g (by have:=ha x hxo;omega),vaa]
     unfold qJ at hlt
     rw[hlt]
    have hb:kl out g (pre.length:Int)=some (.inl (((pre++[x]).length:Nat):Int)):=by
     unfold kl
     rw[hJ,vaa,vaf rfl,dh (by omega) (by omega)]
     simp
    unfold jh
    rw[cz hb]
    have:=ih (pre++[x]) (by rw[h];simp)
    unfold jh at this
    exact this
  exact key (ly out g) [] rfl
 unfold tT
 rw[hloop,vaa]
 have hJ3:qu out g ((ly out g).length:Int)=some (decide ((lz out g).head?=some g)):=by
  unfold qu
  cases hq:lz out g with
  |nil=>rw[vag (by rw[hq]at hlen;simp at hlen ⊢;omega)];simp
  | cons y t =>
   have hi:d9 out ((ly out g).length:Int)=some y:=by
    have h2:=dR (ly out g) y t
    rw[<-hq,hpq]at h2;exact h2
   have hy:y∈out:=by rw[<-hpq,hq];simp
   rw[vaf (by rw[hq]at hlen;simp at hlen ⊢;omega),hi,vaa,zh y g (by have:=ha y hy;omega),vaa]
   simp
 rw[hJ3,vaa]
 unfold oo
 by_cases hc:(lz out g).head?=some g
 ·rw[vaf (by simpa using hc),vaf hc]
 ·rw[vag (by simpa using hc),vag hc,An _ _ (by omega),vaa]
  have e1:out.take (ly out g).length=ly out g:=by
   have h2:(ly out g++lz out g).take (ly out g).length=ly out g:=vbZ
   rw[hpq]at h2;exact h2
  have e2:out.drop (ly out g).length=lz out g:=by
   have h2:(ly out g++lz out g).drop (ly out g).length=lz out g:=List.drop_left
   rw[hpq]at h2;exact h2
  rw[e1,nw (by simp;omega),vaa,nw (by simp;omega),vaa,rY _ _ (by omega),vaa,e2,nw (by simp;omega),vaa]
  simp
structure RS(l out:List aa):Prop where
 srt:my qJ out
 nd:out.Nodup
 cl:∀g∈out,Cl l g
 len:out.length<=401
theorem RS.arcs{l out:List aa}(hok:∀g∈l,od g)(h:RS l out):∀g∈out,g.Arcs.length<=40:=fun g hg=>by have:=gH ((h.cl g hg).ok hok).arcs;omega
theorem RS.put{l out:List aa}{g:aa}(h:RS l out)(hg:Cl l g)(hl:out.length<=400):RS l (oo out g):=by
 refine⟨A2 h.srt,C8 h.srt h.nd,fun x hx=>?_,?_⟩
 ·rcases ei.1 hx with hx|rfl
  ·exact h.cl x hx
  ·exact hg
 ·rw[rQ];split<;>omega
theorem EQ(l:List aa)(hl:l.length<=100)(ha:∀g∈l,g.Arcs.length<=40):(∀e,f7 l=some e->db l (l.length:Int) [] 0=some (.inl ([],e)))/\(f7 l=none->∃out,db l (l.length:Int) [] 0=some (.inr out)/\RS l out/\(∀g,g∈out↔g∈l)):=by
 have key:∀(r pre out:List aa),l=pre++r->(∀g∈pre,od g)->my qJ out->out.Nodup->(∀g,g∈out↔g∈pre)->out.length<=pre.length->
   (match r.find? (fun g=>vG g !=0)with
   |some g=>db l (l.length:Int) out (pre.length:Int)=some (.inl ([],vG g))
   |none=>∃out',db l (l.length:Int) out (pre.length:Int)=some (.inr out')/\my qJ out'/\out'.Nodup/\(∀g,g∈out'↔g∈l)/\out'.length<=l.length):=by
  intro r
  induction r with
  |nil=>
   intro pre out h hp hs hn hm ho
   simp only[List.find?_nil]
   refine⟨out,?_,hs,hn,fun g=>by rw[hm,h];simp,by rw[h];simpa using ho⟩
   unfold db
   refine aG ?_
   unfold eE
   rw[vag (by rw[h];simp)]
  | cons x r ih =>
   intro pre out h hp hs hn hm ho
   have hlt:pre.length<l.length:=by rw[h];simp
   have hx:=ha x (by rw[h];simp)
   have hi:d9 l (pre.length:Int)=some x:=by rw[h];exact dR pre x r
   rw[List.find?_cons]
   cases hv:(vG x !=0)with
   |true=>
    simp only
    unfold db
    refine aG ?_
    unfold eE
    rw[vaf (by simpa using hlt),hi,vaa,pT x (by omega),vaa,vaf hv]
   | false =>
    simp only
    have hxo:od x:=qt.1 (by simpa using hv)
    have harc:∀y∈out,y.Arcs.length<=40:=fun y hy=>by have:=gH (hp y ((hm y).1 hy)).arcs;omega
    have hb:eE l (l.length:Int) out (pre.length:Int)=some (.inl (oo out x,(((pre++[x]).length:Nat):Int))):=by
     unfold eE
     rw[vaf (by simpa using hlt),hi,vaa,pT x (by omega),vaa,vag (by simp[hv]),C7 out x (by omega) harc,vaa,dh (by omega) (by omega)]
     congr 3
     simp
    have:=ih (pre++[x]) (oo out x) (by rw[h];simp) (fun g hg=>by
     rcases vaC.1 hg with hg|hg
     ·exact hp g hg
     ·rw[vaW.1 hg];exact hxo) (A2 hs) (C8 hs hn) (fun g=>by rw[ei,hm];simp) (by rw[rQ];split<;>simp<;>omega)
    unfold db at this ⊢
    rw[cz hb]
    exact this
 have:=key l [] [] rfl (by simp) (by simp[my]) (by simp) (by simp) (by simp)
 rw[show(([]:List aa).length:Int)=0 from rfl]at this
 unfold f7
 constructor
 ·intro e he
  cases hf:l.find? (fun g=>vG g !=0)with
  |none=>rw[hf]at he;cases he
  |some g=>rw[hf]at this he;cases he;exact this
 ·intro he
  have hok:=lN (by unfold f7;exact he)
  cases hf:l.find? (fun g=>vG g !=0)with
  |some g=>rw[hf]at he;cases he
  |none=>
   rw[hf]at this
   obtain⟨out,h1,h2,h3,h4,h5⟩:=this
   exact⟨out,h1,⟨h2,h3,fun g hg=>.base g ((h4 g).1 hg),by omega⟩,h4⟩
structure IS(l out0 out v:List aa):Prop where
 rs:RS l out
 old:∀g∈out0,g∈out
 new:∀g∈v,g∈out
 all:∀g∈out,g∈out0\/g∈v
 cnt:out.length=out0.length+v.length
theorem EU{l first:List aa}(hok:∀g∈l,od g)(hf:∀g,g∈first↔g∈l)(hfl:first.length<=401){out0 out v:List aa}{a:aa}(ha:Cl l a)(h:IS l out0 out v):∃o:List aa×List aa,kH first (first.length:Int) a.Caller a.Callee a.Arcs out v 0=some o/\(IS l out0 o.1 o.2/\(∀g∈out,g∈o.1)/\out.length<=o.1.length/\(o.1.length<=400->∀b∈first,a.Callee=b.Caller->bV a b∈o.1)):=by
 unfold kH
 have key:=wN first (fun(zz:List aa×List aa×Int)=>gz first (first.length:Int) a.Caller a.Callee a.Arcs zz.1 zz.2.1 zz.2.2) (fun i (s:List aa×List aa)=>(s.1,s.2,i)) (fun s=>s)
  (fun i s=>IS l out0 s.1 s.2/\(∀g∈out,g∈s.1)/\out.length<=s.1.length/\(s.1.length<=400->∀(q:Nat) b,q<i->first[q]? =some b->a.Callee=b.Caller->bV a b∈s.1)) (fun i hi s hs=>?_) (fun s hs=>?_) (out,v) ⟨h,fun g hg=>hg,vap _,fun _ q b hq=>absurd hq (vaI _)⟩
 ·obtain⟨o,h1,h2,h3,h4,h5⟩:=key
  refine⟨o,h1,h2,h3,h4,fun hl b hb hc=>?_⟩
  obtain⟨q,hq⟩:=vbu hb
  exact h5 hl q b (va1.1 hq).1 hq hc
 ·obtain⟨out1,v1⟩:=s
  obtain⟨k1,k2,k3,k4⟩:=hs
  simp only at k1 k2 k3 k4 ⊢
  have hao:=ha.ok hok
  have hbm:first[i]∈l:=(hf _).1 (vaS hi)
  have hbo:=hok _ hbm
  have la:=gH hao.arcs
  have lb:=gH hbo.arcs
  have hw:bN ((i:Int)+1)=((i+1:Nat):Int):=by rw[dh (by omega) (by omega)];omega
  have hcmp:uA a first[i]=if a.Callee=first[i].Caller then(bV a first[i],0)else(F1,6):=by
   unfold uA
   rw[vag (by simp[qt.2 hao]),vag (by simp[qt.2 hbo])]
  have hcomp:il (⟨a.Caller,a.Callee,a.Arcs⟩:aa) first[i]=some (uA a first[i]):=tB a first[i] (by omega) (by omega)
  unfold gz
  rw[vaf (by simpa using hi),fc first i hi,vaa,hcomp,vaa,hcmp]
  by_cases hc:a.Callee=first[i].Caller
  ·simp only[hc,if_true]
   have hJ:fX out1 0=some (decide (out1.length>400)):=by
    unfold fX
    rw[vag (by simp)]
    congr 1;rw[vby];simp;omega
   rw[hJ,vaa]
   by_cases hbig:out1.length>400
   ·rw[vaf (by simpa using hbig),hw]
    exact⟨(out1,v1),rfl,k1,k2,k3,fun hl=>by simp only at hl;omega⟩
   ·rw [vag (by simpa using hbig)]
    have hcl:Cl l (bV a first[i]):=.comp _ _ ha (.base _ hbm) hc
    have hrs:=k1.rs.put hcl (by omega)
    rw[C7 out1 _ (by have:=k1.rs.len;omega) (k1.rs.arcs hok),vaa,rQ]
    have hdone:∀(q:Nat) b,q<i+1->first[q]? =some b->a.Callee=b.Caller->bV a b∈oo out1 (bV a first[i]):=fun q b hq hb hcb=>by
     by_cases hqi:q=i
     ·subst hqi
      rw[vab hi]at hb;cases hb
      exact ei.2 (.inr rfl)
     ·exact ei.2 (.inl (k4 (by omega) q b (by omega) hb hcb))
    by_cases hin:(lz out1 (bV a first[i])).head?=some (bV a first[i])
    ·rw[vaf hin,vag (by simp),hw]
     have he:oo out1 (bV a first[i])=out1:=by unfold oo;rw[vaf hin]
     rw[he]at hdone ⊢
     exact⟨(out1,v1),rfl,k1,k2,k3,fun _ q b hq hb hcb=>hdone q b hq hb (hc.trans hcb)⟩
    ·rw [vag hin,vaf (by simp; omega),nw (by have:=k1.cnt; have:=k1.rs.len; simp; omega),vaa,hw]
     refine⟨(oo out1 (bV a first[i]),v1++[bV a first[i]]),rfl,⟨hrs,fun g hg=>ei.2 (.inl (k1.old g hg)),fun g hg=>?_,fun g hg=>?_,?_⟩,fun g hg=>ei.2 (.inl (k2 g hg)),(show out.length<=(oo out1 (bV a first[i])).length by rw[rQ];omega),fun _ q b hq hb hcb=>hdone q b hq hb (hc.trans hcb)⟩
     ·rcases vaC.1 hg with hg|hg
      ·exact ei.2 (.inl (k1.new g hg))
      ·exact ei.2 (.inr (vaW.1 hg))
     ·rcases ei.1 hg with hg|rfl
      ·rcases k1.all g hg with hg|hg
       ·exact .inl hg
       ·exact .inr (by simp[hg])
      ·exact .inr (by simp)
     ·simp only
      rw[rQ,vag hin,k1.cnt]
      simp
      omega
  ·simp only[hc,if_false]
   have hJ:fX out1 6=some true:=by unfold fX;rfl
   rw[hJ,vaa,vaf rfl,hw]
   refine⟨(out1,v1),rfl,k1,k2,k3,fun hl q b hq hb hcb=>?_⟩
   by_cases hqi:q=i
   ·subst hqi
    rw[vab hi]at hb;cases hb
    exact absurd hcb hc
   ·exact k4 hl q b (by omega) hb hcb
 ·unfold gz
  rw[vag (by simp)]
theorem ET{l first:List aa}(hok:∀g∈l,od g)(hf:∀g,g∈first↔g∈l)(hfl:first.length<=401){out todo:List aa}(hrs:RS l out)(ht:∀a∈todo,a∈out)(htl:todo.length<=401):∃o:List aa×List aa,kG first todo (todo.length:Int) out [] 0=some o/\(IS l out o.1 o.2/\(o.1.length<=400->∀a∈todo,∀b∈first,a.Callee=b.Caller->bV a b∈o.1)):=by
 unfold kG
 have key:=wN todo (fun(zz:List aa×List aa×Int)=>gy first todo (todo.length:Int) zz.1 zz.2.1 zz.2.2) (fun i (s:List aa×List aa)=>(s.1,s.2,i)) (fun s=>s)
  (fun i s=>IS l out s.1 s.2/\(s.1.length<=400->∀(q:Nat) a,q<i->todo[q]? =some a->∀b∈first,a.Callee=b.Caller->bV a b∈s.1)) (fun i hi s hs=>?_) (fun s hs=>?_) (out,[]) ⟨⟨hrs,fun g hg=>hg,by simp,fun g hg=>.inl hg,by simp⟩,fun _ q a hq=>absurd hq (vaI _)⟩
 ·obtain⟨o,h1,h2,h3⟩:=key
  refine⟨o,h1,h2,fun hl a ha=>?_⟩
  obtain⟨q,hq⟩:=vbu ha
  exact h3 hl q a (va1.1 hq).1 hq
 ·obtain⟨out1,v1⟩:=s
  obtain⟨k1,k2⟩:=hs
  simp only at k1 k2 ⊢
  have hw:bN ((i:Int)+1)=((i+1:Nat):Int):=by rw[dh (by omega) (by omega)];omega
  obtain⟨⟨o1,o2⟩,e1,q1,q2,q3,q4⟩:=EU hok hf hfl (hrs.cl _ (ht _ (vaS hi))) k1
  simp only at q1 q2 q3 q4
  unfold gy
  rw[vaf (by simpa using hi),fc todo i hi,vaa,e1,vaa,hw]
  refine⟨(o1,o2),rfl,q1,fun hl q a hq ha=>?_⟩
  simp only at hl
  have hlen:out1.length<=400:=by
   omega
  by_cases hqi:q=i
  ·subst hqi
   rw[vab hi]at ha;cases ha
   exact q4 hl
  ·exact fun b hb hc=>q2 _ (k2 hlen q a (by omega) ha b hb hc)
 ·unfold gy
  rw[vag (by simp)]
theorem ER{l first:List aa}(hok:∀g∈l,od g)(hf:∀g,g∈first↔g∈l)(h:RS l first):∃out:List aa,kF first first first=some out/\(RS l out/\(∀g∈l,g∈out)/\(out.length<=400->∀a∈out,∀b∈l,a.Callee=b.Caller->bV a b∈out)):=by
 unfold kF
 refine u5 (fun(zz:List aa×List aa)=>jf first zz.1 zz.2)
  (fun s=>RS l s.1/\(∀g∈l,g∈s.1)/\(∀g∈s.2,g∈s.1)/\s.2.length<=401/\(s.1.length<=400->∀a∈s.1,a∈s.2\/∀b∈first,a.Callee=b.Caller->bV a b∈s.1)) (fun s=>2 * (500 - s.1.length)+(if s.2=[]then 0 else 1)) _ ?_ (first,first) ⟨h,fun g hg=>(hf g).2 hg,fun g hg=>hg,h.len,fun _ a ha=>.inl ha⟩
 rintro⟨out,todo⟩ ⟨k1,k2,k3,k4,k5⟩
 simp only at k1 k2 k3 k4 k5 ⊢
 have hJ:kE out todo=some (decide (todo≠[])&&decide (out.length<=400)):=by
  unfold kE
  cases todo with
  |nil=>rw[vag (by simp)];simp
  |cons x r=>
   rw[vaf (by simp)]
   simp
   omega
 unfold jf
 rw[hJ,vaa]
 by_cases hc:todo≠[]/\out.length<=400
 ·rw [vaf (by simpa using hc)]
  obtain⟨⟨o1,o2⟩,e1,q1,q2⟩:=ET hok hf h.len k1 k3 k4
  simp only at q1 q2
  rw[e1,vaa]
  have hc1:=q1.cnt
  have hl1:=q1.rs.len
  refine .inl ⟨_,rfl,⟨q1.rs,fun g hg=>q1.old g (k2 g hg),q1.new,(show o2.length<=401 by omega),fun hl a ha=>?_⟩,?_⟩
  ·simp only at hl ha ⊢
   rcases q1.all a ha with ha|ha
   ·right
    intro b hb hcc
    rcases k5 hc.2 a ha with ht|ht
    ·exact q2 hl a ht b hb hcc
    ·exact q1.old _ (ht b hb hcc)
   ·exact .inl ha
  ·simp only
   rw[vag hc.1]
   by_cases ho:o2=[]
   ·rw[vaf ho];omega
   ·rw[vag ho]
    have:=vbP.2 ho
    omega
 ·rw[vag (by simpa using hc)]
  refine .inr ⟨_,rfl,k1,k2,fun hl a ha b hb hcc=>?_⟩
  have ht:todo=[]:=by
   cases todo with
   |nil=>rfl
   |cons x r=>exact absurd ⟨by simp,hl⟩ hc
  rcases k5 hl a ha with hx|hx
  ·rw[ht]at hx;cases hx
  ·exact hx b ((hf b).2 hb) hcc
theorem xT{l out:List aa}(hs:∀g∈l,g∈out)(hr:∀a∈out,∀b∈l,a.Callee=b.Caller->bV a b∈out):∀g,Cl l g->g∈out/\∀a∈out,a.Callee=g.Caller->bV a g∈out:=fun g hg=>by
 induction hg with
 |base g hg=>exact⟨hs g hg,fun a ha hc=>hr a ha g hg hc⟩
 |comp x y _ _ hc ihx ihy=>
  refine⟨ihy.2 x ihx.1 hc,fun a ha hca=>?_⟩
  rw[<-yH]
  exact ihy.2 _ (ihx.2 a ha hca) hc
theorem zg(l:List aa)(hl:l.length<=100)(ha:∀g∈l,g.Arcs.length<=40):(∀e,f7 l=some e->ee l=some ([],e))/\(f7 l=none->(∃r,ee l=some (r,0)/\qS l r/\r.length<=400)\/(ee l=some ([],7)/\Cb l)):=by
 obtain⟨h1,h2⟩:=EQ l hl ha
 constructor
 ·intro e he
  unfold ee
  rw[h1 e he];rfl
 ·intro he
  have hok:=lN he
  obtain⟨first,e1,r1,m1⟩:=h2 he
  obtain⟨out,e2,r2,s2,c2⟩:=ER hok m1 r1
  unfold ee
  rw[e1,vaa]
  simp only
  rw[e2,vaa]
  by_cases h4:out.length<=400
  ·left
   rw[vag (by simp;omega)]
   exact⟨out,rfl,⟨fun g=>⟨fun hg=>r2.cl g hg,fun hg=>(xT s2 (c2 h4) g hg).1⟩,r2.srt,r2.nd⟩,h4⟩
  ·right
   rw[vaf (by simp;omega)]
   exact⟨rfl,out,r2.nd,by omega,r2.cl⟩
theorem qS.uniq{l r r':List aa}(h:qS l r)(h':qS l r'):r=r':=by
 refine py kp (fun y _=>trivial) ?_ h.srt h'.srt
 exact(List.perm_ext_iff_of_nodup h.nd h'.nd).2 fun g=>(h.mem g).trans (h'.mem g).symm
theorem qS.few{l r:List aa}(h:qS l r)(hl:r.length<=400):¬Cb l:=fun⟨q,hn,hq,hc⟩=>by
 have:=hn.length_le_of_subset (fun g hg=>(h.mem g).2 (hc g hg))
 omega
theorem yD(l:List aa)(hl:l.length<=100)(ha:∀g∈l,g.Arcs.length<=40):ee l=aH l/\∃r e,aH l=some (r,e)/\(e≠0->r=[])/\(e=0->qS l r/\r.length<=400/\∀g∈l,od g)/\(f7 l=none->e≠0->e=7/\Cb l):=by
 obtain⟨p1,p2⟩:=zB l hl ha
 obtain⟨q1,q2⟩:=zg l hl ha
 cases he:f7 l with
 |some e=>
  obtain⟨h1,h2⟩:=p1 e he
  exact⟨(q1 e he).trans h1.symm,[],e,h1,fun _=>rfl,fun h=>absurd h h2,(fun h=>by cases h)⟩
 | none =>
  rcases p2 he with⟨r,h1,h2,h3⟩|⟨h1,h2⟩
  ·rcases q2 he with⟨r',k1,k2,_⟩|⟨_,k2⟩
   ·exact⟨by rw[h1,k1,h2.uniq k2],r,0,h1,fun h=>absurd rfl h,fun _=>⟨h2,h3,lN he⟩,fun _ h=>absurd rfl h⟩
   ·exact absurd k2 (h2.few h3)
  ·rcases q2 he with⟨r',_,k2,k3⟩|⟨k1,_⟩
   ·exact absurd h2 (k2.few k3)
   ·exact⟨by rw[h1,k1],[],7,h1,fun _=>rfl,fun h=>absurd h (by decide),fun _ _=>⟨rfl,h2⟩⟩
theorem D7:∀l:List aa,l.length<=wv (l.map ae)
 |[]=>by simp
 |x::l=>by
  have h1:=D7 l
  have h2:1<=yi (ae x):=by unfold ae;simp only[yi,pm];omega
  simp only[vaY,wv,va8];omega
theorem CO{l:List aa}(h:pm (sl ae l)+0<=1048576):l.length<=1048576:=by
 have h1:=D7 l
 have h2:pm (sl ae l)=wv (l.map ae)+1:=by simp only[pm,sl]
 omega
def ka(x:ag):Bool:=x.From==x.To&&x.Strict
theorem Fu(x:ag):cj x=some (ka x):=by
 unfold cj ka
 cases x.From==x.To<;>simp
theorem yj(s:List ag)(hl:s.length<4611686018427387904):dv s=some (s.any ka):=by
 unfold dv jn gT
 rw[z6 s (by omega) (fun zz=>fO s (s.length:Int) zz) (fun i x2=>(cj x2).bind fun r3=>if r3=true then some (.inr (.inl i))else some (.inl (bN (i+1)))) ka (fun i=>rfl) (fun x hx i=>by rw[Fu];simp only[vaa];split<;>rfl),vaa]
 have h:=vcB (xs:=s) (p:=ka)
 cases hf:s.findIdx? ka with
 |none=>rw[hf]at h;simp at h ⊢;exact h
 |some j=>rw[hf]at h;simp at h ⊢;exact h
def Bu(g:aa):Bool:=(g.Caller==g.Callee)&&decide (bV g g=g)
def ny(g:aa):Bool:=Bu g&&!(g.Arcs.any ka)
theorem EW{g:aa}(h:od g):bS g.Caller g.Callee g.Arcs=some (!Bu g):=by
 unfold bS Bu
 have hal:=gH (vb h h).arcs
 have hc:bF (⟨g.Caller,g.Callee,g.Arcs⟩:aa) (⟨g.Caller,g.Callee,g.Arcs⟩:aa)=some (bV g g):=uC g g h.arcs h.arcs
 cases hq:g.Caller==g.Callee with
 |false=>rfl
 |true=>
  rw[vag (by simp),hc,vaa,Dl _ _ (by omega)]
  rfl
theorem EZ(r:List aa)(hl:r.length<=1000)(hok:∀g∈r,od g):cZ r (r.length:Int) 0=some (if r.any ny=true then .inl ()else .inr ()):=by
 unfold cZ
 refine mC r (by omega) (fun zz=>dP r (r.length:Int) zz) (fun i x4=>(bS x4.Caller x4.Callee x4.Arcs).bind fun o9=>if o9=true then some (.inl (bN (i+1)))else(dv x4.Arcs).bind fun r12=>if(!r12)=true then some (.inr (.inl ()))else some (.inl (bN (i+1)))) ny (.inl ()) (.inr ()) (fun i=>rfl) (fun x hx i=>?_)
 have h:=hok x hx
 have hal:=gH h.arcs
 rw[EW h,vaa,yj _ (by omega),vaa]
 unfold ny
 cases Bu x<;>cases x.Arcs.any ka<;>rfl
theorem v6{l r:List aa}{e:Int}(h:aH l=some (r,e))(hl:e=0->r.length<=1000)(hok:e=0->∀g∈r,od g):bh l=some (if e≠0 then(false,e)else(!(r.any ny),0)):=by
 unfold bh
 rw[h,vaa]
 by_cases he:e=0
 ·subst he
  simp only
  rw[vag (by simp),EZ r (hl rfl) (hok rfl),vaa]
  cases r.any ny<;>simp
 ·simp only
  rw[vaf (by simpa using he),vaf he]
theorem Cy(g:aa)(hl:g.Arcs.length<4611686018427387904):pE g=some (g.Arcs.any ka):=by
 unfold pE q5
 rw[mC g.Arcs (by omega) (fun zz=>oR g.Arcs (g.Arcs.length:Int) zz) (fun i x2=>(kj x2.From x2.To x2.Strict).bind fun o5=>if o5=true then some (.inr (.inl ()))else some (.inl (bN (i+1)))) ka (.inl ()) (.inr ()) (fun i=>rfl) (fun x hx i=>by
  have hJ:kj x.From x.To x.Strict=some (ka x):=by
   unfold kj ka
   cases x.From==x.To<;>simp
  rw[hJ];simp only[vaa];split<;>rfl),vaa]
 cases g.Arcs.any ka<;>rfl
theorem DP(r:List aa)(hl:r.length<=1000)(hok:∀g∈r,od g):iF r (r.length:Int) 0=some (if r.any ny=true then .inl ()else .inr ()):=by
 unfold iF
 refine mC r (by omega) (fun zz=>j6 r (r.length:Int) zz) (fun i x4=>(il x4 x4).bind fun r5=>(fP r5.2 x4.Caller x4.Callee x4.Arcs r5.1.Caller r5.1.Callee r5.1.Arcs).bind fun o11=>if o11=true then some (.inr (.inl ()))else some (.inl (bN (i+1)))) ny (.inl ()) (.inr ()) (fun i=>rfl) (fun x hx i=>?_)
 have h:=hok x hx
 have hal:=gH h.arcs
 have hac:=gH (vb h h).arcs
 rw[tB x x (by omega) (by omega),vaa]
 have hJ:fP (uA x x).2 x.Caller x.Callee x.Arcs (uA x x).1.Caller (uA x x).1.Callee (uA x x).1.Arcs=some (ny x):=by
  have hcr:uA x x=if x.Callee=x.Caller then(bV x x,0)else(F1,6):=by
   unfold uA
   rw[vag (by simp[qt.2 h]),vag (by simp[qt.2 h])]
  rw[hcr]
  unfold fP ny Bu
  have hs:oQ (⟨(bV x x).Caller,(bV x x).Callee,(bV x x).Arcs⟩:aa) (⟨x.Caller,x.Callee,x.Arcs⟩:aa)=some (decide (bV x x=x)):=zh (bV x x) x (by omega)
  have hf:pE (⟨x.Caller,x.Callee,x.Arcs⟩:aa)=some (x.Arcs.any ka):=Cy x (by omega)
  by_cases hq:x.Callee=x.Caller
  ·rw[vaf hq]
   simp only
   rw[vaf (by simp),hs,vaa]
   by_cases hd:bV x x=x
   ·rw[vaf (by simpa using hd),hf,vaa]
    simp[hd,hq]
   ·rw[vag (by simpa using hd)]
    simp[hd]
  ·rw[vag hq]
   simp only
   rw[vag (by simp)]
   have:(x.Caller==x.Callee)=false:=by simpa using fun e=>hq e.symm
   rw[this];rfl
 rw[hJ,vaa]
 cases ny x<;>rfl
theorem vM{l r:List aa}{e:Int}(h:ee l=some (r,e))(hl:e=0->r.length<=1000)(hok:e=0->∀g∈r,od g):kI l=some (if e≠0 then(false,e)else(!(r.any ny),0)):=by
 unfold kI
 rw[h,vaa]
 by_cases he:e=0
 ·subst he
  simp only
  rw[vag (by simp),DP r (hl rfl) (hok rfl),vaa]
  cases r.any ny<;>simp
 ·simp only
  rw[vaf (by simpa using he),vaf he]
theorem Cp{l:List aa}(hl:l.length<=100)(ha:∀g∈l,g.Arcs.length<=40):∃r e,aH l=some (r,e)/\ee l=some (r,e)/\(e≠0->r=[])/\(e=0->qS l r/\r.length<=400/\(∀g∈l,od g)/\∀g∈r,od g)/\(f7 l=none->e≠0->e=7/\Cb l)/\
  bh l=some (if e≠0 then(false,e)else(!(r.any ny),0))/\kI l=some (if e≠0 then(false,e)else(!(r.any ny),0))/\r.length<=400/\(∀g∈r,g.Arcs.length<=40):=by
 obtain⟨h0,r,e,h1,h2,h3,h4⟩:=yD l hl ha
 have hok:e=0->∀g∈r,od g:=fun he g hg=>((h3 he).1.mem g).1 hg|>.ok (h3 he).2.2
 have hlr:e=0->r.length<=1000:=fun he=>by have:=(h3 he).2.1;omega
 refine⟨r,e,h1,h0.trans h1,h2,fun he=>⟨(h3 he).1,(h3 he).2.1,(h3 he).2.2,hok he⟩,h4,v6 h1 hlr hok,vM (h0.trans h1) hlr hok,?_,?_⟩
 ·by_cases he:e=0
  ·exact(h3 he).2.1
  ·rw[h2 he];simp
 ·by_cases he:e=0
  ·exact fun g hg=>by have:=gH (hok he g hg).arcs;omega
  ·rw[h2 he];simp
theorem Bq{l:List aa}(h:∀g∈l,od g):f7 l=none:=by
 unfold f7
 rw[vbV,vbS]
 exact fun g hg=>by simp[qt.2 (h g hg)]
def gN(x:ag):Bool:=(x.From==0&&x.To==0)&&x.Strict
theorem Bo(l:List ag)(hl:l.length<4611686018427387904):dz l (l.length:Int) false 0=some (l.any gN):=by
 unfold dz
 have:=nI l (by omega) (fun i (s:Bool)=>(s,i)) (fun(zz:Bool×Int)=>er l (l.length:Int) zz.1 zz.2) (fun i s x=>if s=true then some (.inl (true,bN (i+1)))else if(x.From==0)=true then(if(x.To==0)=true then some (.inl (x.Strict,bN (i+1)))else some (.inl (false,bN (i+1))))else some (.inl (false,bN (i+1)))) (fun _ _=>True) (fun x s=>s||gN x) (fun s=>s) false trivial (fun i s=>rfl) (fun i hi s _=>⟨by
  unfold gN
  cases s
  ·cases l[i].From==0<;>cases l[i].To==0<;>simp
  ·simp,trivial⟩)
 rw[this]
 congr 1
 have key:∀(l:List ag) (b:Bool),l.foldl (fun s x=>s||gN x) b=(b||l.any gN):=by
  intro l
  induction l with
  |nil=>simp
  |cons x r ih=>intro b;rw[List.foldl_cons,ih];simp[vcl]
 rw[key];simp
def xz(v:List aa)(g:aa):Bool:=(vG g !=0||!(some g.Caller==v.head?.map (·.Caller)))||!(g.Callee==g.Caller)
theorem Bm{y:aa}{t:List aa}(g:aa)(hl:g.Arcs.length<=40):cr (y::t) g.Caller g.Callee g.Arcs=some (xz (y::t) g):=by
 unfold cr xz
 have hv:ba (⟨g.Caller,g.Callee,g.Arcs⟩:aa)=some (vG g):=yn g (by omega)
 have hi:d9 (y::t) 0=some y:=dR [] y t
 rw[hv,vaa,hi]
 cases hq:(vG g !=0)with
 |true=>simp
 |false=>
  rw[vag (by simp),vaa]
  simp
  by_cases hc:g.Caller=y.Caller<;>simp[hc]
theorem Bn(v:List aa)(hne:v≠[])(hl:v.length<=1000)(ha:∀g∈v,g.Arcs.length<=40):(aL v (v.length:Int) true false 0=some (.inl true))\/((∀g∈v,xz v g=false)/\aL v (v.length:Int) true false 0=some (.inr (v.all (fun g=>g.Arcs.any gN),v.any (fun g=>g.Arcs.isEmpty)))):=by
 have key:∀(r pre:List aa) (p q:Bool),v=pre++r->(∀g∈pre,xz v g=false)->
   (aL v (v.length:Int) p q (pre.length:Int)=some (.inl true))\/((∀g∈v,xz v g=false)/\aL v (v.length:Int) p q (pre.length:Int)=some (.inr (p&&r.all (fun g=>g.Arcs.any gN),q||r.any (fun g=>g.Arcs.isEmpty)))):=by
  intro r
  induction r with
  |nil=>
   intro pre p q h hp
   right
   refine⟨fun g hg=>hp g (by rw[h]at hg;simpa using hg),?_⟩
   unfold aL
   refine aG ?_
   unfold a7
   rw[vag (by rw[h];simp)]
   simp
  | cons x r ih =>
   intro pre p q h hp
   have hlt:pre.length<v.length:=by rw[h];simp
   have hi:d9 v (pre.length:Int)=some x:=by rw[h];exact dR pre x r
   have hx:=ha x (by rw[h];simp)
   have hJ:cr v x.Caller x.Callee x.Arcs=some (xz v x):=by
    cases v with
    |nil=>exact absurd rfl hne
    |cons y t=>exact Bm x hx
   cases ho:xz v x with
   |true=>
    left
    unfold aL
    refine aG ?_
    unfold a7
    simp only
    rw[vaf (by simpa using hlt),hi,vaa,hJ,vaa,ho,vaf rfl,ji];rfl
   | false =>
    have hJ5:dy p (x.Arcs.any gN)=some (p&&x.Arcs.any gN):=by
     unfold dy
     cases p<;>simp
    have hb:a7 v (v.length:Int) p q (pre.length:Int)=some (.inl (p&&x.Arcs.any gN,q||x.Arcs.isEmpty,(((pre++[x]).length:Nat):Int))):=by
     unfold a7
     rw[vaf (by simpa using hlt),hi,vaa,hJ,vaa,ho,vag (by simp),Bo _ (by omega),vaa,hJ5,vaa,dh (by omega) (by omega)]
     have he:((x.Arcs.length:Int)==0)=x.Arcs.isEmpty:=by cases x.Arcs<;>simp;omega
     rw[he]
     cases q<;>simp
    have:=ih (pre++[x]) (p&&x.Arcs.any gN) (q||x.Arcs.isEmpty) (by rw[h];simp) (fun g hg=>by
     rcases vaC.1 hg with hg|hg
     ·exact hp g hg
     ·rw[vaW.1 hg];exact ho)
    unfold aL at this ⊢
    rw[cz hb]
    rcases this with this|⟨t1,t2⟩
    ·exact .inl this
    ·refine .inr ⟨t1,?_⟩
     rw[t2]
     simp only[List.all_cons,List.any_cons,Bool.and_assoc,vcl]
 rcases key v [] true false rfl (by simp)with h|⟨h1,h2⟩
 ·exact .inl h
 ·refine .inr ⟨h1,?_⟩
  simpa using h2
theorem BY{a b:aa}(ha:od a)(hb:od b)(h1:a.Arcs.any gN=true)(h2:b.Arcs.any gN=true):(bV a b).Arcs.any gN=true:=by
 have key:∀l,wP l->l.any gN=true->cO l (0 * 6+0)>0/\cO l (0 * 6+0)=2:=fun l hl h=>by
  obtain⟨x,hx,hz⟩:=vaT.1 h
  unfold gN at hz
  simp only[vac,vaD]at hz
  have h3:=((gJ hl (f:=0) (t:=0) (by omega) (by omega)).2 x hx hz.1.1 hz.1.2).2 hz.2
  exact⟨by omega,h3⟩
 obtain⟨p1,p2⟩:=key _ ha.arcs h1
 obtain⟨q1,q2⟩:=key _ hb.arcs h2
 have hm:gF (cO a.Arcs) (cO b.Arcs) (0 * 6+0)=2:=by
  rw[g7 (by omega) (by omega),(f0 (g5 _) (g5 _) 0 0 6).2.2]
  exact⟨0,by omega,p1,q1,.inl p2⟩
 refine vaT.2 ⟨iZ (gF (cO a.Arcs) (cO b.Arcs)) 0,kB.2 ⟨0,by omega,(by show gF (cO a.Arcs) (cO b.Arcs) (0 * 6+0)>0;omega),rfl⟩,?_⟩
 unfold gN iZ
 have hm0:gF (cO a.Arcs) (cO b.Arcs) 0=2:=hm
 simp[hm0]
theorem Dw{l:List aa}(hok:∀g∈l,od g)(h:∀g∈l,g.Arcs.any gN=true){g:aa}(hg:Cl l g):g.Arcs.any gN=true:=by
 induction hg with
 |base g hg=>exact h g hg
 |comp a b h1 h2 _ iha ihb=>exact BY (h1.ok hok) (h2.ok hok) iha ihb
theorem BZ{l:List ag}(h:l.any gN=true):l.any ka=true:=by
 obtain⟨x,hx,hz⟩:=vaT.1 h
 refine vaT.2 ⟨x,hx,?_⟩
 unfold gN at hz
 unfold ka
 simp only[vac,vaD]at hz ⊢
 exact⟨hz.1.1.trans hz.1.2.symm,hz.2⟩
theorem zN:ja (gF (cO []) (cO []))=[]:=by kernel_rfl
theorem Bk{g:aa}(h:g.Arcs=[])(hc:g.Callee=g.Caller):ny g=true:=by
 obtain⟨a,b,l⟩:=g
 simp only at h hc
 subst h hc
 unfold ny Bu bV
 simp only
 rw[zN]
 simp
theorem pk(l:List aa)(h:pm (sl ae l)+0<=1048576):gO l=some true:=by
 have hlen:=CO h
 unfold gO
 have hJ1:dw l=some (!(l.all (fun g=>decide (g.Arcs.length<=40))&&decide ((l.length:Int)<=4))||l.isEmpty):=by
  unfold dw
  rw[EE 4 l (by omega),vaa]
  have he:((l.length:Int)==0)=l.isEmpty:=by cases l<;>simp;omega
  rw[he]
  cases(l.all (fun g=>decide (g.Arcs.length<=40))&&decide ((l.length:Int)<=4))<;>simp
 rw[hJ1,vaa]
 cases hf:(!(l.all (fun g=>decide (g.Arcs.length<=40))&&decide ((l.length:Int)<=4))||l.isEmpty)with
 |true=>rw[vaf rfl,ji];rfl
 | false =>
  rw[vbv,Bool.not_eq_false']at hf
  obtain⟨h1,h2⟩:=Cz hf.1
  have hne:l≠[]:=fun e=>by rw[e]at hf;simp at hf
  rw[vag (by simp)]
  rcases Bn l hne (by omega) h1 with hL|⟨hin,hL⟩
  ·rw[hL,vaa]
  ·have hok:∀g∈l,od g:=fun g hg=>qt.1 (by
    have:=hin g hg
    unfold xz at this
    simp only[vbv]at this
    simpa using this.1.1)
   have hcc:∀g∈l,g.Callee=g.Caller:=fun g hg=>by
    have:=hin g hg
    unfold xz at this
    simp only[vbv]at this
    simpa using this.2
   obtain⟨r,e,_,_,_,k3,k4,k5,_⟩:=Cp (l:=l) (by omega) h1
   rw[hL,vaa,k5]
   simp only[vaa]
   by_cases he:e=0
   ·subst he
    obtain⟨hC,_,_,hokr⟩:=k3 rfl
    simp only[ne_eq,not_true_eq_false,if_false]
    rw[vag (by simp)]
    cases hall:l.all (fun g=>g.Arcs.any gN)with
    | true =>
     have hz:=van.1 hall
     have hb:r.any ny=false:=by
      rw[vbf]
      intro g hg
      have:=BZ (Dw hok hz ((hC.mem g).1 hg))
      unfold ny
      simp[this]
     have hem:l.any (fun g=>g.Arcs.isEmpty)=false:=by
      rw[vbf]
      intro g hg
      have:=hz g hg
      cases hA:g.Arcs with
      |nil=>rw[hA]at this;simp at this
      |cons=>simp
     rw[hb,hem]
     simp only[vbr,vbM,if_true,var,if_false]
     rw[ji];rfl
    | false =>
     cases hem:l.any (fun g=>g.Arcs.isEmpty)with
     |false=>
      simp only[vbM,if_true]
      rw[ji];rfl
     |true=>
      obtain⟨g,hg,hgA⟩:=vaT.1 hem
      have hbg:=Bk (List.isEmpty_iff.1 hgA) (hcc g hg)
      have hb:r.any ny=true:=vaT.2 ⟨g,(hC.mem g).2 (.base g hg),hbg⟩
      rw[hb]
      simp only[vbr,vbM,if_true,var,if_false]
      rw[ji];rfl
   ·obtain⟨e7,_⟩:=k4 (Bq hok) he
    subst e7
    simp only[ne_eq,he,not_false_eq_true,if_true]
    rw[vaf (by rfl)]
    simp only[vbM,if_true]
    rw[vaf (by rfl),ji];rfl
end Go.Proofs.YtoficachfgggjaaDoor
