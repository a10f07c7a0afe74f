/- PROVED: a part of the proof. Conditions: none. -/
import Derived.Test.YtoficachfgggjaaDoorPkC13
noncomputable section
namespace Go.Proofs.YtoficachfgggjaaDoor
open Go
set_option linter.unusedSimpArgs false
set_option linter.unusedVariables false
inductive Cl(l:List aa):aa->Prop where
 |base (g:aa):g∈l->Cl l g
 |comp (a b:aa):Cl l a->Cl l b->a.Callee=b.Caller->Cl l (cz a b)
theorem Cl.ok{l:List aa}(h:∀g∈l,sd g){g:aa}(hg:Cl l g):sd g:=by
 induction hg with
 |base g hg=>exact h g hg
 |comp a b _ _ _ iha ihb=>exact yh iha ihb
theorem yb{σ X:Type}(body:σ->Option (σ⊕X))(I:σ->Prop)(μ:σ->Nat)(Q:X->Prop)
  (h:∀s,I s->(∃s',body s=some (.inl s')/\I s'/\μ s'<μ s)\/(∃x,body s=some (.inr x)/\Q x)):∀s,I s->∃x,loop body s=some x/\Q x:=by
 intro s
 induction hm:μ s using Nat.strongRecOn generalizing s with
 | _ n ih =>
  intro hI
  rcases h s hI with⟨s',h1,h2,h3⟩|⟨x,h1,h2⟩
  ·obtain⟨x,h4,h5⟩:=ih (μ s') (by omega) s' rfl h2
   exact⟨x,by rw[cW h1];exact h4,h5⟩
  ·exact⟨x,aX h1,h2⟩
def FY(m:List (ag×Bool))(out:List aa):Prop:=∀g,sd g->(q8 m (G2 g)).getD false=decide (g∈out)
theorem BV{α:Type}(v:α)(k:ag):∀(m:List (ag×α)) (j:ag),q8 (uW m k v) j=if j=k then some v else q8 m j
 | [],j => by
  unfold uW q8
  by_cases h:j=k
  ·subst h;simp
  ·simp[h]
 | e :: r,j => by
  have ih:=BV v k r j
  unfold uW
  by_cases hk:(k==e.1)=true
  ·rw[vaf hk]
   have hk':k=e.1:=by simpa using hk
   unfold q8
   by_cases h:j=k
   ·subst h;simp
   ·have:¬j=e.1:=fun x=>h (x.trans hk'.symm)
    simp[h,this]
  ·rw[vag hk]
   unfold q8 at ih ⊢
   rw[List.find?_cons,List.find?_cons]
   by_cases h:(j==e.1)=true
   ·have hj:j=e.1:=by simpa using h
    have:¬j=k:=fun x=>hk (by rw[<-x,hj];simp)
    rw[h]
    simp[this]
   ·simp only[h]
    exact ih
def jp(out:List aa)(g:aa):List aa:=if g∈out then out else out++[g]
theorem Hi{g:aa}{m:List (ag×Bool)}{out:List aa}(hg:sd g)(hm:FY m out)(hl:out.length<=1000):∃m',bK g m out=some (m',jp out g)/\FY m' (jp out g):=by
 unfold bK
 rw[Gc hg,vaa,hm g hg]
 unfold jp
 by_cases h:g∈out
 ·rw[vag (by simp[h]),vaf h]
  exact⟨m,rfl,hm⟩
 ·rw[vaf (by simp[h]),vag h]
  have hal:=iD hg.arcs
  have hcl:sW g.Arcs=some g.Arcs:=by unfold sW;rw[vaf (by unfold dW;omega)]
  rw[hcl,vaa,pw (by simp;omega),vaa]
  refine⟨uW m (G2 g) true,rfl,fun k hk=>?_⟩
  rw[BV]
  by_cases he:G2 k=G2 g
  ·rw[vaf he]
   have:=GK hk hg he
   subst this
   simp
  ·rw[vag he,hm k hk]
   have:k≠g:=fun e=>he (by rw[e])
   simp[this]
theorem j0{out:List aa}{g x:aa}:x∈jp out g↔x∈out\/x=g:=by
 unfold jp
 split
 ·rename_i h
  exact⟨.inl,fun hh=>hh.elim id fun e=>e▸h⟩
 ·simp
theorem Cz{out:List aa}{g:aa}(h:out.Nodup):(jp out g).Nodup:=by
 unfold jp
 split
 ·exact h
 ·rename_i hg
  rw[vcJ]
  exact⟨h,by simp,fun a ha b hb=>by rw[va2.1 hb];exact fun e=>hg (e▸ha)⟩
theorem xr{out:List aa}{g:aa}:out.length<=(jp out g).length/\(jp out g).length<=out.length+1:=by
 unfold jp
 split<;>simp
theorem kV{out:List aa}{g x:aa}{i:Nat}(h:out[i]? =some x):(jp out g)[i]? =some x:=by
 unfold jp
 split
 ·exact h
 ·rw[vad (vaZ.1 h).1];exact h
structure CS(l:List aa)(m:List (ag×Bool))(out:List aa):Prop where
 seen:FY m out
 nd:out.Nodup
 cl:∀g∈out,Cl l g
theorem EU{l:List aa}(hok:∀g∈l,sd g){m:List (ag×Bool)}{out:List aa}{g:aa}(h:CS l m out)(hg:Cl l g)(hl:out.length<=1000):∃m',bK g m out=some (m',jp out g)/\CS l m' (jp out g):=by
 obtain⟨m',h1,h2⟩:=Hi (hg.ok hok) h.seen hl
 refine⟨m',h1,h2,Cz h.nd,fun x hx=>?_⟩
 rcases j0.1 hx with hx|rfl
 ·exact h.cl x hx
 ·exact hg
theorem Hv(l:List aa)(hl:l.length<=1000000)(ha:∀g∈l,g.Arcs.length<=40):bp l (l.length:Int) 0=some (match l.find? (fun g=>vG g !=0)with|some g=>.inl ([],vG g)|none=>.inr ()):=by
 have key:∀(r pre:List aa),l=pre++r->bp l (l.length:Int) (pre.length:Int)=some (match r.find? (fun g=>vG g !=0)with|some g=>.inl ([],vG g)|none=>.inr ()):=by
  intro r
  induction r with
  | nil =>
   intro pre h
   unfold bp
   rw[aX (x:=.inr ())]
   ·rfl
   ·unfold ce
    rw[vag (by rw[h];simp)]
  | cons x r ih =>
   intro pre h
   have hlt:pre.length<l.length:=by rw[h];simp
   have hb:ce l (l.length:Int) (pre.length:Int)=if(vG x !=0)=true then some (.inr (.inl ([],vG x)))else some (.inl (((pre++[x]).length:Nat):Int)):=by
    unfold ce
    have hi:eQ l (pre.length:Int)=some x:=by rw[h];exact eW pre x r
    have hx:=ha x (by rw[h];simp)
    rw[vaf (by simpa using hlt),hi,vaa,ET x (by omega),vaa,dC (by omega) (by omega)]
    congr 3
    simp
   unfold bp
   rw[List.find?_cons]
   cases hv:(vG x !=0)with
   |true=>rw[hv,vaf rfl]at hb;rw[aX hb]
   |false=>
    rw[hv,vag (by simp)]at hb
    rw[cW hb]
    have:=ih (pre++[x]) (by rw[h];simp)
    unfold bp at this
    exact this
 have:=key l [] rfl
 exact this
theorem Hw(l:List aa)(hl:l.length<=100)(hok:∀g∈l,sd g):∃m out,bR l (l.length:Int) 0 [] []=some (m,out)/\CS l m out/\(∀g∈l,g∈out)/\out.length<=l.length:=by
 have key:∀(r pre:List aa) (m:List (ag×Bool)) (out:List aa),l=pre++r->CS l m out->(∀g∈pre,g∈out)->out.length<=pre.length->
   ∃m' out',bR l (l.length:Int) (pre.length:Int) m out=some (m',out')/\CS l m' out'/\(∀g∈l,g∈out')/\out'.length<=l.length:=by
  intro r
  induction r with
  |nil=>
   intro pre m out h hc hp ho
   refine⟨m,out,?_,hc,fun g hg=>hp g (by rw[h]at hg;simpa using hg),by rw[h];simpa using ho⟩
   unfold bR
   refine aX ?_
   unfold cm
   rw[vag (by rw[h];simp)]
  | cons x r ih =>
   intro pre m out h hc hp ho
   have hlt:pre.length<l.length:=by rw[h];simp
   obtain⟨m',h1,h2⟩:=EU hok hc (.base x (by rw[h];simp)) (by omega)
   have hb:cm l (l.length:Int) (pre.length:Int) m out=some (.inl ((((pre++[x]).length:Nat):Int),m',jp out x)):=by
    unfold cm
    have hi:eQ l (pre.length:Int)=some x:=by rw[h];exact eW pre x r
    rw[vaf (by simpa using hlt),hi,vaa,h1,vaa,dC (by omega) (by omega)]
    congr 3
    simp
   obtain⟨m2,out2,k1,k2⟩:=ih (pre++[x]) m' (jp out x) (by rw[h];simp) h2 (fun g hg=>by
    rcases vaD.1 hg with hg|hg
    ·exact j0.2 (.inl (hp g hg))
    ·exact j0.2 (.inr (va2.1 hg))) (by have:=(xr (out:=out) (g:=x)).2;simp;omega)
   refine⟨m2,out2,?_,k2⟩
   unfold bR at k1 ⊢
   rw[cW hb];exact k1
 have:=key l [] [] [] rfl ⟨fun g _=>by simp[q8],by simp,by simp⟩ (by simp) (by simp)
 exact this
def AD(out:List aa)(i k:Nat):Prop:=∀x y,out[i]? =some x->out[k]? =some y->(x.Callee=y.Caller->cz x y∈out)/\(y.Callee=x.Caller->cz y x∈out)
def Ao(out:List aa)(i:Nat):Prop:=∀p q,p<i->q<=p->AD out p q
theorem yj{out:List aa}{g:aa}{i k:Nat}(hi:i<out.length)(hk:k<out.length)(h:AD out i k):AD (jp out g) i k:=fun x y hx hy=>by
 have e1:out[i]? =some x:=by rw[kV (vab hi)]at hx;rw[<-hx];exact vab hi
 have e2:out[k]? =some y:=by rw[kV (vab hk)]at hy;rw[<-hy];exact vab hk
 obtain⟨h1,h2⟩:=h x y e1 e2
 exact⟨fun c=>j0.2 (.inl (h1 c)),fun c=>j0.2 (.inl (h2 c))⟩
structure CI(l:List aa)(i k:Nat)(m:List (ag×Bool))(out:List aa):Prop where
 cs:CS l m out
 sub:∀g∈l,g∈out
 len:out.length<=402
 done:Ao out i
 row:∀q,q<k->AD out i q
theorem EL{l:List aa}{i k:Nat}{m m':List (ag×Bool)}{out:List aa}{g:aa}(h:CI l i k m out)(hi:i<out.length)(hk:k<=i)(hc:CS l m' (jp out g))(hl:(jp out g).length<=402):CI l i k m' (jp out g):=
 ⟨hc,fun x hx=>j0.2 (.inl (h.sub x hx)),hl,fun p q hp hq=>yj (by omega) (by omega) (h.done p q hp hq),fun q hq=>yj hi (by omega) (h.row q hq)⟩
theorem GP{l:List aa}(hok:∀g∈l,sd g){i k:Nat}{m:List (ag×Bool)}{out:List aa}(h:CS l m out)(hi:i<out.length)(hk:k<out.length)(hl:out.length<=401):∃m' g,cO (i:Int) (k:Int) m out=some (m',jp out g)/\CS l m' (jp out g)/\(out[i].Callee=out[k].Caller->g=cz out[i] out[k]):=by
 unfold cO
 rw[eX out i hi,vaa,eX out k hk,vaa]
 have ci:=h.cl _ (vaP hi)
 have ck:=h.cl _ (vaP hk)
 by_cases hc:out[i].Callee=out[k].Caller
 ·rw[vaf (by simpa using hc),vaa,vaa,xA _ _ (ci.ok hok).arcs (ck.ok hok).arcs,vaa]
  obtain⟨m',h1,h2⟩:=EU hok h (.comp _ _ ci ck hc) (by omega)
  rw[h1,vaa]
  exact⟨m',_,rfl,h2,fun _=>rfl⟩
 ·rw[vag (by simpa using hc)]
  have e:jp out out[i]=out:=by unfold jp;rw[vaf (vaP hi)]
  exact⟨m,out[i],by rw[e],by rw[e];exact h,fun hh=>absurd hh hc⟩
theorem Iw{l:List aa}(hok:∀g∈l,sd g){i k:Nat}{m:List (ag×Bool)}{out:List aa}(h:CI l i k m out)(hi:i<out.length)(hk:k<=i)(hl:out.length<=400):∃m' out',eh (i:Int) (k:Int) m out=some (m',out')/\CI l i (k+1) m' out'/\out.length<=out'.length:=by
 unfold eh
 obtain⟨m1,g1,e1,c1,f1⟩:=GP hok h.cs hi (show k<out.length by omega) (by omega)
 rw[e1,vaa]
 have l1:=xr (out:=out) (g:=g1)
 have I1:=EL h hi hk c1 (by omega)
 have hi1:i<(jp out g1).length:=by omega
 have hk1:k<(jp out g1).length:=by omega
 have gi:(jp out g1)[i]=out[i]:=by
  have:=kV (g:=g1) (vab hi)
  rw[vab hi1]at this
  exact vaR this
 have gk:(jp out g1)[k]=out[k]'(by omega):=by
  have:=kV (g:=g1) (vab (show k<out.length by omega))
  rw[vab hk1]at this
  exact vaR this
 obtain⟨m2,g2,e2,c2,f2⟩:=GP (i:=k) (k:=i) hok c1 hk1 hi1 (by omega)
 have l2:=xr (out:=jp out g1) (g:=g2)
 have I2:=EL I1 hi1 hk c2 (by omega)
 refine⟨m2,jp (jp out g1) g2,?_,⟨I2.cs,I2.sub,I2.len,I2.done,fun q hq=>?_⟩,by omega⟩
 ·unfold cO at e2
  exact e2
 ·by_cases hqk:q=k
  ·subst hqk
   intro x y hx hy
   have hx':x=out[i]:=by
    rw[kV (kV (vab hi))]at hx
    exact(vaR hx).symm
   have hy':y=out[q]'(by omega):=by
    rw[kV (kV (vab (show q<out.length by omega)))]at hy
    exact(vaR hy).symm
   subst hx';subst hy'
   refine⟨fun c=>?_,fun c=>?_⟩
   ·rw[<-f1 c];exact j0.2 (.inl (j0.2 (.inr rfl)))
   ·rw[gi,gk]at f2
    rw[<-f2 c];exact j0.2 (.inr rfl)
  ·exact I2.row q (by omega)
theorem Iy{l:List aa}(hok:∀g∈l,sd g){i:Nat}(hi400:i<=400){m:List (ag×Bool)}{out:List aa}(h:CI l i 0 m out)(hi:i<out.length):∃o:List (ag×Bool)×List aa,ej (i:Int) 0 m out=some o/\(CI l i 0 o.1 o.2/\out.length<=o.2.length/\(o.2.length<=400->Ao o.2 (i+1))):=by
 unfold ej
 refine yb (fun(zz:Int×(List (ag×Bool))×(List aa))=>dt (i:Int) zz.1 zz.2.1 zz.2.2)
  (fun s=>∃k:Nat,s.1=(k:Int)/\k<=i+1/\CI l i k s.2.1 s.2.2/\out.length<=s.2.2.length) (fun s=>i+1 - s.1.toNat) _ ?_ (0,m,out) ⟨0,rfl,by omega,h,vap _⟩
 rintro⟨k',m1,out1⟩ ⟨k,rfl,hk,hc,hl⟩
 simp only at hc hl ⊢
 have hJ6:ef (i:Int) (k:Int) out1=some (decide (k<=i)&&decide (out1.length<=400)):=by
  unfold ef
  by_cases h1:k<=i
  ·rw[vaf (by simpa using h1)]
   simp[h1]
   omega
  ·rw[vag (by simpa using h1)];simp[h1]
 unfold dt
 rw[hJ6,vaa]
 by_cases hcond:k<=i/\out1.length<=400
 ·rw[vaf (by simpa using hcond)]
  obtain⟨m2,out2,e1,c2,hl2⟩:=Iw hok hc (by omega) hcond.1 hcond.2
  rw[e1,vaa]
  refine .inl ⟨_,rfl,⟨k+1,?_,by omega,c2,(show out.length<=out2.length by omega)⟩,?_⟩
  ·simp only;rw[dC (by omega) (by omega)];omega
  ·simp only;rw[dC (by omega) (by omega)];omega
 ·rw[vag (by simpa using hcond)]
  refine .inr ⟨_,rfl,⟨hc.cs,hc.sub,hc.len,hc.done,fun q hq=>absurd hq (vaI _)⟩,hl,fun hle=>?_⟩
  simp only at hle ⊢
  have hki:k=i+1:=by omega
  subst hki
  intro p q hp hq
  by_cases hpi:p=i
  ·subst hpi;exact hc.row q (by omega)
  ·exact hc.done p q (by omega) hq
theorem Ix{l:List aa}(hok:∀g∈l,sd g){m:List (ag×Bool)}{out:List aa}(h:CS l m out)(hsub:∀g∈l,g∈out)(hl:out.length<=100):∃o:List (ag×Bool)×List aa,ei 0 m out=some o/\(CS l o.1 o.2/\o.2.length<=402/\(∀g∈l,g∈o.2)/\(o.2.length<=400->Ao o.2 o.2.length)):=by
 unfold ei
 refine yb (fun(zz:Int×(List (ag×Bool))×(List aa))=>dq zz.1 zz.2.1 zz.2.2)
  (fun s=>∃i:Nat,s.1=(i:Int)/\i<=402/\CI l i 0 s.2.1 s.2.2\/s.2.2.length>400/\CI l 0 0 s.2.1 s.2.2) (fun s=>(if s.2.2.length<=400 then 1000 else 0)+(500 - s.1.toNat)) _ ?_ (0,m,out) ⟨0,.inl ⟨rfl,by omega,⟨h,hsub,(show out.length<=402 by omega),fun p q hp=>absurd hp (vaI _),fun q hq=>absurd hq (vaI _)⟩⟩⟩
 rintro⟨i',m1,out1⟩ ⟨i,hI⟩
 simp only at hI ⊢
 have hJ4:∀j:Int,ee j out1=some (decide (j<(out1.length:Int))&&decide (out1.length<=400)):=fun j=>by
  unfold ee
  by_cases h1:j<(out1.length:Int)
  ·rw[vaf (by simpa using h1)]
   simp[h1]
   omega
  ·rw[vag (by simpa using h1)];simp[h1]
 unfold dq
 rw[hJ4,vaa]
 by_cases hlen:out1.length<=400
 ·have hI:i'=(i:Int)/\i<=402/\CI l i 0 m1 out1:=by
   rcases hI with h|h
   ·exact h
   ·omega
  obtain⟨rfl,hi,hc⟩:=hI
  by_cases hlt:i<out1.length
  ·rw[vaf (by simp;omega)]
   obtain⟨⟨m2,out2⟩,e1,c2,hl2,hd2⟩:=Iy hok (by omega) hc hlt
   simp only at c2 hl2 hd2
   rw[e1,vaa]
   refine .inl ⟨_,rfl,?_,?_⟩
   ·simp only
    rw[dC (by omega) (by omega)]
    by_cases h4:out2.length<=400
    ·exact⟨i+1,.inl ⟨by omega,by omega,⟨c2.cs,c2.sub,c2.len,hd2 h4,fun q hq=>absurd hq (vaI _)⟩⟩⟩
    ·exact⟨0,.inr ⟨by omega,⟨c2.cs,c2.sub,c2.len,fun p q hp=>absurd hp (vaI _),fun q hq=>absurd hq (vaI _)⟩⟩⟩
   ·simp only
    rw[dC (by omega) (by omega),vaf hlen]
    split<;>omega
  ·rw[vag (by simp;omega)]
   exact .inr ⟨_,rfl,hc.cs,hc.len,hc.sub,fun _ p q hp hq=>hc.done p q (by simp only at hp;omega) hq⟩
 ·rw[vag (by simp;omega)]
  rcases hI with⟨_,_,hc⟩|⟨_,hc⟩
  ·exact .inr ⟨_,rfl,hc.cs,hc.len,hc.sub,fun h4=>absurd h4 hlen⟩
  ·exact .inr ⟨_,rfl,hc.cs,hc.len,hc.sub,fun h4=>absurd h4 hlen⟩
def jr(l:List aa):Option Int:=(l.find? (fun g=>vG g !=0)).map vG
theorem nD{l:List aa}(h:jr l=none):∀g∈l,sd g:=fun g hg=>by
 unfold jr at h
 rw[vco,vb9]at h
 have:=h g hg
 exact v7.1 (by simpa using this)
structure tv(l r:List aa):Prop where
 mem:∀g,g∈r↔Cl l g
 srt:oA te r
 nd:r.Nodup
def EQ(l:List aa):Prop:=∃r:List aa,r.Nodup/\r.length>400/\∀g∈r,Cl l g
theorem BF{l out:List aa}(hs:∀g∈l,g∈out)(hd:Ao out out.length):∀g,Cl l g->g∈out:=fun g hg=>by
 induction hg with
 |base g hg=>exact hs g hg
 | comp a b _ _ hc iha ihb =>
  obtain⟨p,hp⟩:=vbt iha
  obtain⟨q,hq⟩:=vbt ihb
  have hpl:=(vaZ.1 hp).1
  have hql:=(vaZ.1 hq).1
  by_cases hpq:q<=p
  ·exact(hd p q hpl hpq a b hp hq).1 hc
  ·exact(hd q p hql (by omega) b a hq hp).2 hc
theorem Cw(l:List aa)(hl:l.length<=100)(ha:∀g∈l,g.Arcs.length<=40):(∀e,jr l=some e->aK l=some ([],e)/\e≠0)/\(jr l=none->(∃r,aK l=some (r,0)/\tv l r/\r.length<=400)\/(aK l=some ([],7)/\EQ l)):=by
 have h1:=Hv l (by omega) ha
 constructor
 ·intro e he
  unfold jr at he
  cases hf:l.find? (fun g=>vG g !=0)with
  |none=>rw[hf]at he;cases he
  |some g=>
   rw[hf]at h1 he
   cases he
   unfold aK
   rw[h1,vaa]
   refine⟨rfl,?_⟩
   have:=vbI hf
   simpa using this
 ·intro he
  have hok:=nD he
  have hf:l.find? (fun g=>vG g !=0)=none:=by
   unfold jr at he
   rwa[vco]at he
  rw[hf]at h1
  obtain⟨m,out,e2,c2,s2,l2⟩:=Hw l hl hok
  obtain⟨⟨m3,out3⟩,e3,c3,l3,s3,d3⟩:=Ix hok c2 s2 (by omega)
  simp only at c3 l3 s3 d3
  unfold aK
  rw[h1,vaa]
  simp only
  rw[e2,vaa]
  simp only
  rw[e3,vaa]
  simp only
  by_cases h4:out3.length<=400
  ·left
   rw[vag (by simp;omega)]
   obtain⟨r,hr1,hr2,hr3⟩:=AX (l:=out3) (fun g hg=>by have:=iD ((c3.cl g hg).ok hok).arcs;omega) (by omega)
   rw[hr1,vaa]
   refine⟨r,rfl,⟨fun g=>⟨fun hg=>c3.cl g (hr2.mem_iff.1 hg),fun hg=>hr2.mem_iff.2 (BF s3 (d3 h4) g hg)⟩,hr3,hr2.nodup_iff.2 c3.nd⟩,by rw[hr2.length_eq];exact h4⟩
  ·right
   rw[vaf (by simp;omega)]
   exact⟨rfl,out3,c3.nd,by omega,c3.cl⟩
theorem zH{α σ τ X:Type}(l:List α)(body:τ->Option (τ⊕X))(mk:Int->σ->τ)(e:σ->X)(I:Nat->σ->Prop)
  (hin:∀(i:Nat) (h:i<l.length) s,I i s->∃s',body (mk (i:Int) s)=some (.inl (mk ((i+1:Nat):Int) s'))/\I (i+1) s') (hend:∀s,I l.length s->body (mk (l.length:Int) s)=some (.inr (e s))) (s:σ) (h0:I 0 s):
  ∃s',loop body (mk 0 s)=some (e s')/\I l.length s':=by
 have key:∀k i s,k+i=l.length->I i s->∃s',loop body (mk (i:Int) s)=some (e s')/\I l.length s':=by
  intro k
  induction k with
  |zero=>
   intro i s hi hI
   have:i=l.length:=by omega
   subst this
   exact⟨s,aX (hend s hI),hI⟩
  |succ k ih=>
   intro i s hi hI
   obtain⟨s',h1,h2⟩:=hin i (by omega) s hI
   obtain⟨s2,h3,h4⟩:=ih (i+1) s' (by omega) h2
   exact⟨s2,by rw[cW h1];exact h3,h4⟩
 exact key l.length 0 s (by omega) h0
def mZ(out:List aa)(g:aa):List aa:=out.takeWhile fun x=>te x g
def na(out:List aa)(g:aa):List aa:=out.dropWhile fun x=>te x g
def qn(out:List aa)(g:aa):List aa:=if(na out g).head?=some g then out else mZ out g++g::na out g
theorem yA(out:List aa)(g:aa):mZ out g++na out g=out:=List.takeWhile_append_dropWhile
theorem AO{out:List aa}{g x:aa}(h:x∈mZ out g):te x g=true:=by
 unfold mZ at h
 induction out with
 |nil=>simp at h
 | cons y r ih =>
  rw[List.takeWhile_cons]at h
  split at h
  ·rename_i hy
   rcases vay.1 h with rfl|h
   ·exact hy
   ·exact ih h
  ·simp at h
theorem vH{out:List aa}{g y:aa}{r:List aa}(h:na out g=y::r):te y g=false:=by
 unfold na at h
 have:=List.head?_dropWhile_not (fun x=>te x g) out
 rw[h]at this
 simpa using this
theorem DG(g:aa):te g g=false:=lY.irr g trivial
theorem eI{out:List aa}{g x:aa}:x∈qn out g↔x∈out\/x=g:=by
 unfold qn
 split
 ·rename_i h
  have hg:g∈out:=by
   rw[<-yA out g]
   cases hq:na out g with
   |nil=>rw[hq]at h;cases h
   |cons y r=>rw[hq]at h;simp at h;subst h;simp
  exact⟨.inl,fun hh=>hh.elim id fun e=>e▸hg⟩
 ·have:=yA out g
  constructor
  ·intro hx
   rcases vaD.1 hx with hx|hx
   ·exact .inl (by rw[<-this];simp[hx])
   ·rcases vay.1 hx with hx|hx
    ·exact .inr hx
    ·exact .inl (by rw[<-this];simp[hx])
  ·rintro(hx|rfl)
   ·rw[<-this]at hx
    rcases vaD.1 hx with hx|hx<;>simp[hx]
   ·simp
theorem Cb{out:List aa}{g:aa}(hs:oA te out)(h:¬(na out g).head?=some g):g∉out:=fun hg=>by
 rw[<-yA out g]at hg hs
 rcases vaD.1 hg with hg|hg
 ·have:=AO hg
  rw[DG]at this;cases this
 ·cases hq:na out g with
  |nil=>rw[hq]at hg;cases hg
  | cons y r =>
   have hy:=vH hq
   rw[hq]at h hg hs
   have hne:y≠g:=fun e=>h (by rw[e];rfl)
   rcases vay.1 hg with hg|hg
   ·exact hne hg.symm
   ·have:=(vaV.1 (vbo.1 hs).2.1).1 g hg
    exact hne (lY.tot y g trivial trivial hy this)
theorem DR{out:List aa}{g:aa}(hs:oA te out):oA te (qn out g):=by
 unfold qn
 split
 ·exact hs
 ·have hs':=hs
  rw[<-yA out g]at hs'
  obtain⟨h1,h2,h3⟩:=vbo.1 hs'
  refine vbo.2 ⟨h1,vaV.2 ⟨fun y hy=>?_,h2⟩,fun x hx y hy=>?_⟩
  ·cases hq:na out g with
   |nil=>rw[hq]at hy;cases hy
   | cons z r =>
    have hz:=vH hq
    rw[hq]at hy h2
    rcases vay.1 hy with rfl|hy
    ·exact hz
    ·exact lY.ntrans y z g trivial trivial trivial ((vaV.1 h2).1 y hy) hz
  ·rcases vay.1 hy with rfl|hy
   ·have h4:=AO hx
    cases hc:te y x with
    |false=>rfl
    |true=>
     have:=lY.trans x y x trivial trivial trivial h4 hc
     rw[DG]at this;cases this
   ·exact h3 x hx y hy
theorem FQ{out:List aa}{g:aa}(hs:oA te out)(hn:out.Nodup):(qn out g).Nodup:=by
 unfold qn
 split
 ·exact hn
 ·rename_i h
  have hg:=Cb hs h
  rw[<-yA out g]at hn hg
  rw[vcJ]at hn ⊢
  obtain⟨h1,h2,h3⟩:=hn
  refine⟨h1,vbP.2 ⟨fun hh=>hg (by simp[hh]),h2⟩,fun a ha b hb=>?_⟩
  rcases vay.1 hb with rfl|hb
  ·exact fun e=>hg (vaD.2 (.inl (e▸ha)))
  ·exact h3 a ha b hb
theorem uA{out:List aa}{g:aa}:(qn out g).length=out.length+(if(na out g).head?=some g then 0 else 1):=by
 unfold qn
 split
 ·rfl
 ·have:=va8 List.length (yA out g)
  simp at this ⊢
  omega
theorem FP(out:List aa)(g:aa)(hl:out.length<=1000)(ha:∀x∈out,x.Arcs.length<=40):tK out g=some (qn out g):=by
 have hpq:=yA out g
 have hlen:=va8 List.length hpq
 simp only[vaQ]at hlen
 have hloop:jn out g 0=some ((mZ out g).length:Int):=by
  have key:∀(r pre:List aa),mZ out g=pre++r->jn out g (pre.length:Int)=some ((mZ out g).length:Int):=by
   intro r
   induction r with
   | nil =>
    intro pre h
    unfold jn
    rw[aX (x:=(pre.length:Int))]
    ·rw[h];simp
    ·have hJ:kz out g (pre.length:Int)=some false:=by
      unfold kz
      have hp:pre=mZ out g:=by rw[h];simp
      cases hq:na out g with
      |nil=>
       rw[vag]
       rw[hq]at hlen
       simp at hlen ⊢
       rw[hp];omega
      | cons y t =>
       have hi:eQ out (pre.length:Int)=some y:=by
        have h2:=eW pre y t
        rw[hp,<-hq,hpq]at h2
        rw[hp];exact h2
       have hy:y∈out:=by rw[<-hpq,hq];simp
       rw[vaf (by rw[hq]at hlen;simp at hlen ⊢;rw[hp];omega),hi,vaa,DE y g (by have:=ha y hy;omega),vaa]
       have:=vH hq
       unfold te at this
       rw[this]
     unfold jX
     rw[hJ,vaa,vag (by simp)]
   | cons x r ih =>
    intro pre h
    have hx:x∈mZ out g:=by rw[h];simp
    have hlt:=AO hx
    have hpl:pre.length<(mZ out g).length:=by rw[h];simp
    have hJ:kz out g (pre.length:Int)=some true:=by
     unfold kz
     have hi:eQ out (pre.length:Int)=some x:=by
      have h2:=eW pre x (r++na out g)
      have h3:pre++x::(r++na out g)=out:=by
       have h4:(pre++x::r)++na out g=out:=h▸hpq
       simpa using h4
      rw[h3]at h2;exact h2
     have hxo:x∈out:=by rw[<-hpq];simp[hx]
     rw[vaf (by simp;omega),hi,vaa,DE x g (by have:=ha x hxo;omega),vaa]
     unfold te at hlt
     rw[hlt]
    have hb:jX out g (pre.length:Int)=some (.inl (((pre++[x]).length:Nat):Int)):=by
     unfold jX
     rw[hJ,vaa,vaf rfl,dC (by omega) (by omega)]
     simp
    unfold jn
    rw[cW hb]
    have:=ih (pre++[x]) (by rw[h];simp)
    unfold jn at this
    exact this
  exact key (mZ out g) [] rfl
 unfold tK
 rw[hloop,vaa]
 have hJ3:pp out g ((mZ out g).length:Int)=some (decide ((na out g).head?=some g)):=by
  unfold pp
  cases hq:na out g with
  |nil=>rw[vag (by rw[hq]at hlen;simp at hlen ⊢;omega)];simp
  | cons y t =>
   have hi:eQ out ((mZ out g).length:Int)=some y:=by
    have h2:=eW (mZ out g) y t
    rw[<-hq,hpq]at h2;exact h2
   have hy:y∈out:=by rw[<-hpq,hq];simp
   rw[vaf (by rw[hq]at hlen;simp at hlen ⊢;omega),hi,vaa,yB y g (by have:=ha y hy;omega),vaa]
   simp
 rw[hJ3,vaa]
 unfold qn
 by_cases hc:(na out g).head?=some g
 ·rw[vaf (by simpa using hc),vaf hc]
 ·rw[vag (by simpa using hc),vag hc,Dd _ _ (by omega),vaa]
  have e1:out.take (mZ out g).length=mZ out g:=by
   have h2:(mZ out g++na out g).take (mZ out g).length=mZ out g:=vbV
   rw[hpq]at h2;exact h2
  have e2:out.drop (mZ out g).length=na out g:=by
   have h2:(mZ out g++na out g).drop (mZ out g).length=na out g:=List.drop_left
   rw[hpq]at h2;exact h2
  rw[e1,pw (by simp;omega),vaa,pw (by simp;omega),vaa,uG _ _ (by omega),vaa,e2,pw (by simp;omega),vaa]
  simp
structure RS(l out:List aa):Prop where
 srt:oA te out
 nd:out.Nodup
 cl:∀g∈out,Cl l g
 len:out.length<=401
theorem RS.arcs{l out:List aa}(hok:∀g∈l,sd g)(h:RS l out):∀g∈out,g.Arcs.length<=40:=fun g hg=>by have:=iD ((h.cl g hg).ok hok).arcs;omega
theorem RS.put{l out:List aa}{g:aa}(h:RS l out)(hg:Cl l g)(hl:out.length<=400):RS l (qn out g):=by
 refine⟨DR h.srt,FQ h.srt h.nd,fun x hx=>?_,?_⟩
 ·rcases eI.1 hx with hx|rfl
  ·exact h.cl x hx
  ·exact hg
 ·rw[uA];split<;>omega
theorem HO(l:List aa)(hl:l.length<=100)(ha:∀g∈l,g.Arcs.length<=40):(∀e,jr l=some e->cy l (l.length:Int) [] 0=some (.inl ([],e)))/\(jr l=none->∃out,cy l (l.length:Int) [] 0=some (.inr out)/\RS l out/\(∀g,g∈out↔g∈l)):=by
 have key:∀(r pre out:List aa),l=pre++r->(∀g∈pre,sd g)->oA te out->out.Nodup->(∀g,g∈out↔g∈pre)->out.length<=pre.length->
   (match r.find? (fun g=>vG g !=0)with
   |some g=>cy l (l.length:Int) out (pre.length:Int)=some (.inl ([],vG g))
   |none=>∃out',cy l (l.length:Int) out (pre.length:Int)=some (.inr out')/\oA te out'/\out'.Nodup/\(∀g,g∈out'↔g∈l)/\out'.length<=l.length):=by
  intro r
  induction r with
  |nil=>
   intro pre out h hp hs hn hm ho
   simp only[List.find?_nil]
   refine⟨out,?_,hs,hn,fun g=>by rw[hm,h];simp,by rw[h];simpa using ho⟩
   unfold cy
   refine aX ?_
   unfold dP
   rw[vag (by rw[h];simp)]
  | cons x r ih =>
   intro pre out h hp hs hn hm ho
   have hlt:pre.length<l.length:=by rw[h];simp
   have hx:=ha x (by rw[h];simp)
   have hi:eQ l (pre.length:Int)=some x:=by rw[h];exact eW pre x r
   rw[List.find?_cons]
   cases hv:(vG x !=0)with
   |true=>
    simp only
    unfold cy
    refine aX ?_
    unfold dP
    rw[vaf (by simpa using hlt),hi,vaa,rV x (by omega),vaa,vaf hv]
   | false =>
    simp only
    have hxo:sd x:=v7.1 (by simpa using hv)
    have harc:∀y∈out,y.Arcs.length<=40:=fun y hy=>by have:=iD (hp y ((hm y).1 hy)).arcs;omega
    have hb:dP l (l.length:Int) out (pre.length:Int)=some (.inl (qn out x,(((pre++[x]).length:Nat):Int))):=by
     unfold dP
     rw[vaf (by simpa using hlt),hi,vaa,rV x (by omega),vaa,vag (by simp[hv]),FP out x (by omega) harc,vaa,dC (by omega) (by omega)]
     congr 3
     simp
    have:=ih (pre++[x]) (qn out x) (by rw[h];simp) (fun g hg=>by
     rcases vaD.1 hg with hg|hg
     ·exact hp g hg
     ·rw[va2.1 hg];exact hxo) (DR hs) (FQ hs hn) (fun g=>by rw[eI,hm];simp) (by rw[uA];split<;>simp<;>omega)
    unfold cy at this ⊢
    rw[cW hb]
    exact this
 have:=key l [] [] rfl (by simp) (by simp[oA]) (by simp) (by simp) (by simp)
 rw[show(([]:List aa).length:Int)=0 from rfl]at this
 unfold jr
 constructor
 ·intro e he
  cases hf:l.find? (fun g=>vG g !=0)with
  |none=>rw[hf]at he;cases he
  |some g=>rw[hf]at this he;cases he;exact this
 ·intro he
  have hok:=nD (by unfold jr;exact he)
  cases hf:l.find? (fun g=>vG g !=0)with
  |some g=>rw[hf]at he;cases he
  |none=>
   rw[hf]at this
   obtain⟨out,h1,h2,h3,h4,h5⟩:=this
   exact⟨out,h1,⟨h2,h3,fun g hg=>.base g ((h4 g).1 hg),by omega⟩,h4⟩
structure IS(l out0 out v:List aa):Prop where
 rs:RS l out
 old:∀g∈out0,g∈out
 new:∀g∈v,g∈out
 all:∀g∈out,g∈out0\/g∈v
 cnt:out.length=out0.length+v.length
theorem HS{l first:List aa}(hok:∀g∈l,sd g)(hf:∀g,g∈first↔g∈l)(hfl:first.length<=401){out0 out v:List aa}{a:aa}(ha:Cl l a)(h:IS l out0 out v):∃o:List aa×List aa,jR first (first.length:Int) a.Caller a.Callee a.Arcs out v 0=some o/\(IS l out0 o.1 o.2/\(∀g∈out,g∈o.1)/\out.length<=o.1.length/\(o.1.length<=400->∀b∈first,a.Callee=b.Caller->cz a b∈o.1)):=by
 unfold jR
 have key:=zH first (fun(zz:List aa×List aa×Int)=>fg first (first.length:Int) a.Caller a.Callee a.Arcs zz.1 zz.2.1 zz.2.2) (fun i (s:List aa×List aa)=>(s.1,s.2,i)) (fun s=>s)
  (fun i s=>IS l out0 s.1 s.2/\(∀g∈out,g∈s.1)/\out.length<=s.1.length/\(s.1.length<=400->∀(q:Nat) b,q<i->first[q]? =some b->a.Callee=b.Caller->cz a b∈s.1)) (fun i hi s hs=>?_) (fun s hs=>?_) (out,v) ⟨h,fun g hg=>hg,vap _,fun _ q b hq=>absurd hq (vaI _)⟩
 ·obtain⟨o,h1,h2,h3,h4,h5⟩:=key
  refine⟨o,h1,h2,h3,h4,fun hl b hb hc=>?_⟩
  obtain⟨q,hq⟩:=vbt hb
  exact h5 hl q b (vaZ.1 hq).1 hq hc
 ·obtain⟨out1,v1⟩:=s
  obtain⟨k1,k2,k3,k4⟩:=hs
  simp only at k1 k2 k3 k4 ⊢
  have hao:=ha.ok hok
  have hbm:first[i]∈l:=(hf _).1 (vaP hi)
  have hbo:=hok _ hbm
  have la:=iD hao.arcs
  have lb:=iD hbo.arcs
  have hw:bA ((i:Int)+1)=((i+1:Nat):Int):=by rw[dC (by omega) (by omega)];omega
  have hcmp:xy a first[i]=if a.Callee=first[i].Caller then(cz a first[i],0)else(I8,6):=by
   unfold xy
   rw[vag (by simp[v7.2 hao]),vag (by simp[v7.2 hbo])]
  have hcomp:gX (⟨a.Caller,a.Callee,a.Arcs⟩:aa) first[i]=some (xy a first[i]):=vZ a first[i] (by omega) (by omega)
  unfold fg
  rw[vaf (by simpa using hi),eX first i hi,vaa,hcomp,vaa,hcmp]
  by_cases hc:a.Callee=first[i].Caller
  ·simp only[hc,if_true]
   have hJ:e9 out1 0=some (decide (out1.length>400)):=by
    unfold e9
    rw[vag (by simp)]
    congr 1;rw[vbx];simp;omega
   rw[hJ,vaa]
   by_cases hbig:out1.length>400
   ·rw[vaf (by simpa using hbig),hw]
    exact⟨(out1,v1),rfl,k1,k2,k3,fun hl=>by simp only at hl;omega⟩
   ·rw [vag (by simpa using hbig)]
    have hcl:Cl l (cz a first[i]):=.comp _ _ ha (.base _ hbm) hc
    have hrs:=k1.rs.put hcl (by omega)
    rw[FP out1 _ (by have:=k1.rs.len;omega) (k1.rs.arcs hok),vaa,uA]
    have hdone:∀(q:Nat) b,q<i+1->first[q]? =some b->a.Callee=b.Caller->cz a b∈qn out1 (cz a first[i]):=fun q b hq hb hcb=>by
     by_cases hqi:q=i
     ·subst hqi
      rw[vab hi]at hb;cases hb
      exact eI.2 (.inr rfl)
     ·exact eI.2 (.inl (k4 (by omega) q b (by omega) hb hcb))
    by_cases hin:(na out1 (cz a first[i])).head?=some (cz a first[i])
    ·rw[vaf hin,vag (by simp),hw]
     have he:qn out1 (cz a first[i])=out1:=by unfold qn;rw[vaf hin]
     rw[he]at hdone ⊢
     exact⟨(out1,v1),rfl,k1,k2,k3,fun _ q b hq hb hcb=>hdone q b hq hb (hc.trans hcb)⟩
    ·rw [vag hin,vaf (by simp; omega),pw (by have:=k1.cnt; have:=k1.rs.len; simp; omega),vaa,hw]
     refine⟨(qn out1 (cz a first[i]),v1++[cz a first[i]]),rfl,⟨hrs,fun g hg=>eI.2 (.inl (k1.old g hg)),fun g hg=>?_,fun g hg=>?_,?_⟩,fun g hg=>eI.2 (.inl (k2 g hg)),(show out.length<=(qn out1 (cz a first[i])).length by rw[uA];omega),fun _ q b hq hb hcb=>hdone q b hq hb (hc.trans hcb)⟩
     ·rcases vaD.1 hg with hg|hg
      ·exact eI.2 (.inl (k1.new g hg))
      ·exact eI.2 (.inr (va2.1 hg))
     ·rcases eI.1 hg with hg|rfl
      ·rcases k1.all g hg with hg|hg
       ·exact .inl hg
       ·exact .inr (by simp[hg])
      ·exact .inr (by simp)
     ·simp only
      rw[uA,vag hin,k1.cnt]
      simp
      omega
  ·simp only[hc,if_false]
   have hJ:e9 out1 6=some true:=by unfold e9;rfl
   rw[hJ,vaa,vaf rfl,hw]
   refine⟨(out1,v1),rfl,k1,k2,k3,fun hl q b hq hb hcb=>?_⟩
   by_cases hqi:q=i
   ·subst hqi
    rw[vab hi]at hb;cases hb
    exact absurd hcb hc
   ·exact k4 hl q b (by omega) hb hcb
 ·unfold fg
  rw[vag (by simp)]
theorem HR{l first:List aa}(hok:∀g∈l,sd g)(hf:∀g,g∈first↔g∈l)(hfl:first.length<=401){out todo:List aa}(hrs:RS l out)(ht:∀a∈todo,a∈out)(htl:todo.length<=401):∃o:List aa×List aa,jQ first todo (todo.length:Int) out [] 0=some o/\(IS l out o.1 o.2/\(o.1.length<=400->∀a∈todo,∀b∈first,a.Callee=b.Caller->cz a b∈o.1)):=by
 unfold jQ
 have key:=zH todo (fun(zz:List aa×List aa×Int)=>ff first todo (todo.length:Int) zz.1 zz.2.1 zz.2.2) (fun i (s:List aa×List aa)=>(s.1,s.2,i)) (fun s=>s)
  (fun i s=>IS l out s.1 s.2/\(s.1.length<=400->∀(q:Nat) a,q<i->todo[q]? =some a->∀b∈first,a.Callee=b.Caller->cz a b∈s.1)) (fun i hi s hs=>?_) (fun s hs=>?_) (out,[]) ⟨⟨hrs,fun g hg=>hg,by simp,fun g hg=>.inl hg,by simp⟩,fun _ q a hq=>absurd hq (vaI _)⟩
 ·obtain⟨o,h1,h2,h3⟩:=key
  refine⟨o,h1,h2,fun hl a ha=>?_⟩
  obtain⟨q,hq⟩:=vbt ha
  exact h3 hl q a (vaZ.1 hq).1 hq
 ·obtain⟨out1,v1⟩:=s
  obtain⟨k1,k2⟩:=hs
  simp only at k1 k2 ⊢
  have hw:bA ((i:Int)+1)=((i+1:Nat):Int):=by rw[dC (by omega) (by omega)];omega
  obtain⟨⟨o1,o2⟩,e1,q1,q2,q3,q4⟩:=HS hok hf hfl (hrs.cl _ (ht _ (vaP hi))) k1
  simp only at q1 q2 q3 q4
  unfold ff
  rw[vaf (by simpa using hi),eX todo i hi,vaa,e1,vaa,hw]
  refine⟨(o1,o2),rfl,q1,fun hl q a hq ha=>?_⟩
  simp only at hl
  have hlen:out1.length<=400:=by
   omega
  by_cases hqi:q=i
  ·subst hqi
   rw[vab hi]at ha;cases ha
   exact q4 hl
  ·exact fun b hb hc=>q2 _ (k2 hlen q a (by omega) ha b hb hc)
 ·unfold ff
  rw[vag (by simp)]
theorem HP{l first:List aa}(hok:∀g∈l,sd g)(hf:∀g,g∈first↔g∈l)(h:RS l first):∃out:List aa,jP first first first=some out/\(RS l out/\(∀g∈l,g∈out)/\(out.length<=400->∀a∈out,∀b∈l,a.Callee=b.Caller->cz a b∈out)):=by
 unfold jP
 refine yb (fun(zz:List aa×List aa)=>iy first zz.1 zz.2)
  (fun s=>RS l s.1/\(∀g∈l,g∈s.1)/\(∀g∈s.2,g∈s.1)/\s.2.length<=401/\(s.1.length<=400->∀a∈s.1,a∈s.2\/∀b∈first,a.Callee=b.Caller->cz a b∈s.1)) (fun s=>2 * (500 - s.1.length)+(if s.2=[]then 0 else 1)) _ ?_ (first,first) ⟨h,fun g hg=>(hf g).2 hg,fun g hg=>hg,h.len,fun _ a ha=>.inl ha⟩
 rintro⟨out,todo⟩ ⟨k1,k2,k3,k4,k5⟩
 simp only at k1 k2 k3 k4 k5 ⊢
 have hJ:jO out todo=some (decide (todo≠[])&&decide (out.length<=400)):=by
  unfold jO
  cases todo with
  |nil=>rw[vag (by simp)];simp
  |cons x r=>
   rw[vaf (by simp)]
   simp
   omega
 unfold iy
 rw[hJ,vaa]
 by_cases hc:todo≠[]/\out.length<=400
 ·rw [vaf (by simpa using hc)]
  obtain⟨⟨o1,o2⟩,e1,q1,q2⟩:=HR hok hf h.len k1 k3 k4
  simp only at q1 q2
  rw[e1,vaa]
  have hc1:=q1.cnt
  have hl1:=q1.rs.len
  refine .inl ⟨_,rfl,⟨q1.rs,fun g hg=>q1.old g (k2 g hg),q1.new,(show o2.length<=401 by omega),fun hl a ha=>?_⟩,?_⟩
  ·simp only at hl ha ⊢
   rcases q1.all a ha with ha|ha
   ·right
    intro b hb hcc
    rcases k5 hc.2 a ha with ht|ht
    ·exact q2 hl a ht b hb hcc
    ·exact q1.old _ (ht b hb hcc)
   ·exact .inl ha
  ·simp only
   rw[vag hc.1]
   by_cases ho:o2=[]
   ·rw[vaf ho];omega
   ·rw[vag ho]
    have:=vbN.2 ho
    omega
 ·rw[vag (by simpa using hc)]
  refine .inr ⟨_,rfl,k1,k2,fun hl a ha b hb hcc=>?_⟩
  have ht:todo=[]:=by
   cases todo with
   |nil=>rfl
   |cons x r=>exact absurd ⟨by simp,hl⟩ hc
  rcases k5 hl a ha with hx|hx
  ·rw[ht]at hx;cases hx
  ·exact hx b ((hf b).2 hb) hcc
theorem AR{l out:List aa}(hs:∀g∈l,g∈out)(hr:∀a∈out,∀b∈l,a.Callee=b.Caller->cz a b∈out):∀g,Cl l g->g∈out/\∀a∈out,a.Callee=g.Caller->cz a g∈out:=fun g hg=>by
 induction hg with
 |base g hg=>exact⟨hs g hg,fun a ha hc=>hr a ha g hg hc⟩
 |comp x y _ _ hc ihx ihy=>
  refine⟨ihy.2 x ihx.1 hc,fun a ha hca=>?_⟩
  rw[<-BC]
  exact ihy.2 _ (ihx.2 a ha hca) hc
theorem Ce(l:List aa)(hl:l.length<=100)(ha:∀g∈l,g.Arcs.length<=40):(∀e,jr l=some e->df l=some ([],e))/\(jr l=none->(∃r,df l=some (r,0)/\tv l r/\r.length<=400)\/(df l=some ([],7)/\EQ l)):=by
 obtain⟨h1,h2⟩:=HO l hl ha
 constructor
 ·intro e he
  unfold df
  rw[h1 e he];rfl
 ·intro he
  have hok:=nD he
  obtain⟨first,e1,r1,m1⟩:=h2 he
  obtain⟨out,e2,r2,s2,c2⟩:=HP hok m1 r1
  unfold df
  rw[e1,vaa]
  simp only
  rw[e2,vaa]
  by_cases h4:out.length<=400
  ·left
   rw[vag (by simp;omega)]
   exact⟨out,rfl,⟨fun g=>⟨fun hg=>r2.cl g hg,fun hg=>(AR s2 (c2 h4) g hg).1⟩,r2.srt,r2.nd⟩,h4⟩
  ·right
   rw[vaf (by simp;omega)]
   exact⟨rfl,out,r2.nd,by omega,r2.cl⟩
theorem tv.uniq{l r r':List aa}(h:tv l r)(h':tv l r'):r=r':=by
 refine ru lY (fun y _=>trivial) ?_ h.srt h'.srt
 exact(List.perm_ext_iff_of_nodup h.nd h'.nd).2 fun g=>(h.mem g).trans (h'.mem g).symm
theorem tv.few{l r:List aa}(h:tv l r)(hl:r.length<=400):¬EQ l:=fun⟨q,hn,hq,hc⟩=>by
 have:=hn.length_le_of_subset (fun g hg=>(h.mem g).2 (hc g hg))
 omega
theorem By(l:List aa)(hl:l.length<=100)(ha:∀g∈l,g.Arcs.length<=40):df l=aK l/\∃r e,aK l=some (r,e)/\(e≠0->r=[])/\(e=0->tv l r/\r.length<=400/\∀g∈l,sd g)/\(jr l=none->e≠0->e=7/\EQ l):=by
 obtain⟨p1,p2⟩:=Cw l hl ha
 obtain⟨q1,q2⟩:=Ce l hl ha
 cases he:jr l with
 |some e=>
  obtain⟨h1,h2⟩:=p1 e he
  exact⟨(q1 e he).trans h1.symm,[],e,h1,fun _=>rfl,fun h=>absurd h h2,(fun h=>by cases h)⟩
 | none =>
  rcases p2 he with⟨r,h1,h2,h3⟩|⟨h1,h2⟩
  ·rcases q2 he with⟨r',k1,k2,_⟩|⟨_,k2⟩
   ·exact⟨by rw[h1,k1,h2.uniq k2],r,0,h1,fun h=>absurd rfl h,fun _=>⟨h2,h3,nD he⟩,fun _ h=>absurd rfl h⟩
   ·exact absurd k2 (h2.few h3)
  ·rcases q2 he with⟨r',_,k2,k3⟩|⟨k1,_⟩
   ·exact absurd h2 (k2.few k3)
   ·exact⟨by rw[h1,k1],[],7,h1,fun _=>rfl,fun h=>absurd h (by decide),fun _ _=>⟨rfl,h2⟩⟩
theorem G0:∀l:List aa,l.length<=zn (l.map ac)
 |[]=>by simp
 |x::l=>by
  have h1:=G0 l
  have h2:1<=Ba (ac x):=by unfold ac;simp only[Ba,pm];omega
  simp only[vaW,zn,va7];omega
theorem Fv{l:List aa}(h:pm (sl ac l)+0<=1048576):l.length<=1048576:=by
 have h1:=G0 l
 have h2:pm (sl ac l)=zn (l.map ac)+1:=by simp only[pm,sl]
 omega
def nJ(x:ah):Bool:=x.From==x.To&&x.Strict
theorem IA(x:ah):cp x=some (nJ x):=by
 unfold cp nJ
 cases x.From==x.To<;>simp
theorem Bb(s:List ah)(hl:s.length<4611686018427387904):dI s=some (s.any nJ):=by
 unfold dI kE iL
 rw[CY s (by omega) (fun zz=>gH s (s.length:Int) zz) (fun i x2=>(cp x2).bind fun r3=>if r3=true then some (.inr (.inl i))else some (.inl (bA (i+1)))) nJ (fun i=>rfl) (fun x hx i=>by rw[IA];simp only[vaa];split<;>rfl),vaa]
 have h:=vcy (xs:=s) (p:=nJ)
 cases hf:s.findIdx? nJ with
 |none=>rw[hf]at h;simp at h ⊢;exact h
 |some j=>rw[hf]at h;simp at h ⊢;exact h
def Fm(g:aa):Bool:=(g.Caller==g.Callee)&&decide (cz g g=g)
def tQ(g:aa):Bool:=Fm g&&!(g.Arcs.any nJ)
theorem HU{g:aa}(h:sd g):bX g.Caller g.Callee g.Arcs=some (!Fm g):=by
 unfold bX Fm
 have hal:=iD (yh h h).arcs
 have hc:bM (⟨g.Caller,g.Callee,g.Arcs⟩:aa) (⟨g.Caller,g.Callee,g.Arcs⟩:aa)=some (cz g g):=xA g g h.arcs h.arcs
 cases hq:g.Caller==g.Callee with
 |false=>rfl
 |true=>
  rw[vag (by simp),hc,vaa,Ga _ _ (by omega)]
  rfl
theorem HW(r:List aa)(hl:r.length<=1000)(hok:∀g∈r,sd g):dc r (r.length:Int) 0=some (if r.any tQ=true then .inl ()else .inr ()):=by
 unfold dc
 refine oF r (by omega) (fun zz=>eb r (r.length:Int) zz) (fun i x4=>(bX x4.Caller x4.Callee x4.Arcs).bind fun o9=>if o9=true then some (.inl (bA (i+1)))else(dI x4.Arcs).bind fun r12=>if(!r12)=true then some (.inr (.inl ()))else some (.inl (bA (i+1)))) tQ (.inl ()) (.inr ()) (fun i=>rfl) (fun x hx i=>?_)
 have h:=hok x hx
 have hal:=iD h.arcs
 rw[HU h,vaa,Bb _ (by omega),vaa]
 unfold tQ
 cases Fm x<;>cases x.Arcs.any nJ<;>rfl
theorem y3{l r:List aa}{e:Int}(h:aK l=some (r,e))(hl:e=0->r.length<=1000)(hok:e=0->∀g∈r,sd g):bq l=some (if e≠0 then(false,e)else(!(r.any tQ),0)):=by
 unfold bq
 rw[h,vaa]
 by_cases he:e=0
 ·subst he
  simp only
  rw[vag (by simp),HW r (hl rfl) (hok rfl),vaa]
  cases r.any tQ<;>simp
 ·simp only
  rw[vaf (by simpa using he),vaf he]
theorem Ff(g:aa)(hl:g.Arcs.length<4611686018427387904):oz g=some (g.Arcs.any nJ):=by
 unfold oz pn
 rw[oF g.Arcs (by omega) (fun zz=>mz g.Arcs (g.Arcs.length:Int) zz) (fun i x2=>(jV x2.From x2.To x2.Strict).bind fun o5=>if o5=true then some (.inr (.inl ()))else some (.inl (bA (i+1)))) nJ (.inl ()) (.inr ()) (fun i=>rfl) (fun x hx i=>by
  have hJ:jV x.From x.To x.Strict=some (nJ x):=by
   unfold jV nJ
   cases x.From==x.To<;>simp
  rw[hJ];simp only[vaa];split<;>rfl),vaa]
 cases g.Arcs.any nJ<;>rfl
theorem GG(r:List aa)(hl:r.length<=1000)(hok:∀g∈r,sd g):gI r (r.length:Int) 0=some (if r.any tQ=true then .inl ()else .inr ()):=by
 unfold gI
 refine oF r (by omega) (fun zz=>iH r (r.length:Int) zz) (fun i x4=>(gX x4 x4).bind fun r5=>(eD r5.2 x4.Caller x4.Callee x4.Arcs r5.1.Caller r5.1.Callee r5.1.Arcs).bind fun o11=>if o11=true then some (.inr (.inl ()))else some (.inl (bA (i+1)))) tQ (.inl ()) (.inr ()) (fun i=>rfl) (fun x hx i=>?_)
 have h:=hok x hx
 have hal:=iD h.arcs
 have hac:=iD (yh h h).arcs
 rw[vZ x x (by omega) (by omega),vaa]
 have hJ:eD (xy x x).2 x.Caller x.Callee x.Arcs (xy x x).1.Caller (xy x x).1.Callee (xy x x).1.Arcs=some (tQ x):=by
  have hcr:xy x x=if x.Callee=x.Caller then(cz x x,0)else(I8,6):=by
   unfold xy
   rw[vag (by simp[v7.2 h]),vag (by simp[v7.2 h])]
  rw[hcr]
  unfold eD tQ Fm
  have hs:mn (⟨(cz x x).Caller,(cz x x).Callee,(cz x x).Arcs⟩:aa) (⟨x.Caller,x.Callee,x.Arcs⟩:aa)=some (decide (cz x x=x)):=yB (cz x x) x (by omega)
  have hf:oz (⟨x.Caller,x.Callee,x.Arcs⟩:aa)=some (x.Arcs.any nJ):=Ff x (by omega)
  by_cases hq:x.Callee=x.Caller
  ·rw[vaf hq]
   simp only
   rw[vaf (by simp),hs,vaa]
   by_cases hd:cz x x=x
   ·rw[vaf (by simpa using hd),hf,vaa]
    simp[hd,hq]
   ·rw[vag (by simpa using hd)]
    simp[hd]
  ·rw[vag hq]
   simp only
   rw[vag (by simp)]
   have:(x.Caller==x.Callee)=false:=by simpa using fun e=>hq e.symm
   rw[this];rfl
 rw[hJ,vaa]
 cases tQ x<;>rfl
theorem yC{l r:List aa}{e:Int}(h:df l=some (r,e))(hl:e=0->r.length<=1000)(hok:e=0->∀g∈r,sd g):gY l=some (if e≠0 then(false,e)else(!(r.any tQ),0)):=by
 unfold gY
 rw[h,vaa]
 by_cases he:e=0
 ·subst he
  simp only
  rw[vag (by simp),GG r (hl rfl) (hok rfl),vaa]
  cases r.any tQ<;>simp
 ·simp only
  rw[vaf (by simpa using he),vaf he]
theorem Ag(r:List aa)(hl:r.length<=1000)(ha:∀g∈r,g.Arcs.length<=40):nu r r=some true:=by
 unfold nu mo
 rw[vag (by simp),show(0:Int)=((0:Nat):Int)from rfl,j5 r (by omega) (fun zz=>fl r r (r.length:Int) zz) (fun _=>false) (.inl ()) (.inr ()) (fun i hi=>?_) ?_ 0 (vaJ _),vaa]
 ·simp
 ·unfold fl
  rw[vag (by simp)]
 ·unfold fl
  rw[vaf (by simpa using hi),eX r i hi,vaa,vaa,yB _ _ (by have:=ha _ (vaP hi);omega),vaa]
  simp
theorem E6{l:List aa}(hl:l.length<=100)(ha:∀g∈l,g.Arcs.length<=40):∃r e,aK l=some (r,e)/\df l=some (r,e)/\(e≠0->r=[])/\(e=0->tv l r/\r.length<=400/\(∀g∈l,sd g)/\∀g∈r,sd g)/\(jr l=none->e≠0->e=7/\EQ l)/\
  bq l=some (if e≠0 then(false,e)else(!(r.any tQ),0))/\gY l=some (if e≠0 then(false,e)else(!(r.any tQ),0))/\r.length<=400/\(∀g∈r,g.Arcs.length<=40):=by
 obtain⟨h0,r,e,h1,h2,h3,h4⟩:=By l hl ha
 have hok:e=0->∀g∈r,sd g:=fun he g hg=>((h3 he).1.mem g).1 hg|>.ok (h3 he).2.2
 have hlr:e=0->r.length<=1000:=fun he=>by have:=(h3 he).2.1;omega
 refine⟨r,e,h1,h0.trans h1,h2,fun he=>⟨(h3 he).1,(h3 he).2.1,(h3 he).2.2,hok he⟩,h4,y3 h1 hlr hok,yC (h0.trans h1) hlr hok,?_,?_⟩
 ·by_cases he:e=0
  ·exact(h3 he).2.1
  ·rw[h2 he];simp
 ·by_cases he:e=0
  ·exact fun g hg=>by have:=iD (hok he g hg).arcs;omega
  ·rw[h2 he];simp
theorem qm(l:List aa)(h:pm (sl ac l)+0<=1048576):hU l=some true:=by
 have hlen:=Fv h
 unfold hU
 rw[HC 4 l (by omega),vaa]
 cases hf:(l.all (fun g=>decide (g.Arcs.length<=40))&&decide ((l.length:Int)<=4))with
 |false=>rw[vaf (by simp),xu];rfl
 |true=>
  obtain⟨h1,h2⟩:=Fg hf
  obtain⟨r,e,k1,k2,_,_,_,k3,k4,k5,k6⟩:=E6 (l:=l) (by omega) h1
  rw[vag (by simp),k1,k2,k3,k4]
  simp only[vaa]
  rw[Ag r (by omega) k6,vaa]
  simp only[if_true,beq_self_eq_true]
  rw[xu];rfl
end Go.Proofs.YtoficachfgggjaaDoor
