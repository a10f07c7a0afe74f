/- PROVED: a part of the proof. Conditions: none. -/
import Derived.Test.YtibglelmlnfojaaGreatDoorpa4
import Derived.Test.YtibglelmlnfojaaGreatDoorpa3
set_option linter.unusedSimpArgs false
set_option linter.unusedVariables false
noncomputable section
namespace Go.Proofs.YtibglelmlnfojaaGreatDoor
open Go
def Pp(st:aF)(dst:Option Tmp)(p:PVal)(ro:List (Nat×TypeId))(H:List aB)(K:aF->Prop):Prop:=
 match dst with
 |some d=>fK st.tmps d p λtm=>bz ((ro.map λx=>((d,x.1),x.2))++bQ d st.own) λow=>K ⟨tm,H,ow⟩
 |none=>K ⟨st.tmps,H,st.own⟩
theorem vZ(st:aF)(dst:Option Tmp)(p:PVal)(ro:List (Nat×TypeId))(H:List aB)(K:aF->Prop):Pp st dst p ro H K=K (zU st dst p ro H):=by
 cases dst with
 |none=>rfl
 |some d=>simp only[Pp,bF,aO,zU]
def UB(P:Program)(GE:List (Nat×List PVal))(f:Operand)(args:List Operand)(tmps:List PVal)(sc:List It)(K:PVal->List (Nat×TypeId)->List It->Prop):Prop:=
 qW GE tmps f λvf=>match vf with
  |.func (.func g) first cap=>Pe GE tmps args λas=>match sc with
   |.c r ro::sc'=>CC P GE g (first++as++cap) r ro/\K r ro sc'
   |_=>False
  |_=>False
def yO(P:Program)(GE:List (Nat×List PVal))(o:Oper)(id:Nat)(sc:List It)(st:aF)(K:List It->aF->Prop):Prop:=
 match mU o st.tmps.length with
 |false=>False
 | true => match o.op with
  |.call {callee:=.value f,args,..}=>UB P GE f args.toList st.tmps sc λr ro sc'=>Pp st o.dst r ro st.boxes λst'=>K sc' st'
  |.alloc t=>match sc with
   |.x zs::sc'=>fu P t=some zs/\bz (Ld P t) λow=>fK st.boxes id (.cells zs ow) λH=>Pp st o.dst (.bptr id 0) [] H λst'=>K sc' st'
   |_=>False
  |.box _ x=>qW GE st.tmps x λvx=>match sc with
   |.x cs::sc'=>bZ vx=some cs/\LF cs=true/\fK st.boxes id (.cells cs []) λH=>Pp st o.dst (.bptr id 0) [] H λst'=>K sc' st'
   |_=>False
  |.makeMap _ none=>fK st.boxes id (.map []) λH=>Pp st o.dst (.mapr id) [] H λst'=>K sc st'
  |op=>VG P GE op st.tmps st.boxes sc λp H sc'=>Pp st o.dst p [] H λst'=>K sc' st'
def S0(n d:Nat)(K:Prop):Prop:=match decide (d<n)with
 |true=>K
 |false=>False
theorem oG{n d:Nat}{K:Prop}(h:S0 n d K):d<n/\K:=by
 unfold S0 at h
 split at h
 ·rename_i hd;exact⟨by simpa using hd,h⟩
 ·exact h.elim
def M6(P:Program)(st:aF)(T e:TypeId)(t:Nat)(dst:Option Tmp)(vx vt:PVal)(sc:List It)(K:List It->aF->Prop):Prop:=
 match vx with
 | .bptr i off => match eK P T (.bptr i off) vt st.boxes with
  | some H => lN H i fun B => match B with
   |.cells cs own=>match vt.one with
    |true=>bz cs λcs'=>fK H i (.cells cs' ((off,e)::own)) λH'=>Pp {st with own:=st.own.filter λx=>x.1 !=(t,0)} dst (.val undef) [] H' λst'=>K sc st'
    |false=>False
   |_=>False
  |none=>False
 |_=>False
def M7(P:Program)(GE:List (Nat×List PVal))(A:List Nat)(o:Oper)(id:Nat)(sc:List It)(st:aF)(K:List It->aF->Prop):Prop:=
 match o.op,o.dst with
 |.assign (.tmp t),some d=>S0 st.tmps.length d (zA st.tmps t λp=>fK st.tmps d p λtm=>bz (oL d (λx=>if x.1=t then(d,x.2)else x) st.own) λow=>K sc ⟨tm,st.boxes,ow⟩)
 |.move (.tmp t),some d=>match decide (d∈A)with
  |true=>S0 st.tmps.length d (zA st.tmps t λp=>fK st.tmps d p λtm=>bz (oL d (λx=>if x.1=t then(d,x.2)else x) st.own) λow=>K sc ⟨tm,st.boxes,ow⟩)
  |false=>yO P GE o id sc st K
 |.assign (.const v),some d=>match vK P o.type v with
  |some e=>S0 st.tmps.length d (fK st.tmps d (.slice []) λtm=>bz (((d,0),e)::bQ d st.own) λow=>K sc ⟨tm,st.boxes,ow⟩)
  |none=>yO P GE o id sc st K
 |.move (.const v),some d=>match vK P o.type v with
  |some e=>S0 st.tmps.length d (fK st.tmps d (.slice []) λtm=>bz (((d,0),e)::bQ d st.own) λow=>K sc ⟨tm,st.boxes,ow⟩)
  |none=>yO P GE o id sc st K
 |.extract (.tmp t) i,some d=>S0 st.tmps.length d (zA st.tmps t λvt=>O4 (xh vt i) λp=>fK st.tmps d p λtm=>bz (oL d (λx=>if x=(t,i)then(d,0)else x) st.own) λow=>K sc ⟨tm,st.boxes,ow⟩)
 |.buildSlice T len parts,some d=>S0 st.tmps.length d (BJ GE st.tmps parts.toList λps=>match sc,P.underlying T with
  |.v p::sc',some (.slice e)=>eW P T len ps=some p/\fK st.tmps d p λtm=>bz (((d,0),e)::bQ d st.own) λow=>K sc' ⟨tm,st.boxes,ow⟩
  |_,_=>False)
 | .call { callee := .builtin .append,args:=⟨[.tmp t,y]⟩,argTypes:=⟨[T,T']⟩ },some d => S0 st.tmps.length d (zA st.tmps t fun ve => qW GE st.tmps y fun vn => match ve,vn,sc,P.underlying T with
  |.slice es,.slice ns,.v p::sc',some (.slice e)=>match decide (T=T')&&decide (((t,0),e)∈st.own)with
   |true=>vM P T es ns=some p/\fK st.tmps d p λtm=>bz (((d,0),e)::bQ d (st.own.filter λx=>x.1 !=(t,0))) λow=>K sc' ⟨tm,st.boxes,ow⟩
   |false=>False
  |_,_,_,_=>False)
 | .load T x,some d => match decide (d ∈ A) with
  | true => S0 st.tmps.length d (qW GE st.tmps x fun vx => match vx,P.underlying T with
   | .bptr i off,some (.slice e) => lN st.boxes i fun B => match B with
    |.cells cs own=>match decide ((off,e)∈own)&&decide (off<cs.length)with
     |true=>zA cs off λp=>fK st.tmps d p λtm=>bz (own.filter λx=>x.1 !=off) λown'=>fK st.boxes i (.cells cs own') λH=>bz (((d,0),e)::bQ d st.own) λow=>K sc ⟨tm,H,ow⟩
     |false=>False
    |_=>False
   |_,_=>False)
  |false=>yO P GE o id sc st K
 |.store T x (.tmp t),_=>match st.own.find? (λy=>y.1==(t,0))with
  |some (_,e)=>qW GE st.tmps x λvx=>zA st.tmps t λvt=>M6 P st T e t o.dst vx vt sc K
  |none=>yO P GE o id sc st K
 |_,_=>yO P GE o id sc st K
def qjS:Value->Bool
 |.bool _=>true
 |_=>false
def Mh(ops:Array Oper)(j:Nat)(want:Bool)(pos:Nat)(sc:List It)(st:aF)(go:Bool->List It->aF->Prop):Prop:=
 match(ops[j]?).bind (·.dst)with
 |none=>False
 | some t => zA st.tmps t fun p => match p with
  | .bool x => match sc with
   |.g pos' b::sc'=>match pos'==pos with
    |true=>x=b/\fK st.tmps t (.bool b) λtm=>go (b==want) sc' ⟨tm,st.boxes,st.own⟩
    |false=>go (x==want) sc st
   |_=>go (x==want) sc st
  |.val v=>match qjS v with
   |true=>False
   |false=>go false sc st
  |_=>False
def qb:List Nat->Bool
 |[]=>true
 |x::r=>!(r.contains x)&&qb r
theorem kC:∀{l:List Nat},qb l=true->l.Nodup
 |[],_=>.nil
 |x::r,h=>by
  simp only[qb,vaf,vaZ,vcK,vbo]at h
  exact vbZ.2 ⟨h.1,kC h.2⟩
def K7(t:Nat)(own:List ((Nat×Nat)×TypeId)):List (Nat×TypeId):=own.filterMap λx=>if x.1.1==t then some (x.1.2,x.2)else none
theorem Fb{t:Nat}{own:List ((Nat×Nat)×TypeId)}{y:Nat×TypeId}(h:y∈K7 t own):((t,y.1),y.2)∈own:=by
 unfold K7 at h
 obtain⟨⟨⟨t',k⟩,e⟩,hx,he⟩:=vbY.1 h
 split at he
 ·rename_i ht
  simp only[va9]at ht
  cases he;subst ht;exact hx
 ·cases he
def V9(off n:Nat)(own:List (Nat×TypeId)):List (Nat×TypeId):=own.filterMap λx=>if decide (off<=x.1)&&decide (x.1<off+n)then some (x.1 - off,x.2)else none
theorem Fa{off n:Nat}{own:List (Nat×TypeId)}{y:Nat×TypeId}(h:y∈V9 off n own):(off+y.1,y.2)∈own/\y.1<n:=by
 unfold V9 at h
 obtain⟨⟨k,e⟩,hx,he⟩:=vbY.1 h
 split at he
 ·rename_i ht
  simp only[vaf,var]at ht
  cases he
  have:off+(k - off)=k:=by omega
  exact⟨by rw[this];exact hx,by simp only;omega⟩
 ·cases he
def Fs(ρ:List Nat):List PVal->List PVal->Prop
 |[],[]=>True
 |p::ps,q::qs=>Bg ρ p q/\Fs ρ ps qs
 |_,_=>False
theorem Fs.len{ρ:List Nat}:∀{l r:List PVal},Fs ρ l r->l.length=r.length
 |[],[],_=>rfl
 |[],_::_,h=>h.elim
 |_::_,[],h=>h.elim
 |_::_,_::_,h=>by simp[Fs.len h.2]
theorem Fs.get{ρ:List Nat}:∀{l r:List PVal},Fs ρ l r->∀(i:Nat) p q,l[i]? =some p->r[i]? =some q->Bg ρ p q
 |[],[],_,i,p,q,hp,_=>by simp at hp
 |[],_::_,h,_,_,_,_,_=>h.elim
 |_::_,[],h,_,_,_,_,_=>h.elim
 |_::_,_::_,h,0,p,q,hp,hq=>by simp at hp hq;subst hp;subst hq;exact h.1
 |_::_,_::_,h,i+1,p,q,hp,hq=>Fs.get h.2 i p q (by simpa using hp) (by simpa using hq)
def Um(ρ:List Nat):aB->aB->Prop
 |.cells cs own,.cells cs' own'=>own=own'/\Fs ρ cs cs'
 |.map es,.map es'=>es=es'/\∀x∈es,x.1.cl 0/\x.2.cl 0
 |_,_=>False
theorem Um.to{ρ:List Nat}{B B':aB}(h:Um ρ B B'):kG ρ B B':=by
 cases B<;>cases B'<;>simp only[Um]at h
 ·exact⟨h.1,h.2.len,h.2.get⟩
 ·obtain⟨rfl,h⟩:=h
  refine⟨rfl,λi k u k' u' h1 h2=>?_⟩
  rw[h1]at h2;cases h2
  obtain⟨q1,q2⟩:=h _ (vaO h1)
  exact⟨.refl _ q1,.refl _ q2⟩
def pU(ρ:List Nat)(H:List aB):List Nat->List aB->List aB->Prop
 |[],[],[]=>True
 |j::js,B::Bs,Bc::Hc=>(lN H j λB0=>xV B0 B=B/\Um ρ B Bc)/\pU ρ H js Bs Hc
 |_,_,_=>False
def wT(ρ:List Nat):List aB->List aB->Prop
 |[],[]=>True
 |B::Bs,Bc::Hc=>Um ρ B Bc/\wT ρ Bs Hc
 |_,_=>False
def j0(H:List aB):List Nat->List aB->List aB
 |j::js,B::Bs=>j0 (H.set j B) js Bs
 |_,_=>H
def R6(H:List aB):List Nat->List aB->(List aB->Prop)->Prop
 |j::js,B::Bs,K=>fK H j B λH'=>R6 H' js Bs K
 |_,_,K=>K H
theorem ph:∀(H:List aB) (js:List Nat) (Bs:List aB) (K:List aB->Prop),R6 H js Bs K=K (j0 H js Bs)
 |H,[],_,K=>by cases ‹List aB›<;>rfl
 |H,_::_,[],K=>rfl
 |H,j::js,B::Bs,K=>by simp only[R6,bF,ph,j0]
theorem Fm:∀(H:List aB) (js:List Nat) (Bs:List aB),(j0 H js Bs).length=H.length
 |H,[],_=>by cases ‹List aB›<;>rfl
 |H,_::_,[]=>rfl
 |H,j::js,B::Bs=>by simp only[j0,Fm,vcG]
theorem jN:∀(H:List aB) (js:List Nat) (Bs:List aB) {j:Nat},j∉js->(j0 H js Bs)[j]? =H[j]?
 |H,[],Bs,_,_=>by cases Bs<;>rfl
 |H,_::_,[],_,_=>rfl
 |H,k::js,B::Bs,j,h=>by
  simp only[vaF,vc7]at h
  simp only[j0]
  rw[jN _ js Bs h.2,vat (Ne.symm h.1)]
theorem I9:∀(H:List aB) (js:List Nat) (Bs:List aB),js.Nodup->js.length=Bs.length->(∀j∈js,j<H.length)->∀(i j:Nat) B,js[i]? =some j->Bs[i]? =some B->(j0 H js Bs)[j]? =some B
 |H,[],Bs,_,_,_,i,j,B,hj,_=>by simp at hj
 |H,_::_,[],_,hl,_,_,_,_,_,_=>by simp at hl
 | H,k :: js,B0 :: Bs,hn,hl,hlt,i,j,B,hj,hB => by
  obtain⟨hn1,hn2⟩:=vbZ.1 hn
  simp only[j0]
  cases i with
  |zero=>
   simp at hj hB;subst hj;subst hB
   rw[jN _ js Bs hn1,vai (hlt _ (by simp))]
  |succ i=>exact I9 _ js Bs hn2 (by simpa using hl) (λx hx=>by rw[vcG];exact hlt x (by simp[hx])) i j B (by simpa using hj) (by simpa using hB)
theorem Nf{ρ:List Nat}{H:List aB}:∀{js:List Nat} {Bs Hc:List aB},pU ρ H js Bs Hc->js.length=Bs.length/\Hc.length=js.length/\(∀j∈js,j<H.length)/\
  ∀(i j:Nat) B Bc,js[i]? =some j->Bs[i]? =some B->Hc[i]? =some Bc->(∃B0,H[j]? =some B0/\xV B0 B=B)/\kG ρ B Bc
 |[],[],[],_=>⟨rfl,rfl,by simp,by simp⟩
 |[],_::_,_,h=>by simp[pU]at h
 |[],[],_::_,h=>by simp[pU]at h
 |_::_,[],_,h=>by simp[pU]at h
 |_::_,_::_,[],h=>by simp[pU]at h
 | k :: js,B :: Bs,Bc :: Hc,h => by
  obtain⟨h1,h2⟩:=h
  obtain⟨B0,hB0,h3,h4⟩:=d5 h1
  obtain⟨k1,k2,k3,k4⟩:=Nf h2
  refine⟨by simp[k1],by simp[k2],λj hj=>?_,λi j b bc hj hb hbc=>?_⟩
  ·rcases vaF.1 hj with rfl|hj
   ·exact aq hB0
   ·exact k3 j hj
  ·cases i with
   |zero=>simp at hj hb hbc;subst hj;subst hb;subst hbc;exact⟨⟨B0,hB0,h3⟩,h4.to⟩
   |succ i=>exact k4 i j b bc (by simpa using hj) (by simpa using hb) (by simpa using hbc)
theorem K2{ρ:List Nat}:∀{Bs Hc:List aB},wT ρ Bs Hc->Bs.length=Hc.length/\∀(i:Nat) B Bc,Bs[i]? =some B->Hc[i]? =some Bc->kG ρ B Bc
 |[],[],_=>⟨rfl,by simp⟩
 |[],_::_,h=>h.elim
 |_::_,[],h=>h.elim
 |B::Bs,Bc::Hc,h=>by
  obtain⟨k1,k2⟩:=K2 h.2
  refine⟨by simp[k1],λi b bc hb hbc=>?_⟩
  cases i with
  |zero=>simp at hb hbc;subst hb;subst hbc;exact h.1.to
  |succ i=>exact k2 i b bc (by simpa using hb) (by simpa using hbc)
def qcW(t:Nat):Option Operand->Bool
 |some (.tmp u)=>u==t
 |_=>false
def Zp:Option Operand->Bool
 |some (.const v)=>rx v
 |_=>false
def Ts(n:Nat)(args:List Operand)(own:List ((Nat×Nat)×TypeId))(oa:List OA):Bool:=
 oa.all (λx=>decide (n<=x.i)&&((Zp args[x.i - n]? &&x.k==0)||(decide (((x.t,x.k),x.e)∈own)&&qcW x.t args[x.i - n]?)))&&oa.all λx=>oa.all λy=>!(x.t==y.t&&x.k==y.k)||x.i==y.i
def Mp:aB->Bool
 |.dead=>false
 |_=>true
def gV(P:Program)(GE:List (Nat×List PVal))(f:Operand)(args:List Operand)(c:GC)(st:aF)(K:List aB->Prop):Prop:=
 qW GE st.tmps f λvf=>match vf with
 | .func (.func g) first cap => Pe GE st.tmps args fun as => match qb c.ρ && Ts first.length args st.own c.oa && c.Bs.all Mp && decide (c.Bs'.length = c.ρ.length) with
  | true => C P GE g c.argsC (c.oa.map fun x => ((x.i,x.k),x.e)) c.Hc c.rc c.ro c.Hc'∧Fs c.ρ (first ++ as ++ cap) c.argsC∧pU c.ρ st.boxes c.ρ c.Bs c.Hc∧wT c.ρ c.Bs' c.Hc'∧Bg c.ρ c.r c.rc ∧
    R6 st.boxes c.ρ c.Bs' K
  |false=>False
 |_=>False
theorem sd{P:Program}{GE:List (Nat×List PVal)}{f:Operand}{args:List Operand}{c:GC}{st:aF}{K:List aB->Prop}(h:gV P GE f args c st K):∃H',HD P GE f args st c.r c.ro H' c.oa/\K H':=by
 unfold gV at h
 rw[cb]at h
 split at h
 ·rename_i g first cap hf
  rw[mz]at h
  split at h
  ·rename_i hb
   simp only[vaf,var]at hb
   obtain⟨⟨⟨b1,b2⟩,b3⟩,b4⟩:=hb
   obtain⟨h1,h2,h3,h4,h5,h6⟩:=h
   rw[ph]at h6
   have hn:=kC b1
   obtain⟨i1,i2,i3,i4⟩:=Nf h3
   obtain⟨o1,o2⟩:=K2 h4
   unfold Ts at b2
   rw[vaf]at b2
   obtain⟨c1,c2⟩:=b2
   have hgetB:∀{i j:Nat},c.ρ[i]? =some j->∃B,c.Bs[i]? =some B:=λ{i j} hj=>⟨_,vac (by rw[<-i1];exact aq hj)⟩
   have hgetH:∀{i j:Nat},c.ρ[i]? =some j->∃B,c.Hc[i]? =some B:=λ{i j} hj=>⟨_,vac (by rw[i2];exact aq hj)⟩
   refine⟨_,⟨g,first,cap,c.argsC,c.ρ,j0 st.boxes c.ρ c.Bs,c.Hc,c.Hc',c.rc,hf,hn,h1,⟨Fm _ _ _,λi B hB=>?_⟩,⟨i2,λi j hj=>?_⟩,⟨by rw[<-o1];exact b4,λi j hj=>?_⟩,Fm _ _ _,λj hj=>by rw[jN _ _ _ hj,jN _ _ _ hj],h5,h2.len,h2.get,λx hx=>?_,λx hx y hy e1 e2=>?_⟩,h6⟩
   ·by_cases hi:i∈c.ρ
    ·obtain⟨k,hk⟩:=vbf.1 hi
     obtain⟨B1,hB1⟩:=hgetB hk
     obtain⟨Bc,hBc⟩:=hgetH hk
     obtain⟨⟨B0,hB0,hfg⟩,_⟩:=i4 k i B1 Bc hk hB1 hBc
     rw[I9 _ _ _ hn i1 i3 k i B1 hk hB1]at hB
     cases hB
     refine⟨B0,hB0,?_⟩
     rcases VH B0 B with hx|hx|hx
     ·rw[hfg]at hx
      have:=vak.1 b3 B (vaO hB1)
      rw[hx]at this;cases this
     ·rw[hfg]at hx;exact .inl hx
     ·rw[hfg]at hx;exact .inr hx
    ·rw[jN _ _ _ hi]at hB
     exact⟨B,hB,.inl rfl⟩
   ·obtain⟨B1,hB1⟩:=hgetB hj
    obtain⟨Bc,hBc⟩:=hgetH hj
    exact⟨B1,Bc,I9 _ _ _ hn i1 i3 i j B1 hj hB1,hBc,(i4 i j B1 Bc hj hB1 hBc).2⟩
   ·have hi:=aq hj
    have e1:=vac (l:=c.Bs') (i:=i) (by omega)
    have e2:=vac (l:=c.Hc') (i:=i) (by omega)
    exact⟨_,_,I9 _ _ _ hn b4.symm i3 i j _ hj e1,e2,o2 i _ _ e1 e2⟩
   ·have:=vak.1 c1 x hx
    simp only[vaf,vaY,var,va9]at this
    refine⟨x.i - first.length,by omega,?_⟩
    rcases this.2 with⟨h2,h3⟩|⟨h2,h3⟩
    ·left
     unfold Zp at h2
     split at h2
     ·rename_i v hv
      unfold rx at h2
      split at h2
      ·exact⟨hv,h3⟩
      ·cases h2
     ·cases h2
    ·right
     unfold qcW at h3
     split at h3
     ·rename_i u hu
      simp only[va9]at h3
      subst h3;exact⟨h2,hu⟩
     ·cases h3
   ·have:=vak.1 (vak.1 c2 x hx) y hy
    simp only[vaY,vaZ,Bool.and_eq_false_iff,beq_eq_false_iff_ne,ne_eq,va9]at this
    rcases this with(hx|hx)|hx
    ·exact absurd e1 hx
    ·exact absurd e2 hx
    ·exact hx
  ·exact h.elim
 ·exact h.elim
def Mj (P:Program) (GE:List (Nat×List PVal)) (A:List Nat) (o:Oper) (id:Nat) (sc:List It) (st:aF) (K:List It→aF→Prop):Prop :=
 match o.op,sc with
 |.build T parts,.b p L::sc'=>match o.dst with
  |some d=>S0 st.tmps.length d (BJ GE st.tmps parts.toList λps=>di P T ps=some p/\ui P T ps L/\fK st.tmps d p λtm=>bz ((L.map λx=>((d,x.1),x.2))++bQ d st.own) λow=>K sc' ⟨tm,st.boxes,ow⟩)
  |none=>False
 | .store T x (.tmp t),.y vs :: sc' => zA st.tmps t fun vt => match vt with
  | .agg l => match o.dst with
   | none => qW GE st.tmps x fun vx => match vx with
    | .bptr i off => bz (K7 t st.own) fun L => l = vs∧lN st.boxes i fun B => match B with
     | .cells cs own => match qb (L.map (·.1)) && decide (vs.length = P.cellsOf T) && (P.info? T).isSome && decide (off + vs.length ≤ cs.length) && vs.all PVal.one with
      | true => bz (cs.take off ++ vs ++ cs.drop (off + vs.length)) fun cs' => bz ((L.map fun y => (off + y.1,y.2)).reverse ++ own.filter fun y => y.1 < off || off + vs.length ≤ y.1) fun own' =>
        fK st.boxes i (.cells cs' own') λH=>bz (st.own.filter λx=>!L.any λy=>x.1==(t,y.1)) λow=>K sc' ⟨st.tmps,H,ow⟩
      |false=>False
     |_=>False
    |_=>False
   |some _=>False
  |_=>M7 P GE A o id sc st K
 | .load T x,.z l :: sc' => match P.underlying T with
  | some (.struct _) => match o.dst with
   | some d => S0 st.tmps.length d (qW GE st.tmps x fun vx => match vx with
    | .bptr i off => lN st.boxes i fun B => match B with
     | .cells cs own => bo P T (cs.drop off) = some (.agg l)∧bz (V9 off (P.cellsOf T) own) fun L => match qb (L.map (·.1)) with
      | true => fK st.tmps d (.agg l) fun tm => bz (own.filter fun x => !L.any fun y => x.1 == off + y.1) fun own' => fK st.boxes i (.cells cs own') fun H =>
        bz ((L.map λy=>((d,y.1),y.2)).reverse++bQ d st.own) λow=>K sc' ⟨tm,H,ow⟩
      |false=>False
     |_=>False
    |_=>False)
   |none=>False
  |_=>M7 P GE A o id sc st K
 |.box _ x,.e vs::sc'=>match o.dst with
  |some d=>S0 st.tmps.length d (qW GE st.tmps x λvx=>bZ vx=some vs/\fK st.tmps d (.eptr vs) λtm=>bz (bQ d st.own) λow=>K sc' ⟨tm,st.boxes,ow⟩)
  |none=>False
 |.call {callee:=.value f,args,..},.cg c::sc'=>match o.dst with
  |some d=>S0 st.tmps.length d (gV P GE f args.toList c st λH=>fK st.tmps d c.r λtm=>bz ((c.ro.map λx=>((d,x.1),x.2))++bQ d (st.own.filter λz=>!c.oa.any λx=>z.1==(x.t,x.k))) λow=>K sc' ⟨tm,H,ow⟩)
  |none=>False
 | .box T (.tmp t),.y vs :: sc' => match o.dst with
  | some d => S0 st.tmps.length d (zA st.tmps t fun vt => match vt with
   |.agg l=>bz (K7 t st.own) λL=>l=vs/\(match qb (L.map (·.1))&&LF vs with
    |true=>bz (vs.map (nilTo id T)) λcs=>fK st.tmps d (.bptr id 0) λtm=>bz ((L.map λy=>(0+y.1,y.2)).reverse++[]) λown=>fK st.boxes id (.cells cs own) λH=>bz (bQ d (st.own.filter λx=>!L.any λy=>x.1==(t,y.1))) λow=>K sc' ⟨tm,H,ow⟩
    |false=>False)
   |_=>False)
  |none=>False
 |.alloc T,.y vs::sc'=>match o.dst with
  |some d=>S0 st.tmps.length d (fu P T=some vs/\bz (Ld P T) λown=>bz (vs.map (nilTo id T)) λcs=>fK st.tmps d (.bptr id 0) λtm=>fK st.boxes id (.cells cs own) λH=>bz (bQ d st.own) λow=>K sc' ⟨tm,H,ow⟩)
  |none=>False
 | .call { callee := .builtin .append,args:=⟨[.tmp t,y]⟩,argTypes:=⟨[T,T']⟩ },.z ps :: sc' => match o.dst,ps with
  | some d,[p] => S0 st.tmps.length d (zA st.tmps t fun ve => qW GE st.tmps y fun vn => match ve,vn,P.underlying T with
   |.slice es,.str s,some (.slice e)=>match decide (((t,0),e)∈st.own)with
    |true=>Ax P T T' es s=some p/\fK st.tmps d p λtm=>bz (((d,0),e)::bQ d (st.own.filter λx=>x.1 !=(t,0))) λow=>K sc' ⟨tm,st.boxes,ow⟩
    |false=>False
   |_,_,_=>False)
  |_,_=>False
 |_,_=>M7 P GE A o id sc st K
def KY(P:Program)(GE:List (Nat×List PVal))(A:List Nat)(ops:Array Oper)(K:List It->aF->Prop):List Oper->Nat->Nat->List It->aF->Prop
 |[],_,_,sc,st=>K sc st
 | o :: rest,pos,id,sc,st =>
  let step (sc:List It) (st:aF):Prop:=Mj P GE A o id sc st λsc' st'=>KY P GE A ops K rest (pos+1) (id+if aE o.op then 1 else 0) sc' st'
  match o.guard with
  |none=>step sc st
  |some (j,want)=>Mh ops j want pos sc st λb sc' st'=>match b with
   |true=>step sc' st'
   |false=>Pp st' o.dst (.val undef) [] st'.boxes λst''=>KY P GE A ops K rest (pos+1) (id+if aE o.op then 1 else 0) sc' st''
section
variable{P:Program}{GE:List (Nat×List PVal)}{A:List Nat}{ops:Array Oper}
theorem Q2{f:Operand}{args:List Operand}{tmps:List PVal}{H:List aB}{sc:List It}{K:PVal->List (Nat×TypeId)->List It->Prop}(h:UB P GE f args tmps sc K):G1 P GE (opv GE tmps f) (args.map (opv GE tmps)) H λr ro H'=>H'=H/\∃sc',K r ro sc':=by
 unfold UB at h
 rw[cb]at h
 split at h
 ·rename_i g first cap hf
  rw[mz]at h
  split at h
  ·rename_i r ro sc'
   rw[hf]
   exact .inl ⟨h.1.1,r,ro,h.1.2,rfl,sc',h.2⟩
  ·exact h.elim
 ·exact h.elim
theorem Fd{op:Op}{id:Nat}{v:Operand->PVal}{H H':List aB}{p:PVal}{K:PVal->List (Nat×TypeId)->List aB->Prop}(hn:∀f args tys,op≠.call {callee:=.value f,args,argTypes:=tys})
  (h:sB P op id v H=some (p,H')) (hk:K p [] H'):Ph P GE op id v H K:=by
 unfold Ph
 split
 ·rename_i f args tys;exact absurd rfl (hn _ _ _)
 ·rw[h];exact hk
theorem kw{o:Oper}{id:Nat}{sc:List It}{st:aF}{K:List It->aF->Prop}(h:yO P GE o id sc st K):mU o st.tmps.length=true/\Ph P GE o.op id (opv GE st.tmps) st.boxes λp ro H=>(λst'=>∃sc',K sc' st') (zU st o.dst p ro H):=by
 unfold yO at h
 split at h
 ·exact h.elim
 ·rename_i hc
  refine⟨hc,?_⟩
  split at h
  ·rename_i f args tys ho
   have:=Q2 (H:=st.boxes) h
   unfold Ph
   simp only[ho]
   unfold G1 at this ⊢
   split at this
   ·rcases this with⟨k1,r,ro,k2,_,sc',k3⟩|⟨ρ,argsC,Hc,rc,ro,Hc',H',r,k1,k2,k3,k4,k5,k6,k7,k8,k9,rfl,sc',k10⟩
    ·rw[vZ]at k3;exact .inl ⟨k1,r,ro,k2,sc',k3⟩
    ·rw[vZ]at k10;exact .inr ⟨ρ,argsC,Hc,rc,ro,Hc',_,r,k1,k2,k3,k4,k5,k6,k7,k8,k9,sc',k10⟩
   ·exact this.elim
  ·rename_i t ho
   split at h
   ·rename_i zs sc'
    obtain⟨h1,h2⟩:=h
    simp only[aO,bF,vZ]at h2
    rw[ho]
    exact Fd (by simp) (by simp only[sB,h1,vaj]) ⟨sc',h2⟩
   ·exact h.elim
  ·rename_i t x ho
   rw[cb]at h
   split at h
   ·rename_i cs sc'
    obtain⟨h1,h1n,h2⟩:=h
    simp only[bF,vZ]at h2
    rw[ho]
    exact Fd (by simp) (by simp only[sB,NP h1 h1n,vaj]) ⟨sc',h2⟩
   ·exact h.elim
  ·rename_i t ho
   simp only[bF,vZ]at h
   rw[ho]
   exact Fd (by simp) (by simp only[sB]) ⟨_,h⟩
  ·rename_i n1 n2 n3 n4
   obtain⟨p,H',sc',k1,k2,_⟩:=K1 (id:=id) h
   rw[vZ]at k2
   exact Fd (λf args tys e=>n1 f args tys e) k1 ⟨sc',k2⟩
theorem BB{o:Oper}{id:Nat}{sc:List It}{st:aF}{K:List It->aF->Prop}(h:M7 P GE A o id sc st K):Lb P GE A o id (λst'=>∃sc',K sc' st') st:=by
 unfold M7 at h
 unfold Lb
 split at h
 case h_1 t d ho hd=>
  obtain⟨h1,h2⟩:=oG h
  simp only[iu,bF,aO]at h2
  simp only[ho,hd]
  exact⟨h1,_,h2⟩
 case h_2 t d ho hd=>
  simp only[ho,hd]
  split at h
  ·rename_i hA
   obtain⟨h1,h2⟩:=oG h
   simp only[iu,bF,aO]at h2
   rw[vad (by simpa using hA)]
   exact⟨h1,_,h2⟩
  ·rename_i hA
   rw[vab (by simpa using hA)]
   have:=kw h
   rw[ho,hd]at this
   exact this
 case h_3 v d ho hd=>
  simp only[ho,hd]
  split at h
  ·rename_i e he
   obtain⟨h1,h2⟩:=oG h
   simp only[bF,aO]at h2
   simp only[he]
   exact⟨h1,_,h2⟩
  ·rename_i he
   simp only[he]
   have:=kw h
   rw[ho,hd]at this
   exact this
 case h_4 v d ho hd=>
  simp only[ho,hd]
  split at h
  ·rename_i e he
   obtain⟨h1,h2⟩:=oG h
   simp only[bF,aO]at h2
   simp only[he]
   exact⟨h1,_,h2⟩
  ·rename_i he
   simp only[he]
   have:=kw h
   rw[ho,hd]at this
   exact this
 case h_5 t i d ho hd=>
  obtain⟨h1,h2⟩:=oG h
  rw[iu]at h2
  obtain⟨p,h3,h4⟩:=yU h2
  simp only[bF,aO]at h4
  simp only[ho,hd,h3]
  exact⟨h1,_,h4⟩
 case h_6 T len parts d ho hd=>
  obtain⟨h1,h2⟩:=oG h
  rw[rA]at h2
  split at h2
  ·rename_i p sc' e hu
   obtain⟨h3,h4⟩:=h2
   simp only[bF,aO]at h4
   simp only[ho,hd,h3,hu]
   exact⟨h1,_,h4⟩
  ·exact h2.elim
 case h_7 t y T T' d ho hd=>
  obtain⟨h1,h2⟩:=oG h
  rw[iu,cb]at h2
  split at h2
  ·rename_i es ns p sc' e he hn hu
   split at h2
   ·rename_i hc
    simp only[vaf,var]at hc
    obtain⟨h3,h4⟩:=h2
    simp only[bF,aO]at h4
    simp only[ho,hd,hu,he,hn,h3]
    exact⟨hc.1,h1,hc.2,_,h4⟩
   ·exact h2.elim
  ·exact h2.elim
 case h_8 T x d ho hd=>
  simp only[ho,hd]
  split at h
  ·rename_i hA
   obtain⟨h1,h2⟩:=oG h
   rw[cb]at h2
   rw[vad (by simpa using hA)]
   split at h2
   ·rename_i i off e hx hu
    obtain⟨B,hB,h2⟩:=d5 h2
    split at h2
    ·rename_i cs own
     split at h2
     ·rename_i hc
      simp only[vaf,var]at hc
      simp only[iu,bF,aO]at h2
      have hget:cs[off]? =some (cs.getD off .undef):=by
       rw[vap,vac hc.2];rfl
      simp only[hx,hu,hB,hget]
      exact⟨h1,hc.1,_,h2⟩
     ·exact h2.elim
    ·exact h2.elim
   ·exact h2.elim
  ·rename_i hA
   rw[vab (by simpa using hA)]
   have:=kw h
   rw[ho,hd]at this
   exact this
 case h_9 T x t ho=>
  simp only[ho]
  split at h
  ·rename_i y e hf
   rw[cb,iu]at h
   simp only[hf]
   unfold M6 at h
   split at h
   ·rename_i i off hx
    split at h
    ·rename_i H hst
     obtain⟨B,hB,h⟩:=d5 h
     split at h
     ·rename_i cs own
      split at h
      ·rename_i hone
       simp only[bF,aO,vZ]at h
       simp only[hx,hst,hB,hone]
       exact⟨_,h⟩
      ·exact h.elim
     ·exact h.elim
    ·exact h.elim
   ·exact h.elim
  ·rename_i hf
   simp only[hf]
   have:=kw h
   rw[ho]at this
   exact this
 case h_10=>
  have:=kw h
  split
  all_goals first
   |exact this
   |(exfalso;simp_all;done)
   |(exfalso;simp_all;rename_i hx h1 h2;exact hx _ _ _ _ rfl rfl rfl rfl)
   |(exfalso;simp_all;rename_i hx h1 h2;exact hx _ _ _ _ _ rfl rfl rfl rfl rfl)
   |(exfalso;simp_all;rename_i hx h1 h2;exact hx _ _ _ rfl rfl rfl)
theorem Gg{j:Nat}{want:Bool}{pos:Nat}{sc:List It}{st:aF}{go:Bool->List It->aF->Prop}(h:Mh ops j want pos sc st go):∃x,xi ops st.tmps j=some x/\((x=some want/\∃sc',go true sc' st)\/(x≠some want/\∃sc',go false sc' st)):=by
 unfold Mh at h
 split at h
 ·exact h.elim
 ·rename_i t ht
  rw[iu]at h
  have hget:∀{p},st.tmps.getD t .undef=p->p≠.undef->st.tmps[t]? =some p:=by
   intro p hp hne
   rw[vap]at hp
   cases hx:st.tmps[t]? with
   |none=>rw[hx]at hp;exact absurd hp.symm hne
   |some q=>rw[hx]at hp;exact va6 some hp
  have hfin:∀(x:Bool) sc',go (x==want) sc' st->(some x=some want/\∃sc',go true sc' st)\/(some x≠some want/\∃sc',go false sc' st):=by
   intro x sc' hg
   cases x<;>cases want<;>simp at hg ⊢<;>exact⟨sc',hg⟩
  split at h
  ·rename_i x hp
   have hx:=hget hp (by simp)
   have hg:xi ops st.tmps j=some (some x):=by unfold xi;simp only[ht,hx]
   refine⟨_,hg,?_⟩
   split at h
   ·rename_i pos' b sc'
    split at h
    ·obtain⟨rfl,h⟩:=h
     rw[bF,Jb hx]at h
     exact hfin x sc' h
    ·exact hfin x _ h
   ·exact hfin x _ h
  ·rename_i v hp
   have hx:=hget hp (by simp)
   split at h
   ·exact h.elim
   ·rename_i hb
    refine⟨none,?_,.inr ⟨by simp,_,h⟩⟩
    unfold xi
    simp only[ht,hx]
    cases v<;>simp[qjS]at hb<;>rfl
  ·exact h.elim
theorem O0{o:Oper}{id:Nat}{sc:List It}{st:aF}{K:List It->aF->Prop}(h:Mj P GE A o id sc st K):Ew P GE A o id (λst'=>∃sc',K sc' st') st:=by
 unfold Mj at h
 split at h
 ·rename_i T parts p L sc' ho
  split at h
  ·rename_i d hd
   obtain⟨h1,h2⟩:=oG h
   rw[rA]at h2
   obtain⟨h3,h4,h5⟩:=h2
   simp only[bF,aO]at h5
   refine .inr (.inl ?_)
   unfold NZ
   simp only[ho,hd]
   exact⟨p,L,h3,h4,h1,sc',h5⟩
  ·exact h.elim
 ·rename_i T x t vs sc' ho
  rw[iu]at h
  split at h
  ·rename_i l hl
   split at h
   ·rename_i hd
    rw[cb]at h
    split at h
    ·rename_i i off hx
     rw[aO]at h
     obtain⟨rfl,h⟩:=h
     obtain⟨B,hB,h⟩:=d5 h
     split at h
     ·rename_i cs own
      split at h
      ·rename_i hc
       simp only[bF,aO]at h
       simp only[vaf,var]at hc
       obtain⟨⟨⟨⟨c1,c2⟩,c3⟩,c4⟩,c5⟩:=hc
       refine .inr (.inl ?_)
       unfold NZ
       simp only[ho,hd]
       have hi:=aq hB
       refine⟨i,off,st.boxes.set i (.cells (cs.take off++l++cs.drop (off+l.length)) (own.filter λy=>y.1<off||off+l.length<=y.1)),_,_,K7 t st.own,l,hx,hl,?_,vai hi,λy hy=>Fb hy,kC c1,sc',?_⟩
       ·simp only[eK,bZ,hB]
        rw[vad ⟨c2,c3,c4,c5⟩]
       ·rw[vbT];exact h
      ·exact h.elim
     ·exact h.elim
    ·exact h.elim
   ·exact h.elim
  ·exact .inl (BB h)
 ·rename_i T x l sc' ho
  split at h
  ·rename_i fs hT
   split at h
   ·rename_i d hd
    obtain⟨h1,h⟩:=oG h
    rw[cb]at h
    split at h
    ·rename_i i off hx
     obtain⟨B,hB,h⟩:=d5 h
     split at h
     ·rename_i cs own
      obtain⟨h2,h⟩:=h
      rw[aO]at h
      split at h
      ·rename_i hn
       simp only[bF,aO]at h
       refine .inr (.inl ?_)
       unfold NZ
       simp only[ho,hd]
       have hlen:l.length=P.cellsOf T:=by
        have hp:=h2
        unfold bo at hp
        rw[hT]at hp
        simp only at hp
        split at hp
        ·rename_i hh;cases hp;rw[vba];omega
        ·cases hp
       exact⟨i,off,cs,own,_,l,⟨fs,hT⟩,hx,hB,h2,λy hy=>(Fa hy).1,kC hn,λy hy=>by rw[hlen];exact(Fa hy).2,h1,sc',h⟩
      ·exact h.elim
     ·exact h.elim
    ·exact h.elim
   ·exact h.elim
  ·exact .inl (BB h)
 ·rename_i T x vs sc' ho
  split at h
  ·rename_i d hd
   obtain⟨h1,h⟩:=oG h
   rw[cb]at h
   obtain⟨h2,h⟩:=h
   simp only[bF,aO]at h
   refine .inr (.inl ?_)
   unfold NZ
   simp only[ho,hd]
   exact⟨vs,h2,h1,sc',h⟩
  ·exact h.elim
 ·rename_i f args tys c sc' ho
  split at h
  ·rename_i d hd
   obtain⟨h1,h⟩:=oG h
   obtain⟨H',h2,h3⟩:=sd h
   simp only[bF,aO]at h3
   refine .inr (.inl ?_)
   unfold NZ
   simp only[ho,hd]
   exact⟨c.r,c.ro,H',c.oa,h2,h1,sc',h3⟩
  ·exact h.elim
 ·rename_i T t vs sc' ho
  split at h
  ·rename_i d hd
   obtain⟨h1,h⟩:=oG h
   rw[iu]at h
   split at h
   ·rename_i l hl
    rw[aO]at h
    obtain⟨rfl,h⟩:=h
    split at h
    ·rename_i hn
     simp only[bF,aO]at h
     refine .inr (.inr ?_)
     unfold qca
     simp only[ho,hd]
     rw[vaf]at hn
     exact⟨l,K7 t st.own,hl,hn.2,λy hy=>Fb hy,kC hn.1,h1,sc',h⟩
    ·exact h.elim
   ·exact h.elim
  ·exact h.elim
 ·rename_i T vs sc' ho
  split at h
  ·rename_i d hd
   obtain⟨h1,h2,h⟩:=oG h
   simp only[bF,aO]at h
   refine .inr (.inr ?_)
   unfold qca
   simp only[ho,hd]
   exact⟨vs,h2,h1,sc',h⟩
  ·exact h.elim
 ·rename_i t y T T' ps sc' ho
  split at h
  ·rename_i d p hd
   have hh:=oG h
   clear h
   obtain⟨h1,h⟩:=hh
   rw[iu,cb]at h
   split at h
   ·rename_i es s e he hn hT
    split at h
    ·rename_i hc
     simp only[var]at hc
     obtain⟨h2,h3⟩:=h
     simp only[bF,aO]at h3
     refine .inr (.inr ?_)
     unfold qca
     simp only[ho,hd]
     exact⟨es,s,e,p,he,hn,hT,hc,h2,h1,sc',h3⟩
    ·exact h.elim
   ·exact h.elim
  ·exact h.elim
 ·exact .inl (BB h)
theorem tI{o:Oper}{id:Nat}{K K':aF->Prop}{st:aF}(hk:∀st,K st->K' st)(h:Ew P GE A o id K st):Ew P GE A o id K' st:=by
 rcases h with h|h|h
 ·exact .inl (U2 hk h)
 rotate_left
 ·exact .inr (.inr (Z4 hk h))
 ·refine .inr (.inl ?_)
  unfold NZ at *
  split at h
  ·obtain⟨p,L,h1,h2,h3,h4⟩:=h;exact⟨p,L,h1,h2,h3,hk _ h4⟩
  ·obtain⟨i,off,H,cs,own,L,l,h1,h2,h3,h4,h5,h6,h7⟩:=h;exact⟨i,off,H,cs,own,L,l,h1,h2,h3,h4,h5,h6,hk _ h7⟩
  ·obtain⟨i,off,cs,own,L,l,h0,h1,h2,h3,h4,h5,h6,h7,h8⟩:=h;exact⟨i,off,cs,own,L,l,h0,h1,h2,h3,h4,h5,h6,h7,hk _ h8⟩
  ·obtain⟨vs,h1,h2,h3⟩:=h;exact⟨vs,h1,h2,hk _ h3⟩
  ·obtain⟨r,ro,H',oa,h1,h2,h3⟩:=h;exact⟨r,ro,H',oa,h1,h2,hk _ h3⟩
  ·exact h
theorem wQ{K:List It->aF->Prop}:∀(rest:List Oper) (pos id:Nat) (sc:List It) (st:aF),KY P GE A ops K rest pos id sc st->cD P GE A ops (λst=>∃sc,K sc st) rest id st
 |[],_,_,sc,st,h=>⟨sc,h⟩
 | o :: rest,pos,id,sc,st,h => by
  simp only[KY]at h
  have step:∀sc st,Mj P GE A o id sc st (λsc' st'=>KY P GE A ops K rest (pos+1) (id+if aE o.op then 1 else 0) sc' st')->Ew P GE A o id (cD P GE A ops (λst=>∃sc,K sc st) rest (id+if aE o.op then 1 else 0)) st:=
   λsc st hs=>tI (λst' hx=>by obtain⟨sc',hx⟩:=hx;exact wQ rest _ _ sc' st' hx) (O0 hs)
  unfold cD
  split at h
  ·rename_i hg;simp only[hg];exact step _ _ h
  ·rename_i j want hg
   obtain⟨x,hx,hc⟩:=Gg h
   simp only[hg,hx]
   rcases hc with⟨rfl,sc',hc⟩|⟨hne,sc',hc⟩
   ·exact⟨λ_=>step _ _ hc,λhn=>absurd rfl hn⟩
   ·refine⟨λhe=>absurd he hne,λ_=>?_⟩
    simp only[vZ]at hc
    exact wQ rest _ _ sc' _ hc
end
set_option linter.unusedVariables false
abbrev Rs:=Bool×Nat×Nat
abbrev Vn:=Bool×(Nat×Nat)×TypeId
def dZ(τ:Vn):Rs:=match τ.1 with
 |false=>(false,τ.2.1.1,0)
 |true=>(true,τ.2.1.1,τ.2.1.2)
def iv(st:aF)(τ:Vn):Prop:=match τ.1 with
 |false=>(τ.2.1,τ.2.2)∈st.own
 |true=>∃cs own,st.boxes[τ.2.1.1]? =some (.cells cs own)/\(τ.2.1.2,τ.2.2)∈own
def aP:aB->aB
 |.cells cs _=>.cells cs []
 |B=>B
theorem Rf{H H2:List aB}(h:H2.map aP=H.map aP)(i:Nat):(H2[i]?).map aP=(H[i]?).map aP:=by
 have:=va6 (λl=>l[i]?) h
 simpa[vaA]using this
theorem BD{H H2:List aB}(h:H2.map aP=H.map aP){i:Nat}{cs:List PVal}{own:List (Nat×TypeId)}(hi:H[i]? =some (.cells cs own)):∃own2,H2[i]? =some (.cells cs own2):=by
 have:=Rf h i
 rw[hi]at this
 cases hB:H2[i]? with
 |none=>rw[hB]at this;cases this
 |some B=>
  rw[hB]at this
  cases B<;>simp[aP]at this
  subst this
  exact⟨_,rfl⟩
section
variable{P:Program}{GE:List (Nat×List PVal)}
theorem TG{t:TypeId}{x:PVal}{H H2:List aB}(h:H2.map aP=H.map aP):lT P t x H2=lT P t x H:=by
 unfold lT
 split
 ·rfl
 ·rename_i i off
  have hi:=Rf h i
  generalize H2[i]? =o at hi
  generalize H[i]? =o' at hi
  rcases o with _|(_|_|_)<;>rcases o' with _|(_|_|_)<;>simp[aP]at hi ⊢
  subst hi;rfl
 ·rfl
theorem U0{t:TypeId}{x:PVal}{H H2:List aB}(h:H2.map aP=H.map aP):G5 P t x H2=G5 P t x H:=by
 unfold G5
 split<;>first|rfl|skip
 rename_i i _
 have hi:=Rf h i
 generalize H2[i]? =o at hi
 generalize H[i]? =o' at hi
 rcases o with _|(_|_|_)<;>rcases o' with _|(_|_|_)<;>simp[aP]at hi ⊢
 subst hi;rfl
theorem Pj{t:TypeId}{m k:PVal}{ok:Bool}{H H2:List aB}(h:H2.map aP=H.map aP):y2 P t m k ok H2=y2 P t m k ok H:=by
 unfold y2
 split
 ·rename_i kt e i _
  have hi:=Rf h i
  generalize H2[i]? =o at hi
  generalize H[i]? =o' at hi
  rcases o with _|(_|_|_)<;>rcases o' with _|(_|_|_)<;>simp[aP]at hi ⊢
  subst hi;rfl
 ·rfl
theorem qeh{op:Op}{id:Nat}{v:Operand->PVal}{H H2:List aB}{p:PVal}(hc:ca P op≠3)(hm:aE op=false)(h:sB P op id v H=some (p,H))(h2:2<=ca P op->H2.map aP=H.map aP):sB P op id v H2=some (p,H2):=by
 by_cases hlt:ca P op<2
 ·exact qcc hlt hm h H2
 ·have hs:=h2 (by omega)
  have key:∀{q q':Option PVal},q'=q->(q.map λp=>(p,H))=some (p,H)->(q'.map λp=>(p,H2))=some (p,H2):=by
   intro q q' e hq
   obtain⟨z,hz,he⟩:=ei hq
   cases he
   rw[e,hz];rfl
  unfold sB at h ⊢
  split at h
  all_goals first
   |(cases h;done)
   |(simp[ca]at hlt;done)
   |(simp[ca]at hc;done)
   |(simp[aE]at hm;done)
   |exact key (TG hs) h
   |exact key (Pj hs) h
   |exact key (U0 hs) h
def bO(P:Program)(rw:List Nat)(o:Oper):Nat:=match o.op with
 |.call {callee:=.value _,..}=>if(o.dst.any λd=>rw.contains (8 * d+1))=true then 3 else 0
 |op=>ca P op
theorem HZ{rw:List Nat}{o:Oper}(h:∀f args tys,o.op≠.call {callee:=.value f,args,argTypes:=tys}):bO P rw o=ca P o.op:=by
 unfold bO
 split
 ·rename_i hx;exact absurd hx (h _ _ _)
 ·rfl
def PN:Op->Bool
 |.call {callee:=.value _,..}=>true
 |_=>false
def zc(i off n:Nat):List Rs:=(List.range n).map λk=>(true,i,off+k)
inductive jy(P:Program)(GE:List (Nat×List PVal))(bi:Option (Nat×aB))(rw:List Nat)(o:Oper)(id:Nat)(s:aF):aF->List Rs->Prop where
 | call (d:Nat) (f:Operand) (args:Array Operand) (tys:Array TypeId) (g:FuncId) (first cap:List PVal) (r:PVal) (ro:List (Nat×TypeId)) (ho:o.op = .call { callee := .value f,args,argTypes:=tys }) (hd:o.dst = some d)
   (hf:opv GE s.tmps f=.func (.func g) first cap) (hcl:iG 0 (first++args.toList.map (opv GE s.tmps)++cap)) (hc:C P GE g (first++args.toList.map (opv GE s.tmps)++cap) [] [] r ro []):
   jy P GE bi rw o id s ⟨s.tmps.set d r,s.boxes,(ro.map λx=>((d,x.1),x.2))++bQ d s.own⟩ [(false,d,0)]
 |alloc (d:Nat) (t:TypeId) (zs:List PVal) (ho:o.op=.alloc t) (hd:o.dst=some d) (hz:fu P t=some zs):jy P GE bi rw o id s ⟨s.tmps.set d (.bptr id 0),s.boxes,bQ d s.own⟩ [(false,d,0)]
 |mkmap (d:Nat) (t:TypeId) (ho:o.op=.makeMap t none) (hd:o.dst=some d):jy P GE bi rw o id s ⟨s.tmps.set d (.mapr id),s.boxes,bQ d s.own⟩ [(false,d,0)]
 | ev (d:Nat) (p:PVal) (hd:o.dst = some d) (hn:PN o.op = false) (hm:aE o.op = false) (hc:ca P o.op ≠ 3) (h:sB P o.op id (opv GE s.tmps) s.boxes = some (p,s.boxes)) :
   jy P GE bi rw o id s ⟨s.tmps.set d p,s.boxes,bQ d s.own⟩ [(false,d,0)]
 | res (d:Nat) (p:PVal) (L:List (Nat×TypeId)) (hd:o.dst = some d)
   (h:(∃T len parts e,o.op=.buildSlice T len parts/\eW P T len (parts.toList.map λx=>(x.1,opv GE s.tmps x.2))=some p/\P.underlying T=some (.slice e)/\L=[(0,e)])\/
    (∃T parts,o.op=.build T parts/\di P T (parts.toList.map λx=>(x.1,opv GE s.tmps x.2))=some p/\ui P T (parts.toList.map λx=>(x.1,opv GE s.tmps x.2)) L)\/
    (∃v e,(o.op=.assign (.const v)\/o.op=.move (.const v))/\vK P o.type v=some e/\p=.slice []/\L=[(0,e)])):
   jy P GE bi rw o id s ⟨s.tmps.set d p,s.boxes,(L.map λx=>((d,x.1),x.2))++bQ d s.own⟩ [(false,d,0)]
 | app (d t:Nat) (T e:TypeId) (y:Operand) (es ns:List (List PVal)) (p:PVal) (hd:o.dst = some d) (ho:o.op = .call { callee := .builtin .append,args:=⟨[.tmp t,y]⟩,argTypes:=⟨[T,T]⟩ })
   (hT:P.underlying T=some (.slice e)) (he:s.tmps.getD t .undef=.slice es) (hn:opv GE s.tmps y=.slice ns) (hp:vM P T es ns=some p) (hm:((t,0),e)∈s.own):
   jy P GE bi rw o id s ⟨s.tmps.set d p,s.boxes,((d,0),e)::bQ d (s.own.filter λx=>x.1 !=(t,0))⟩ [(false,d,0),(false,t,0)]
 | mv (d t:Nat) (hd:o.dst = some d) (ho:o.op = .assign (.tmp t)∨o.op = .move (.tmp t)) (hdt:d ≠ t) :
   jy P GE bi rw o id s ⟨s.tmps.set d (s.tmps.getD t .undef),s.boxes,oL d (λx=>if x.1=t then(d,x.2)else x) s.own⟩ [(false,d,0),(false,t,0)]
 | ld (d:Nat) (T:TypeId) (x:Operand) (i off:Nat) (cs:List PVal) (own L:List (Nat×TypeId)) (p:PVal) (hd:o.dst = some d) (ho:o.op = .load T x) (hx:opv GE s.tmps x = .bptr i off) (hB:s.boxes[i]? = some (.cells cs own))
   (h:(∃e,P.underlying T=some (.slice e)/\cs[off]? =some p/\L=[(0,e)])\/(∃fs l,P.underlying T=some (.struct fs)/\bo P T (cs.drop off)=some (.agg l)/\p=.agg l/\(L.map (·.1)).Nodup/\∀y∈L,y.1<l.length))
   (hm:∀y∈L,(off+y.1,y.2)∈own):
   jy P GE bi rw o id s ⟨s.tmps.set d p,s.boxes.set i (.cells cs (own.filter λx=>!L.any λy=>x.1==off+y.1)),(L.map λy=>((d,y.1),y.2)).reverse++bQ d s.own⟩ ((false,d,0)::L.map λy=>(true,i,off+y.1))
 | st (T:TypeId) (x y:Operand) (i off:Nat) (vs cs:List PVal) (own:List (Nat×TypeId)) (hd:o.dst = none) (ho:o.op = .store T x y) (hx:opv GE s.tmps x = .bptr i off) (hvs:bZ (opv GE s.tmps y) = some vs) (hB:s.boxes[i]? = some (.cells cs own))
   (hp:eK P T (.bptr i off) (opv GE s.tmps y) s.boxes=some (s.boxes.set i (.cells (cs.take off++vs++cs.drop (off+vs.length)) (own.filter λy=>y.1<off||off+vs.length<=y.1)))):
   jy P GE bi rw o id s ⟨s.tmps,s.boxes.set i (.cells (cs.take off++vs++cs.drop (off+vs.length)) (own.filter λy=>y.1<off||off+vs.length<=y.1)),s.own⟩ (zc i off vs.length)
 | sto (T:TypeId) (x:Operand) (t i off:Nat) (vs cs:List PVal) (own L:List (Nat×TypeId)) (hd:o.dst = none) (ho:o.op = .store T x (.tmp t)) (hx:opv GE s.tmps x = .bptr i off) (hvs:bZ (s.tmps.getD t .undef) = some vs) (hB:s.boxes[i]? = some (.cells cs own))
   (hp:eK P T (.bptr i off) (s.tmps.getD t .undef) s.boxes=some (s.boxes.set i (.cells (cs.take off++vs++cs.drop (off+vs.length)) (own.filter λy=>y.1<off||off+vs.length<=y.1))))
   (hk:(∃l,s.tmps.getD t .undef=.agg l)\/((s.tmps.getD t .undef).one=true/\∃e,L=[(0,e)])) (hm:∀y∈L,((t,y.1),y.2)∈s.own) (hn:(L.map (·.1)).Nodup) (hl:∀y∈L,y.1<vs.length):
   jy P GE bi rw o id s ⟨s.tmps,s.boxes.set i (.cells (cs.take off++vs++cs.drop (off+vs.length)) ((L.map λy=>(off+y.1,y.2)).reverse++own.filter λy=>y.1<off||off+vs.length<=y.1)),s.own.filter λx=>!L.any λy=>x.1==(t,y.1)⟩
    ((false,t,0)::zc i off vs.length)
 |mu (t:TypeId) (m k x:Operand) (H:List aB) (hd:o.dst=none) (ho:o.op=.mapUpdate t m k x) (hp:gH P t (opv GE s.tmps m) (opv GE s.tmps k) (opv GE s.tmps x) s.boxes=some H):jy P GE bi rw o id s ⟨s.tmps,H,s.own⟩ []
 | callR (d:Nat) (f:Operand) (args:Array Operand) (tys:Array TypeId) (r:PVal) (ro:List (Nat×TypeId)) (oa:List OA) (ho:o.op = .call { callee := .value f,args,argTypes:=tys }) (hd:o.dst = some d)
   (hg:∀st:aF,(∀x,x=f\/x∈args.toList->opv GE s.tmps x=opv GE st.tmps x)->(∀x∈oa,((x.t,x.k),x.e)∈s.own->((x.t,x.k),x.e)∈st.own)->HD P GE f args.toList st r ro st.boxes oa):
   jy P GE bi rw o id s ⟨s.tmps.set d r,s.boxes,(ro.map λx=>((d,x.1),x.2))++bQ d (s.own.filter λz=>!oa.any λx=>z.1==(x.t,x.k))⟩ ((false,d,0)::oa.map λx=>(false,x.t,0))
 | stR (T:TypeId) (x y:Operand) (i off:Nat) (cs cs':List PVal) (hd:o.dst = none) (ho:o.op = .store T x y) (hx:opv GE s.tmps x = .bptr i off) (hB:s.boxes[i]? = some (.cells cs []))
   (hp:eK P T (.bptr 0 off) (opv GE s.tmps y) [.cells cs []]=some [.cells cs' []]) (hi:2 * i∈rw):
   jy P GE bi rw o id s ⟨s.tmps,s.boxes.set i (.cells cs' []),s.own⟩ []
structure qhu(P:Program)(rw:List Nat)(o:Oper)(s s':aF)(rs:List Rs):Prop where
 tm:match o.dst with
  |some d=>∃p,s'.tmps=s.tmps.set d p
  |none=>s'.tmps=s.tmps
 bx:bO P rw o≠3->s'.boxes.map aP=s.boxes.map aP
 back:∀τ,dZ τ∉rs->iv s' τ->iv s τ
theorem Qk{H:List aB}{i:Nat}{cs:List PVal}{own own':List (Nat×TypeId)}(hB:H[i]? =some (.cells cs own)):(H.set i (.cells cs own')).map aP=H.map aP:=by
 apply vbh
 intro j
 simp only[vaA]
 by_cases hj:i=j
 ·subst hj
  rw[vai (aq hB),hB];rfl
 ·rw[vat hj]
theorem cQ{st:aF}{t k:Nat}{e:TypeId}:iv st (false,(t,k),e)↔((t,k),e)∈st.own:=Iff.rfl
theorem dV{st:aF}{i j:Nat}{e:TypeId}:iv st (true,(i,j),e)↔∃cs own,st.boxes[i]? =some (.cells cs own)/\(j,e)∈own:=Iff.rfl
theorem tJ{i off n i' j':Nat}:(true,i',j')∈zc i off n↔i'=i/\off<=j'/\j'<off+n:=by
 unfold zc
 simp only[vaq,vbF,Prod.mk.injEq,vcc]
 constructor
 ·rintro⟨k,hk,rfl,rfl⟩;exact⟨rfl,by omega,by omega⟩
 ·rintro⟨rfl,h1,h2⟩;exact⟨j' - off,by omega,rfl,by omega⟩
theorem fY{d:Nat}{own:List ((Nat×Nat)×TypeId)}{x:(Nat×Nat)×TypeId}(h:x∈own)(hd:x.1.1≠d):x∈bQ d own:=by
 unfold bQ;exact va4.2 ⟨h,by simpa using hd⟩
theorem Ej{t:TypeId}{m k v:PVal}{H H':List aB}(h:gH P t m k v H=some H'):∃i es es',H[i]? =some (.map es)/\H'=H.set i (.map es'):=by
 unfold gH at h
 split at h
 ·rename_i kt e i _ _
  split at h
  ·rename_i es kd hB _
   split at h
   ·split at h
    ·cases h;exact⟨_,es,_,hB,rfl⟩
    ·cases h;exact⟨_,es,_,hB,rfl⟩
    ·cases h
   ·cases h
  ·cases h
 ·cases h
theorem gp{st:aF}{tm:List PVal}{ow:List ((Nat×Nat)×TypeId)}{i:Nat}{B:aB}{i' j':Nat}{e:TypeId}(hne:i≠i'):iv ⟨tm,st.boxes.set i B,ow⟩ (true,(i',j'),e)↔iv st (true,(i',j'),e):=by
 simp only[dV,vat hne]
theorem jy.eff{bi:Option (Nat×aB)}{rw:List Nat}{o:Oper}{id:Nat}{s s':aF}{rs:List Rs}(h:jy P GE bi rw o id s s' rs):qhu P rw o s s' rs:=by
 have slot:∀{d:Nat} {p:PVal} {L:List (Nat×TypeId)} {rs:List Rs} {τ:Vn},(false,d,0)∈rs->dZ τ∉rs->iv ⟨s.tmps.set d p,s.boxes,(L.map λx=>((d,x.1),x.2))++bQ d s.own⟩ τ->iv s τ:=by
  rintro d p L rs ⟨b,⟨t,k⟩,e⟩ hd hr hh
  cases b with
  |true=>exact hh
  | false =>
   rcases vaS.1 (cQ.1 hh)with hh|hh
   ·simp only[vaq,Prod.mk.injEq]at hh
    obtain⟨x,_,⟨rfl,_⟩,_⟩:=hh
    exact absurd hd hr
   ·exact(dS hh).1
 have slot0:∀{d:Nat} {p:PVal} {rs:List Rs} {τ:Vn},(false,d,0)∈rs->dZ τ∉rs->iv ⟨s.tmps.set d p,s.boxes,bQ d s.own⟩ τ->iv s τ:=λ{d p rs τ} hd hr hh=>slot (L:=[]) hd hr hh
 cases h with
 |call d f args tys g first cap r ro ho hd hf hcl hc=>exact⟨by rw[hd];exact⟨r,rfl⟩,λ_=>rfl,λτ hr hh=>slot (by simp) hr hh⟩
 |alloc d t zs ho hd hz=>exact⟨by rw[hd];exact⟨_,rfl⟩,λ_=>rfl,λτ hr hh=>slot0 (by simp) hr hh⟩
 |mkmap d t ho hd=>exact⟨by rw[hd];exact⟨_,rfl⟩,λ_=>rfl,λτ hr hh=>slot0 (by simp) hr hh⟩
 |ev d p hd hn hm hc h=>exact⟨by rw[hd];exact⟨_,rfl⟩,λ_=>rfl,λτ hr hh=>slot0 (by simp) hr hh⟩
 |res d p L hd h=>exact⟨by rw[hd];exact⟨_,rfl⟩,λ_=>rfl,λτ hr hh=>slot (by simp) hr hh⟩
 | app d t T e y es ns p hd ho hT he hn hp hm =>
  refine⟨by rw[hd];exact⟨_,rfl⟩,λ_=>rfl,?_⟩
  rintro⟨b,⟨t',k⟩,e'⟩ hr hh
  cases b with
  |true=>exact hh
  | false =>
   rcases vaF.1 (cQ.1 hh)with hh|hh
   ·cases hh;exact absurd (by simp[dZ]) hr
   ·exact(bK (dS hh).1).1
 | mv d t hd ho hdt =>
  refine⟨by rw[hd];exact⟨_,rfl⟩,λ_=>rfl,?_⟩
  rintro⟨b,⟨t',k⟩,e'⟩ hr hh
  cases b with
  |true=>exact hh
  | false =>
   have hh:=cQ.1 hh
   simp only[oL,vaq]at hh
   obtain⟨⟨⟨t2,k2⟩,e2⟩,hx,he⟩:=hh
   simp only[Prod.mk.injEq]at he
   obtain⟨he,rfl⟩:=he
   split at he
   ·cases he;exact absurd (by simp[dZ]) hr
   ·cases he;exact(dS hx).1
 | ld d T x i off cs own L p hd ho hx hB h hm =>
  refine⟨by rw[hd];exact⟨_,rfl⟩,λ_=>Qk hB,?_⟩
  rintro⟨b,⟨t',k⟩,e'⟩ hr hh
  cases b with
  | true =>
   by_cases hi:i=t'
   ·subst hi
    obtain⟨cs',own',h1,h2⟩:=dV.1 hh
    simp only[vai (aq hB),vaz,aB.cells.injEq]at h1
    obtain⟨rfl,rfl⟩:=h1
    exact⟨_,_,hB,(bK h2).1⟩
   ·exact(gp hi).1 hh
  | false =>
   rcases vaS.1 (cQ.1 hh)with hh|hh
   ·simp only[vb8,vaq,Prod.mk.injEq]at hh
    obtain⟨y,_,⟨rfl,_⟩,_⟩:=hh
    exact absurd (by simp[dZ]) hr
   ·exact(dS hh).1
 | st T x y i off vs cs own hd ho hx hvs hB hp =>
  refine⟨by rw[hd],λhc=>absurd (by simp[bO,ca,ho]) hc,?_⟩
  rintro⟨b,⟨t',k⟩,e'⟩ hr hh
  cases b with
  |false=>exact hh
  | true =>
   by_cases hi:i=t'
   ·subst hi
    obtain⟨cs',own',h1,h2⟩:=dV.1 hh
    simp only[vai (aq hB),vaz,aB.cells.injEq]at h1
    obtain⟨rfl,rfl⟩:=h1
    exact⟨_,_,hB,(bK h2).1⟩
   ·exact(gp hi).1 hh
 | sto T x t i off vs cs own L hd ho hx hvs hB hp hk hm hn hl =>
  refine⟨by rw[hd],λhc=>absurd (by simp[bO,ca,ho]) hc,?_⟩
  rintro⟨b,⟨t',k⟩,e'⟩ hr hh
  cases b with
  |false=>exact(bK (cQ.1 hh)).1
  | true =>
   by_cases hi:i=t'
   ·subst hi
    obtain⟨cs',own',h1,h2⟩:=dV.1 hh
    simp only[vai (aq hB),vaz,aB.cells.injEq]at h1
    obtain⟨rfl,rfl⟩:=h1
    rcases vaS.1 h2 with h2|h2
    ·simp only[vb8,vaq,Prod.mk.injEq]at h2
     obtain⟨y,hy,rfl,_⟩:=h2
     refine absurd (vax _ (tJ.2 ⟨rfl,?_,?_⟩)) hr
     ·simp
     ·have:=hl y hy;simp;omega
    ·exact⟨_,_,hB,(bK h2).1⟩
   ·exact(gp hi).1 hh
 | mu t m k x H hd ho hp =>
  refine⟨by rw[hd],λhc=>absurd (by simp[bO,ca,ho]) hc,?_⟩
  obtain⟨i,es,es',hB,rfl⟩:=Ej hp
  rintro⟨b,⟨t',k⟩,e'⟩ hr hh
  cases b with
  |false=>exact hh
  | true =>
   by_cases hi:i=t'
   ·subst hi
    obtain⟨cs',own',h1,h2⟩:=dV.1 hh
    simp only[vai (aq hB),vaz]at h1
    cases h1
   ·exact(gp hi).1 hh
 | callR d f args tys r ro oa ho hd hg =>
  refine⟨by rw[hd];exact⟨r,rfl⟩,λ_=>rfl,?_⟩
  rintro⟨b,⟨t',k⟩,e'⟩ hr hh
  cases b with
  |true=>exact hh
  | false =>
   rcases vaS.1 (cQ.1 hh)with hh|hh
   ·simp only[vaq,Prod.mk.injEq]at hh
    obtain⟨x,_,⟨rfl,_⟩,_⟩:=hh
    exact absurd (by simp[dZ]) hr
   ·exact(bK (dS hh).1).1
 | stR T x y i off cs cs' hd ho hx hB hp hi =>
  refine⟨by rw[hd],λhc=>absurd (by simp[bO,ca,ho]) hc,?_⟩
  rintro⟨b,⟨t',k⟩,e'⟩ hr hh
  cases b with
  |false=>exact hh
  | true =>
   by_cases hi':i=t'
   ·subst hi'
    obtain⟨cs1,own1,k1,k2⟩:=dV.1 hh
    simp only[vai (aq hB),vaz,aB.cells.injEq]at k1
    obtain⟨rfl,rfl⟩:=k1
    cases k2
   ·exact(gp hi').1 hh
theorem SX{H H2:List aB}(h:H2.map aP=H.map aP){i:Nat}{es:List (PVal×PVal)}(hi:H[i]? =some (.map es)):H2[i]? =some (.map es):=by
 have:=Rf h i
 rw[hi]at this
 cases hB:H2[i]? with
 |none=>rw[hB]at this;cases this
 |some B=>
  rw[hB]at this
  cases B<;>simp[aP]at this
  subst this
  rfl
theorem Cl{H H2:List aB}(h:H2.map aP=H.map aP){i:Nat}{B B2:aB}(hB:aP B2=aP B):(H2.set i B2).map aP=(H.set i B).map aP:=by
 rw[List.map_set,List.map_set,h,hB]
theorem Pk{t:TypeId}{m k v:PVal}{H H' H2:List aB}(hs:H2.map aP=H.map aP)(h:gH P t m k v H=some H'):∃i es',m=.mapr i/\H'=H.set i (.map es')/\gH P t m k v H2=some (H2.set i (.map es')):=by
 unfold gH at h ⊢
 split at h
 ·split at h
  ·rename_i es kd hB hk
   split at h
   ·rename_i hkk
    split at h
    ·rename_i hf;cases h;refine⟨_,_,rfl,rfl,?_⟩;simp only[SX hs hB,hk,vad hkk,hf]
    ·rename_i hf;cases h;refine⟨_,_,rfl,rfl,?_⟩;simp only[SX hs hB,hk,vad hkk,hf]
    ·cases h
   ·cases h
  ·cases h
 ·cases h
structure Yx(P:Program)(bs:bG)(rw:List Nat)(o:Oper)(st st' s s':aF)(rs:List Rs):Prop where
 tm:match o.dst with
  |some d=>∃p,st'.tmps=st.tmps.set d p/\s'.tmps=s.tmps.set d p
  |none=>st'.tmps=st.tmps/\s'.tmps=s.tmps
 b1:bO P rw o≠3->st'.boxes.map aP=st.boxes.map aP
 b2:bO P rw o=3->st'.boxes.map aP=s'.boxes.map aP
 keep:∀τ,dZ τ∉rs->(τ.1=true->2 * τ.2.1.1∉rw)->iv st τ->iv st' τ
 got:∀τ,dZ τ∈rs->iv s' τ->iv st' τ
 un:∀i:Nat,bs[i]? =some none->st'.boxes[i]? =st.boxes[i]?
theorem Nj{st:aF}{tm:List PVal}{d:Nat}{L:List (Nat×TypeId)}{rs:List Rs}{R:Vn->Prop}(hd:(false,d,0)∈rs)(τ:Vn)(hr:dZ τ∉rs)(_:R τ)(h:iv st τ):iv ⟨tm,st.boxes,(L.map λx=>((d,x.1),x.2))++bQ d st.own⟩ τ:=by
 obtain⟨b,⟨t,k⟩,e⟩:=τ
 cases b with
 |true=>exact h
 |false=>exact vaN _ (fY (cQ.1 h) λhx=>by simp only at hx;subst hx;exact hr hd)
theorem UH{st s:aF}{tm tm':List PVal}{d:Nat}{L:List (Nat×TypeId)}(τ:Vn)(hr:dZ τ∈[(false,d,0)])(h:iv ⟨tm',s.boxes,(L.map λx=>((d,x.1),x.2))++bQ d s.own⟩ τ):iv ⟨tm,st.boxes,(L.map λx=>((d,x.1),x.2))++bQ d st.own⟩ τ:=by
 obtain⟨b,⟨t,k⟩,e⟩:=τ
 cases b with
 |true=>simp[dZ]at hr
 | false =>
  rcases vaS.1 (cQ.1 h)with h|h
  ·exact vaV _ h
  ·have:=(dS h).2
   simp[dZ]at hr
   exact absurd hr this
section
variable{E:tS}{Γ:bp}{bs:bG}{ow:Nat->Option mh}{w:World}{a:Act}{st:aF}
theorem I3{T:TypeId}{i off:Nat}{y:PVal}{vs cs:List PVal}{own:List (Nat×TypeId)}{H H':List aB}(hvs:bZ y=some vs)(hB:H[i]? =some (.cells cs own))(hp:eK P T (.bptr i off) y H=some H'){H2:List aB}{own2:List (Nat×TypeId)}(hB2:H2[i]? =some (.cells cs own2)):eK P T (.bptr i off) y H2=some (H2.set i (.cells (cs.take off++vs++cs.drop (off+vs.length)) (own2.filter λy=>y.1<off||off+vs.length<=y.1))):=by
 simp only[eK,hvs,hB]at hp
 simp only[eK,hvs,hB2]
 split at hp
 ·rename_i hc;rw[vad hc]
 ·cases hp
theorem U3{T:TypeId}{i off:Nat}{y:PVal}{cs cs':List PVal}{own2:List (Nat×TypeId)}{H:List aB}(hp:eK P T (.bptr 0 off) y [.cells cs []]=some [.cells cs' []])(hB:H[i]? =some (.cells cs own2)):∃own',eK P T (.bptr i off) y H=some (H.set i (.cells cs' own')):=by
 unfold eK at hp ⊢
 split at hp
 ·rename_i i' off' vs h1 h2
  cases h1
  simp only[List.getElem?_cons_zero]at hp
  simp only[h2,hB]
  split at hp
  ·rename_i hc
   rw[vad hc]
   simp only[List.set_cons_zero,vaz,vbH,aB.cells.injEq,vcb]at hp
   obtain⟨rfl,_⟩:=hp
   exact⟨_,rfl⟩
  ·cases hp
 ·cases hp
theorem jy.sound(h:SR P E Γ bs ow w a.tmps st){bi:Option (Nat×aB)}{rw:List Nat}{o:Oper}{id:Nat}{s s':aF}{rs:List Rs}(hs:jy P E.GE bi rw o id s s' rs)(hid:aE o.op=true->bs[id]? =some none/\st.boxes[id]? =mY P o)(hbi:∀i B,bi=some (i,B)->bs[i]? =some none/\st.boxes[i]? =some B)
    (hopv:∀x∈o.op.operands.toList,opv E.GE s.tmps x=opv E.GE st.tmps x) (hbx:2<=bO P rw o->st.boxes.map aP=s.boxes.map aP) (htok:∀τ,dZ τ∈rs->iv s τ->iv st τ) (hdd:∀d,o.dst=some d->d<st.tmps.length)
    (Q:Exit->Act->World->Prop):
    o.wp P a w (λa' w'=>a'.defers=a.defers/\∃Γ' bs' ow' st',SR P E Γ' bs' ow' w' a'.tmps st'/\Yx P bs rw o st st' s s' rs/\(bs'=bs\/(aE o.op=true/\∃b,bs'=bs.set id (some b))\/∃i B x,bi=some (i,B)/\bs'=bs.set i x)) Q:=by
  have fin:∀{st'},Yx P bs rw o st st' s s' rs->o.wp P a w (f8 P E bs id (aE o.op) a.defers (·=st')) Q->o.wp P a w (λa' w'=>a'.defers=a.defers/\∃Γ' bs' ow' st',SR P E Γ' bs' ow' w' a'.tmps st'/\Yx P bs rw o st st' s s' rs/\(bs'=bs\/(aE o.op=true/\∃b,bs'=bs.set id (some b))\/∃i B x,bi=some (i,B)/\bs'=bs.set i x)) Q:=by
    intro st' hD hw
    refine Oper.wp_mono (λa' w' hA=>?_) hw
    obtain⟨h1,Γ',bs',ow',st2,h2,rfl,h3⟩:=hA
    exact⟨h1,Γ',bs',ow',_,h2,hD,h3.imp_right .inl⟩
  have hid':aE o.op=true->bs[id]? =some none:=λhm=>(hid hm).1
  have live:∀{x:Operand} {i off:Nat},opv E.GE st.tmps x=.bptr i off->∃b,bs[i]? =some (some b):=by
    intro x i off hx
    have hv:=h.opv a.defers x
    rw[hx]at hv
    generalize (Act.mk a.tmps a.defers).eval x=vx at hv
    cases hv with
    |bptr _ _ b hb=>exact⟨b,hb⟩
  cases hs with
  | call d f args tys g first cap r ro ho hd hf hcl hc =>
    have hop:∀x,x=f\/x∈args.toList->opv E.GE s.tmps x=opv E.GE st.tmps x:=λx hx=>hopv x (by rw[ho];simp[Op.operands,Call.operands];simpa using hx)
    have hargs:args.toList.map (opv E.GE s.tmps)=args.toList.map (opv E.GE st.tmps):=vbm λx hx=>hop x (.inr hx)
    rw[hargs]at hcl hc
    rw[hop f (.inl rfl)]at hf
    refine fin (st':=⟨st.tmps.set d r,st.boxes,(ro.map λx=>((d,x.1),x.2))++bQ d st.own⟩) ⟨by rw[hd];exact⟨r,rfl,rfl⟩,λ_=>rfl,λhc=>hbx (by rw[hc];decide),Nj (by simp),UH,λ_ _=>rfl⟩ ?_
    refine f8.of h hid' (by simp[mU,ho,hd,hdd d hd]) ?_ Q
    unfold Ph
    rw[ho]
    simp only[G1,hf]
    refine .inl ⟨hcl,r,ro,hc,?_⟩
    rw[hd];rfl
  | alloc d t zs ho hd hz =>
    have hpre:=(hid (by rw[ho];rfl)).2
    simp only[mY,ho,hz]at hpre
    refine fin (st':=⟨st.tmps.set d (.bptr id 0),st.boxes,bQ d st.own⟩) ⟨by rw[hd];exact⟨_,rfl,rfl⟩,λ_=>rfl,λhc=>by simp[bO,ca,ho]at hc,Nj (L:=[]) (by simp),UH (L:=[]),λ_ _=>rfl⟩ ?_
    refine f8.of h hid' (by simp[mU,ho]) ?_ Q
    unfold Ph
    rw[ho]
    simp only[sB,hz,vaj,Jb hpre]
    rw[hd];rfl
  | mkmap d t ho hd =>
    have hpre:=(hid (by rw[ho];rfl)).2
    simp only[mY,ho]at hpre
    refine fin (st':=⟨st.tmps.set d (.mapr id),st.boxes,bQ d st.own⟩) ⟨by rw[hd];exact⟨_,rfl,rfl⟩,λ_=>rfl,λhc=>by simp[bO,ca,ho]at hc,Nj (L:=[]) (by simp),UH (L:=[]),λ_ _=>rfl⟩ ?_
    refine f8.of h hid' (by simp[mU,ho]) ?_ Q
    unfold Ph
    rw[ho]
    simp only[sB,Jb hpre]
    rw[hd];rfl
  | ev d p hd hn hm hc hp =>
    have hnc:∀f args tys,o.op≠.call {callee:=.value f,args,argTypes:=tys}:=λf args tys e=>by rw[e]at hn;cases hn
    rw[HZ hnc]at hbx
    have hp2:=qeh (H2:=st.boxes) hc hm hp λh2=>hbx h2
    rw[qac hopv]at hp2
    refine fin (st':=⟨st.tmps.set d p,st.boxes,bQ d st.own⟩) ⟨by rw[hd];exact⟨_,rfl,rfl⟩,λ_=>rfl,λhc'=>by rw[HZ hnc]at hc';exact absurd hc' hc,Nj (L:=[]) (by simp),UH (L:=[]),λ_ _=>rfl⟩ ?_
    refine f8.of h hid' ?_ ?_ Q
    · unfold mU
      split
      ·rename_i f args tys ho;exact absurd ho (hnc _ _ _)
      ·rfl
    · unfold Ph
      split
      ·rename_i f args tys ho;exact absurd ho (hnc _ _ _)
      · rw [hp2]
        show zU st o.dst p [] st.boxes=_
        rw[hd];rfl
  | res d p L hd hh =>
    have hcl:bO P rw o≠3:=by
      rcases hh with⟨T,len,parts,e,ho,_⟩|⟨T,parts,ho,_⟩|⟨v,e,ho|ho,_⟩<;>simp[bO,ca,ho]
    refine fin (st':=⟨st.tmps.set d p,st.boxes,(L.map λx=>((d,x.1),x.2))++bQ d st.own⟩) ⟨by rw[hd];exact⟨_,rfl,rfl⟩,λ_=>rfl,λhc=>absurd hc hcl,Nj (by simp),UH,λ_ _=>rfl⟩ ?_
    rcases hh with⟨T,len,parts,e,ho,h1,h2,rfl⟩|⟨T,parts,ho,h1,h2⟩|⟨v,e,ho,h1,rfl,rfl⟩
    · have hpt:(parts.toList.map fun x => (x.1,opv E.GE s.tmps x.2)) = parts.toList.map fun x => (x.1,opv E.GE st.tmps x.2):=vbm fun x hx => by rw [hopv x.2 (by rw [ho]; simp only [Op.operands]; exact vaq.2 ⟨x,hx,rfl⟩)]
      rw[hpt]at h1
      exact Ag (K:=(·=_)) h ho hd (hdd d hd) h2 h1 rfl Q
    · have hpt:(parts.toList.map fun x => (x.1,opv E.GE s.tmps x.2)) = parts.toList.map fun x => (x.1,opv E.GE st.tmps x.2):=vbm fun x hx => by rw [hopv x.2 (by rw [ho]; simp only [Op.operands]; exact vaq.2 ⟨x,hx,rfl⟩)]
      rw[hpt]at h1 h2
      exact DR (K:=(·=_)) h ho hd (hdd d hd) h1 h2 rfl Q
    ·exact Kb (K:=(·=_)) h ho hd (hdd d hd) h1 rfl Q
  | app d t T e y es ns p hd ho hT he hn hp hm =>
    have hop:∀x,x=.tmp t\/x=y->opv E.GE s.tmps x=opv E.GE st.tmps x:=λx hx=>hopv x (by rw[ho];simp[Op.operands,Call.operands];rcases hx with rfl|rfl<;>simp)
    have he':st.tmps.getD t .undef=.slice es:=(hop (.tmp t) (.inl rfl)).symm.trans he
    rw[hop y (.inr rfl)]at hn
    have hm':((t,0),e)∈st.own:=htok (false,(t,0),e) (by simp[dZ]) hm
    refine fin (st':=⟨st.tmps.set d p,st.boxes,((d,0),e)::bQ d (st.own.filter λx=>x.1 !=(t,0))⟩) ⟨by rw[hd];exact⟨_,rfl,rfl⟩,λ_=>rfl,λhc=>by simp[bO,ca,ho]at hc,?_,?_,λ_ _=>rfl⟩ (HV (K:=(·=_)) h ho hd (hdd d hd) hT he' hn hp hm' rfl Q)
    · rintro ⟨b,⟨t',k⟩,e'⟩ hr _ hh
      cases b with
      |true=>exact hh
      | false =>
        simp[dZ]at hr
        refine vax _ (fY (va4.2 ⟨cQ.1 hh,?_⟩) hr.1)
        simp only[bne_iff_ne,ne_eq,Prod.mk.injEq,not_and]
        exact λe=>absurd e hr.2
    · rintro ⟨b,⟨t',k⟩,e'⟩ hr hh
      cases b with
      |true=>simp[dZ]at hr
      | false =>
        rcases vaF.1 (cQ.1 hh)with hh|hh
        ·rw[hh];exact List.mem_cons_self
        · obtain ⟨h1,h2⟩:=dS hh
          obtain⟨h3,h4⟩:=bK h1
          have h5:((t',k),e')∈st.own:=htok (false,(t',k),e') hr h3
          exact vax _ (fY (va4.2 ⟨h5,h4⟩) h2)
  | mv d t hd ho hdt =>
    have hg:s.tmps.getD t .undef=st.tmps.getD t .undef:=hopv (.tmp t) (by rcases ho with ho|ho<;>rw[ho]<;>simp[Op.operands])
    have hcl:bO P rw o≠3:=by rcases ho with ho|ho<;>simp[bO,ca,ho]
    refine fin (st':=⟨st.tmps.set d (st.tmps.getD t .undef),st.boxes,oL d (λx=>if x.1=t then(d,x.2)else x) st.own⟩) ⟨by rw[hd];exact⟨_,rfl,by rw[hg]⟩,λ_=>rfl,λhc=>absurd hc hcl,?_,?_,λ_ _=>rfl⟩ (GW (K:=(·=_)) h ho hd (hdd d hd) rfl Q)
    · rintro ⟨b,⟨t',k⟩,e'⟩ hr _ hh
      cases b with
      |true=>exact hh
      | false =>
        simp[dZ]at hr
        refine vaq.2 ⟨((t',k),e'),fY (cQ.1 hh) hr.1,?_⟩
        simp only
        rw[vab hr.2]
    · rintro ⟨b,⟨t',k⟩,e'⟩ hr hh
      cases b with
      |true=>simp[dZ]at hr
      | false =>
        obtain⟨⟨⟨t2,k2⟩,e2⟩,hx,he⟩:=vaq.1 (cQ.1 hh)
        simp only[Prod.mk.injEq]at he
        obtain⟨he,rfl⟩:=he
        obtain⟨h1,h2⟩:=dS hx
        by_cases ht:t2=t
        · subst ht
          rw[vad rfl]at he
          cases he
          have h5:((t2,k),e2)∈st.own:=htok (false,(t2,k),e2) (by simp[dZ]) h1
          exact vaq.2 ⟨((t2,k),e2),fY h5 h2,by simp⟩
        · rw [vab ht] at he
          cases he
          simp[dZ]at hr
          rcases hr with hr|hr
          ·exact absurd hr h2
          ·exact absurd hr ht
  | ld d T x i off cs own L p hd ho hx hB hh hm =>
    have hx':opv E.GE st.tmps x=.bptr i off:=(hopv x (by rw[ho];simp[Op.operands])).symm.trans hx
    obtain⟨bb,hbb⟩:=live hx'
    obtain⟨own2,hB2⟩:=BD (hbx (by simp[bO,ca,ho])) hB
    have hm2:∀y∈L,(off+y.1,y.2)∈own2:=λy hy=>by
      obtain⟨cs',own',e1,e2⟩:=dV.1 (htok (true,(i,off+y.1),y.2) (vax _ (vaq.2 ⟨y,hy,rfl⟩)) ⟨cs,own,hB,hm y hy⟩)
      rw[hB2]at e1;cases e1;exact e2
    refine fin (st':=⟨st.tmps.set d p,st.boxes.set i (.cells cs (own2.filter λx=>!L.any λy=>x.1==off+y.1)),(L.map λy=>((d,y.1),y.2)).reverse++bQ d st.own⟩)
      ⟨by rw[hd];exact⟨_,rfl,rfl⟩,λ_=>Qk hB2,λhc=>by simp[bO,ca,ho]at hc,?_,?_,λk hk=>by rw[vat (λe=>by subst e;rw[hbb]at hk;cases hk)]⟩ ?_
    · rintro ⟨b,⟨t',k⟩,e'⟩ hr _ hh
      cases b with
      |false=>exact vaN _ (fY (cQ.1 hh) λhx=>hr (by simp only at hx;subst hx;simp[dZ]))
      | true =>
        by_cases hi:i=t'
        · subst hi
          obtain⟨cs',own',e1,e2⟩:=dV.1 hh
          rw[hB2]at e1;cases e1
          refine⟨_,_,vai (aq hB2),va4.2 ⟨e2,?_⟩⟩
          simp only[vaZ,vbi,va9]
          intro y hy e
          exact hr (vax _ (vaq.2 ⟨y,hy,by simp[dZ,e]⟩))
        ·exact(gp hi).2 hh
    · rintro ⟨b,⟨t',k⟩,e'⟩ hr hh
      cases b with
      | false =>
        rcases vaS.1 (cQ.1 hh)with hh|hh
        ·exact vaV _ hh
        · have h2:=(dS hh).2
          simp[dZ]at hr
          exact absurd hr h2
      | true =>
        exfalso
        have hr2:(true,t',k)∈L.map λy=>(true,i,off+y.1):=by simpa[dZ]using hr
        obtain⟨y,hy,e⟩:=vaq.1 hr2
        simp only[Prod.mk.injEq,vcc]at e
        obtain⟨rfl,rfl⟩:=e
        obtain⟨cs',own',e1,e2⟩:=dV.1 hh
        simp only[vai (aq hB),vaz,aB.cells.injEq]at e1
        obtain⟨rfl,rfl⟩:=e1
        have:=(bK e2).2
        simp only[vaZ,vbi,va9]at this
        exact this y hy rfl
    · rcases hh with ⟨e,hT,hp,rfl⟩ | ⟨fs,l,hT,hp,rfl,hn,hl⟩
      · refine Gl (K:=(· = _)) h ho hd (hdd d hd) hT hx' hB2 hp (hm2 _ (vcw _)) ?_ Q
        simp only[vae,vaK,vc3,List.reverse_nil,vaJ,List.singleton_append,aF.mk.injEq,vcc,vcb]
        congr 3
        funext z
        simp[bne]
      · refine G6 h (K:=(· = _)) ?_ Q
        unfold NZ
        simp only[ho,hd]
        exact⟨i,off,cs,own2,L,l,⟨fs,hT⟩,hx',hB2,hp,hm2,hn,hl,hdd d hd,rfl⟩
  | st T x y i off vs cs own hd ho hx hvs hB hp =>
    have hx':opv E.GE st.tmps x=.bptr i off:=(hopv x (by rw[ho];simp[Op.operands])).symm.trans hx
    have hy':opv E.GE s.tmps y=opv E.GE st.tmps y:=hopv y (by rw[ho];simp[Op.operands])
    rw[hy']at hvs hp
    obtain⟨bb,hbb⟩:=live hx'
    have hst:=hbx (by simp[bO,ca,ho])
    obtain⟨own2,hB2⟩:=BD hst hB
    have hp2:=I3 hvs hB hp hB2
    refine fin (st':=⟨st.tmps,st.boxes.set i (.cells (cs.take off++vs++cs.drop (off+vs.length)) (own2.filter λy=>y.1<off||off+vs.length<=y.1)),st.own⟩)
      ⟨by rw[hd];exact⟨rfl,rfl⟩,λhc=>absurd (by simp[bO,ca,ho]) hc,λ_=>Cl hst rfl,?_,?_,λk hk=>by rw[vat (λe=>by subst e;rw[hbb]at hk;cases hk)]⟩ ?_
    · rintro ⟨b,⟨t',k⟩,e'⟩ hr _ hh
      cases b with
      |false=>exact hh
      | true =>
        by_cases hi:i=t'
        · subst hi
          obtain⟨cs',own',e1,e2⟩:=dV.1 hh
          rw[hB2]at e1;cases e1
          refine⟨_,_,vai (aq hB2),va4.2 ⟨e2,?_⟩⟩
          simp only[vaY,var]
          by_cases h1:k<off
          ·exact .inl h1
          ·exact .inr (vbL λh2=>hr (tJ.2 ⟨rfl,by simp only;omega,by simp only;omega⟩))
        ·exact(gp hi).2 hh
    · rintro ⟨b,⟨t',k⟩,e'⟩ hr hh
      cases b with
      |false=>simp[dZ,zc]at hr
      | true =>
        exfalso
        obtain⟨rfl,h1,h2⟩:=tJ.1 hr
        obtain⟨cs',own',e1,e2⟩:=dV.1 hh
        simp only[vai (aq hB),vaz,aB.cells.injEq]at e1
        obtain⟨rfl,rfl⟩:=e1
        have:=(bK e2).2
        simp only[vaY,var]at this
        simp only at h1 h2
        omega
    · refine f8.of h hid' (by simp [mU,ho]) ?_ Q
      unfold Ph
      rw[ho]
      simp only[sB,hx',hp2,vaj]
      rw[hd];rfl
  | sto T x t i off vs cs own L hd ho hx hvs hB hp hk hm hn hl =>
    have hx':opv E.GE st.tmps x=.bptr i off:=(hopv x (by rw[ho];simp[Op.operands])).symm.trans hx
    have hy':s.tmps.getD t .undef=st.tmps.getD t .undef:=hopv (.tmp t) (by rw[ho];simp[Op.operands])
    rw[hy']at hvs hp hk
    obtain⟨bb,hbb⟩:=live hx'
    have hst:=hbx (by simp[bO,ca,ho])
    obtain⟨own2,hB2⟩:=BD hst hB
    have hp2:=I3 hvs hB hp hB2
    have hm2:∀y∈L,((t,y.1),y.2)∈st.own:=λy hy=>htok (false,(t,y.1),y.2) (by simp[dZ]) (hm y hy)
    have hset:=vai (a:=aB.cells (cs.take off++vs++cs.drop (off+vs.length)) (own2.filter λy=>y.1<off||off+vs.length<=y.1)) (aq hB2)
    refine fin (st':=⟨st.tmps,st.boxes.set i (.cells (cs.take off++vs++cs.drop (off+vs.length)) ((L.map λy=>(off+y.1,y.2)).reverse++own2.filter λy=>y.1<off||off+vs.length<=y.1)),st.own.filter λx=>!L.any λy=>x.1==(t,y.1)⟩)
      ⟨by rw[hd];exact⟨rfl,rfl⟩,λhc=>absurd (by simp[bO,ca,ho]) hc,λ_=>Cl hst rfl,?_,?_,λk hk=>by rw[vat (λe=>by subst e;rw[hbb]at hk;cases hk)]⟩ ?_
    · rintro ⟨b,⟨t',k⟩,e'⟩ hr _ hh
      cases b with
      | false =>
        refine va4.2 ⟨cQ.1 hh,?_⟩
        simp only[vaZ,vbi,va9,Prod.mk.injEq,not_and]
        intro y hy e
        exact absurd (by simp[dZ,e]) hr
      | true =>
        by_cases hi:i=t'
        · subst hi
          obtain⟨cs',own',e1,e2⟩:=dV.1 hh
          rw[hB2]at e1;cases e1
          refine⟨_,_,vai (aq hB2),vaN _ (va4.2 ⟨e2,?_⟩)⟩
          simp only[vaY,var]
          by_cases h1:k<off
          ·exact .inl h1
          ·exact .inr (vbL λh2=>hr (vax _ (tJ.2 ⟨rfl,by simp only;omega,by simp only;omega⟩)))
        ·exact(gp hi).2 hh
    · rintro ⟨b,⟨t',k⟩,e'⟩ hr hh
      cases b with
      | false =>
        obtain⟨h1,h2⟩:=bK (cQ.1 hh)
        exact va4.2 ⟨htok (false,(t',k),e') hr h1,h2⟩
      | true =>
        have hr2:(true,t',k)∈zc i off vs.length:=by simpa[dZ]using hr
        obtain⟨rfl,h1,h2⟩:=tJ.1 hr2
        obtain⟨cs',own',e1,e2⟩:=dV.1 hh
        simp only[vai (aq hB),vaz,aB.cells.injEq]at e1
        obtain⟨rfl,rfl⟩:=e1
        rcases vaS.1 e2 with e2|e2
        ·exact⟨_,_,vai (aq hB2),vaV _ e2⟩
        · exfalso
          have:=(bK e2).2
          simp only[vaY,var]at this
          omega
    · rcases hk with ⟨l,hl⟩ | ⟨hone,e,rfl⟩
      · refine G6 h (K:=(· = _)) ?_ Q
        unfold NZ
        simp only[ho,hd]
        refine⟨i,off,_,_,_,L,l,hx',hl,by rw[<-hl];exact hp2,hset,hm2,hn,?_⟩
        rw[vbT]
      · refine EA (K:=(· = _)) h ho hx' (by rw [hx']; exact hp2) hset hone (hm2 _ (vcw _)) ?_ Q
        rw[hd,vbT]
        simp only[zU,vae,vaK,vc3,List.reverse_nil,vaJ,List.singleton_append,aF.mk.injEq,vcc,Nat.add_zero]
        congr 1
        funext z
        simp[bne]
  | mu t m k x H hd ho hp =>
    have hst:=hbx (by simp[bO,ca,ho])
    have o1:opv E.GE s.tmps m=opv E.GE st.tmps m:=hopv m (by rw[ho];simp[Op.operands])
    have o2:opv E.GE s.tmps k=opv E.GE st.tmps k:=hopv k (by rw[ho];simp[Op.operands])
    have o3:opv E.GE s.tmps x=opv E.GE st.tmps x:=hopv x (by rw[ho];simp[Op.operands])
    rw[o1,o2,o3]at hp
    obtain⟨i,es',hmi,rfl,hp2⟩:=Pk hst hp
    have hlive:∃b,bs[i]? =some (some b):=by
      have hv:=h.opv a.defers m
      rw[hmi]at hv
      generalize (Act.mk a.tmps a.defers).eval m=vx at hv
      cases hv with
      |mapr _ b hb=>exact⟨b,hb⟩
    obtain⟨bb,hbb⟩:=hlive
    obtain⟨i2,es,es2,hB,he2⟩:=Ej hp2
    refine fin (st':=⟨st.tmps,st.boxes.set i (.map es'),st.own⟩) ⟨by rw[hd];exact⟨rfl,rfl⟩,λhc=>absurd (by simp[bO,ca,ho]) hc,λ_=>Cl hst rfl,?_,?_,λk hk=>by rw[vat (λe=>by subst e;rw[hbb]at hk;cases hk)]⟩ ?_
    · rintro ⟨b,⟨t',k'⟩,e'⟩ hr _ hh
      cases b with
      |false=>exact hh
      | true =>
        obtain⟨cs',own',e1,e2⟩:=dV.1 hh
        have hne:i2≠t':=λe=>by subst e;rw[hB]at e1;cases e1
        rw[he2]
        exact(gp hne).2 hh
    · intro τ hr
      simp at hr
    · refine f8.of h hid' (by simp [mU,ho]) ?_ Q
      unfold Ph
      rw[ho]
      simp only[sB,hp2,vaj]
      rw[hd];rfl
  | callR d f args tys r ro oa ho hd hg =>
    have hop:∀x,x=f\/x∈args.toList->opv E.GE s.tmps x=opv E.GE st.tmps x:=λx hx=>hopv x (by rw[ho];simp[Op.operands,Call.operands];simpa using hx)
    have hown:∀x∈oa,((x.t,x.k),x.e)∈s.own->((x.t,x.k),x.e)∈st.own:=λx hx hm=>htok (false,(x.t,x.k),x.e) (vax _ (vaq.2 ⟨x,hx,rfl⟩)) hm
    refine fin (st':=⟨st.tmps.set d r,st.boxes,(ro.map λx=>((d,x.1),x.2))++bQ d (st.own.filter λz=>!oa.any λx=>z.1==(x.t,x.k))⟩) ⟨by rw[hd];exact⟨_,rfl,rfl⟩,λ_=>rfl,λhc=>hbx (by rw[hc];decide),?_,?_,λ_ _=>rfl⟩ (yR (K:=(·=_)) h ho hd (hdd d hd) (hg st hop hown) rfl Q)
    · rintro ⟨b,⟨t',k⟩,e'⟩ hr _ hh
      cases b with
      |true=>exact hh
      | false =>
        simp only[dZ,vaF,Prod.mk.injEq,vcc,vcb,vaq,vc7,not_exists,not_and]at hr
        refine vaN _ (fY (va4.2 ⟨cQ.1 hh,?_⟩) hr.1)
        simp only[vaZ,vbi,va9,Prod.mk.injEq,not_and]
        exact λx hx e=>absurd e.symm (hr.2 x hx)
    · rintro ⟨b,⟨t',k⟩,e'⟩ hr hh
      cases b with
      |true=>simp[dZ]at hr
      | false =>
        rcases vaS.1 (cQ.1 hh)with hh|hh
        ·exact vaV _ hh
        · obtain ⟨h1,h2⟩:=dS hh
          obtain⟨h3,h4⟩:=bK h1
          have h5:((t',k),e')∈st.own:=htok (false,(t',k),e') hr h3
          exact vaN _ (fY (va4.2 ⟨h5,h4⟩) h2)
  | stR T x y i off cs cs' hd ho hx hB hp hi =>
    have hx':opv E.GE st.tmps x=.bptr i off:=(hopv x (by rw[ho];simp[Op.operands])).symm.trans hx
    have hy':opv E.GE s.tmps y=opv E.GE st.tmps y:=hopv y (by rw[ho];simp[Op.operands])
    rw[hy']at hp
    obtain⟨bb,hbb⟩:=live hx'
    have hst:=hbx (by simp[bO,ca,ho])
    obtain⟨own2,hB2⟩:=BD hst hB
    obtain⟨own',hp2⟩:=U3 hp hB2
    refine fin (st':=⟨st.tmps,st.boxes.set i (.cells cs' own'),st.own⟩)
      ⟨by rw[hd];exact⟨rfl,rfl⟩,λhc=>absurd (by simp[bO,ca,ho]) hc,λ_=>Cl hst rfl,?_,λτ hr=>by simp at hr,λk hk=>by rw[vat (λe=>by subst e;rw[hbb]at hk;cases hk)]⟩ ?_
    · rintro ⟨b,⟨t',k⟩,e'⟩ hr hn hh
      cases b with
      |false=>exact hh
      |true=>exact(gp (λe=>hn rfl (by subst e;exact hi))).2 hh
    · refine f8.of h hid' (by simp [mU,ho]) ?_ Q
      unfold Ph
      rw[ho]
      simp only[sB,hx',hp2,vaj]
      rw[hd];rfl
end
end
def Yf(τ:Vn)(rs:List Rs):Prop:=dZ τ∈rs\/(τ.1=true/\(false,τ.2.1.1,1)∈rs)
def Nh(rw:List Nat)(o:Oper):Bool:=match o.op,o.dst with
 |.load _ _,some d=>rw.contains (8 * d+5)
 |_,_=>false
def O3(rw:List Nat)(o:Oper):Bool:=match o.op,o.dst with
 |.call {callee:=.value _,..},some d=>rw.contains (8 * d+7)
 |_,_=>false
def nr(P:Program)(rw:List Nat)(o:Oper):Nat:=if Nh rw o=true then 0 else if O3 rw o=true then 2 else bO P rw o
inductive nl(P:Program)(GE:List (Nat×List PVal))(bi:Option (Nat×aB))(rw:List Nat)(o:Oper)(id:Nat)(s:aF):aF->List Rs->Prop where
 |old {s':aF} {rs:List Rs} (h:jy P GE bi rw o id s s' rs) (hu:Nh rw o=false) (hh:O3 rw o=false):nl P GE bi rw o id s s' rs
 |ldE (d:Nat) (T:TypeId) (x:Operand) (cs:List PVal) (p:PVal) (ho:o.op=.load T x) (hd:o.dst=some d) (hi:rw.contains (8 * d+5)=true) (hx:opv GE s.tmps x=.eptr cs) (hp:bo P T cs=some p):nl P GE bi rw o id s ⟨s.tmps.set d p,s.boxes,bQ d s.own⟩ [(false,d,0)]
 | callG (d:Nat) (f:Operand) (args:Array Operand) (tys:Array TypeId) (r:PVal) (ro:List (Nat×TypeId)) (oa:List OA) (ρ:List Nat) (F:List aB→List aB) (ho:o.op = .call { callee := .value f,args,argTypes:=tys }) (hd:o.dst = some d) (hi:rw.contains (8 * d + 1) = true) (hh:rw.contains (8 * d + 7) = false)
   (F1:∀(H:List aB) (i:Nat),i∉ρ->(F H)[i]? =H[i]?) (F3:∀(H H2:List aB) (i:Nat),H2.map aP=H.map aP->i∈ρ->(F H2)[i]? =(F H)[i]?)
   (hg:∀st:aF,(∀x,x=f\/x∈args.toList->opv GE s.tmps x=opv GE st.tmps x)->(∀x∈oa,((x.t,x.k),x.e)∈s.own->((x.t,x.k),x.e)∈st.own)->st.boxes.map aP=s.boxes.map aP->(∀i∈ρ,∀k e,iv s (true,(i,k),e)->iv st (true,(i,k),e))->HD P GE f args.toList st r ro (F st.boxes) oa):
   nl P GE bi rw o id s ⟨s.tmps.set d r,F s.boxes,(ro.map λx=>((d,x.1),x.2))++bQ d (s.own.filter λz=>!oa.any λx=>z.1==(x.t,x.k))⟩ (((false,d,0)::oa.map λx=>(false,x.t,0))++ρ.map λi=>(false,i,1))
 | callH (d:Nat) (f:Operand) (args:Array Operand) (tys:Array TypeId) (r:PVal) (ro:List (Nat×TypeId)) (oa:List OA) (ρ:List Nat) (F:List aB→List aB) (ho:o.op = .call { callee := .value f,args,argTypes:=tys }) (hd:o.dst = some d) (hi:rw.contains (8 * d + 7) = true)
   (F1:∀(H:List aB) (i:Nat),i∉ρ->(F H)[i]? =H[i]?) (F4:∀H:List aB,H.map aP=s.boxes.map aP->(F H).map aP=H.map aP) (F5:∀(H:List aB) (i:Nat) cs own,i∈ρ->(F H)[i]? =some (.cells cs own)->own=[]) (F6:∀i∈ρ,2 * i∈rw/\8 * i+3∈rw)
   (hg:∀st:aF,(∀x,x=f\/x∈args.toList->opv GE s.tmps x=opv GE st.tmps x)->(∀x∈oa,((x.t,x.k),x.e)∈s.own->((x.t,x.k),x.e)∈st.own)->st.boxes.map aP=s.boxes.map aP->HD P GE f args.toList st r ro (F st.boxes) oa):
   nl P GE bi rw o id s ⟨s.tmps.set d r,F s.boxes,(ro.map λx=>((d,x.1),x.2))++bQ d (s.own.filter λz=>!oa.any λx=>z.1==(x.t,x.k))⟩ ((false,d,0)::oa.map λx=>(false,x.t,0))
section
variable{P:Program}{GE:List (Nat×List PVal)}
theorem jy.nw{bi:Option (Nat×aB)}{rw:List Nat}{o:Oper}{id:Nat}{s s':aF}{rs:List Rs}(h:jy P GE bi rw o id s s' rs)(i:Nat):(false,i,1)∉rs:=by
 cases h<;>simp[zc]
theorem jy.rs_of{bi:Option (Nat×aB)}{rw:List Nat}{o:Oper}{id:Nat}{s s':aF}{rs:List Rs}(h:jy P GE bi rw o id s s' rs){τ:Vn}(ht:Yf τ rs):dZ τ∈rs:=ht.elim (λx=>x) λhx=>absurd hx.2 (h.nw _)
structure Yw(P:Program)(rw:List Nat)(o:Oper)(s s':aF)(rs:List Rs):Prop where
 tm:match o.dst with
  |some d=>∃p,s'.tmps=s.tmps.set d p
  |none=>s'.tmps=s.tmps
 bx:nr P rw o≠3->s'.boxes.map aP=s.boxes.map aP
 back:∀τ,¬Yf τ rs->iv s' τ->iv s τ
theorem JH{rw:List Nat}{o:Oper}(hu:Nh rw o=false)(hh:O3 rw o=false):nr P rw o=bO P rw o:=by unfold nr;rw[hu,hh];rfl
theorem YU{rw:List Nat}{o:Oper}{f:Operand}{args:Array Operand}{tys:Array TypeId}{d:Nat}(ho:o.op=.call {callee:=.value f,args,argTypes:=tys})(hd:o.dst=some d)(hi:rw.contains (8 * d+7)=true):nr P rw o=2:=by
 unfold nr Nh O3
 rw[ho,hd]
 simp only[hi]
 rfl
theorem s6{rw:List Nat}{o:Oper}{f:Operand}{args:Array Operand}{tys:Array TypeId}{d:Nat}(ho:o.op=.call {callee:=.value f,args,argTypes:=tys})(hd:o.dst=some d)(hi:rw.contains (8 * d+1)=true)(hh:rw.contains (8 * d+7)=false):nr P rw o=3:=by
 rw[JH (by unfold Nh;rw[ho]) (by unfold O3;rw[ho,hd];exact hh)]
 unfold bO
 rw[ho,hd]
 simp only[Option.any_some,hi,if_true]
theorem qbs{rw:List Nat}{o:Oper}{T:TypeId}{x:Operand}{d:Nat}(ho:o.op=.load T x)(hd:o.dst=some d)(hi:rw.contains (8 * d+5)=true):nr P rw o=0:=by
 unfold nr Nh
 rw[ho,hd]
 simp only[hi,if_true]
theorem nl.eff{bi:Option (Nat×aB)}{rw:List Nat}{o:Oper}{id:Nat}{s s':aF}{rs:List Rs}(h:nl P GE bi rw o id s s' rs):Yw P rw o s s' rs:=by
 cases h with
 |old h hu hh=>exact⟨h.eff.tm,by rw[JH hu hh];exact h.eff.bx,λτ ht hh=>h.eff.back τ (λhx=>ht (.inl hx)) hh⟩
 |ldE d T x cs p ho hd hi hx hp=>
  refine⟨by rw[hd];exact⟨_,rfl⟩,λ_=>rfl,?_⟩
  rintro⟨b,⟨t',k⟩,e'⟩ hr hh
  cases b with
  |true=>exact hh
  |false=>exact(dS hh).1
 | callG d f args tys r ro oa ρ F ho hd hi hh F1 F3 hg =>
  refine⟨by rw[hd];exact⟨r,rfl⟩,λhc=>absurd (s6 ho hd hi hh) hc,?_⟩
  rintro⟨b,⟨t',k⟩,e'⟩ hr hh
  cases b with
  |true=>
   have hn:t'∉ρ:=λhx=>hr (.inr ⟨rfl,vaN _ (vaq.2 ⟨t',hx,rfl⟩)⟩)
   obtain⟨cs,own,h1,h2⟩:=dV.1 hh
   simp only at h1
   rw[F1 _ _ hn]at h1
   exact⟨cs,own,h1,h2⟩
  | false =>
   rcases vaS.1 (cQ.1 hh)with hh|hh
   ·simp only[vaq,Prod.mk.injEq]at hh
    obtain⟨x,_,⟨rfl,_⟩,_⟩:=hh
    exact absurd (.inl (by simp[dZ])) hr
   ·exact(bK (dS hh).1).1
 | callH d f args tys r ro oa ρ F ho hd hi F1 F4 F5 F6 hg =>
  refine⟨by rw[hd];exact⟨r,rfl⟩,λ_=>F4 _ rfl,?_⟩
  rintro⟨b,⟨t',k⟩,e'⟩ hr hh
  cases b with
  | true =>
   obtain⟨cs,own,h1,h2⟩:=dV.1 hh
   simp only at h1
   by_cases hn:t'∈ρ
   ·rw[F5 _ _ _ _ hn h1]at h2
    cases h2
   ·rw[F1 _ _ hn]at h1
    exact⟨cs,own,h1,h2⟩
  | false =>
   rcases vaS.1 (cQ.1 hh)with hh|hh
   ·simp only[vaq,Prod.mk.injEq]at hh
    obtain⟨x,_,⟨rfl,_⟩,_⟩:=hh
    exact absurd (.inl (by simp[dZ])) hr
   ·exact(bK (dS hh).1).1
theorem nl.cls{bi:Option (Nat×aB)}{rw:List Nat}{o:Oper}{id:Nat}{s s':aF}{rs:List Rs}(h:nl P GE bi rw o id s s' rs){i k:Nat}(hr:(true,i,k)∈rs):2<=nr P rw o:=by
 cases h with
 |ldE d T x cs p ho hd hi hx hp=>simp at hr
 |callH d f args tys r ro oa ρ F ho hd hi F1 F4 F5 F6 hg=>simp at hr
 |old h hu hh=>
  rw[JH hu hh]
  cases h with
  |ld d T x i off cs own L p hd ho hx hB h hm=>simp[bO,ca,ho]
  |st T x y i off vs cs own hd ho hx hvs hB hp=>simp[bO,ca,ho]
  |sto T x t i off vs cs own L hd ho hx hvs hB hp hk hm hn hl=>simp[bO,ca,ho]
  |_=>simp at hr
 |callG d f args tys r ro oa ρ F ho hd hi hh F1 F3 hg=>rw[s6 ho hd hi hh];decide
theorem nl.whole{bi:Option (Nat×aB)}{rw:List Nat}{o:Oper}{id:Nat}{s s':aF}{rs:List Rs}(h:nl P GE bi rw o id s s' rs){i:Nat}(hr:(false,i,1)∈rs):nr P rw o=3:=by
 cases h with
 |ldE d T x cs p ho hd hi hx hp=>simp at hr
 |old h hu hh=>exact absurd hr (h.nw i)
 |callH d f args tys r ro oa ρ F ho hd hi F1 F4 F5 F6 hg=>simp at hr
 |callG d f args tys r ro oa ρ F ho hd hi hh F1 F3 hg=>exact s6 ho hd hi hh
theorem Oi{o:Oper}{rs:List Rs}(h:rs=match o.dst with
 |some d=>[(false,d,0)]
 |none=>[]) {τ:Vn} (ht:Yf τ rs):dZ τ∈rs/\τ.1=false:=by
 subst h
 cases hd:o.dst with
 |none=>rw[hd]at ht;rcases ht with hx|hx<;>simp at hx
 | some d =>
  rw[hd]at ht
  rcases ht with hx|hx
  ·refine⟨hx,?_⟩
   obtain⟨b,⟨t,k⟩,e⟩:=τ
   cases b with
   |false=>rfl
   |true=>simp[dZ]at hx
  ·simp at hx
structure Yy(P:Program)(bs:bG)(rw:List Nat)(o:Oper)(st st' s s':aF)(rs:List Rs):Prop where
 tm:match o.dst with
  |some d=>∃p,st'.tmps=st.tmps.set d p/\s'.tmps=s.tmps.set d p
  |none=>st'.tmps=st.tmps/\s'.tmps=s.tmps
 b1:nr P rw o≠3->st'.boxes.map aP=st.boxes.map aP
 b2:nr P rw o=3->st'.boxes.map aP=s'.boxes.map aP
 keep:∀τ,¬Yf τ rs->(τ.1=true->2 * τ.2.1.1∉rw)->iv st τ->iv st' τ
 got:∀τ,Yf τ rs->iv s' τ->iv st' τ
 un:∀i:Nat,bs[i]? =some none->(false,i,1)∉rs->8 * i+3∉rw->st'.boxes[i]? =st.boxes[i]?
end
section
variable{P:Program}{E:tS}{Γ:bp}{bs:bG}{ow:Nat->Option mh}{w:World}{a:Act}{st:aF}
theorem nl.sound(h:SR P E Γ bs ow w a.tmps st){bi:Option (Nat×aB)}{rw:List Nat}{o:Oper}{id:Nat}{s s':aF}{rs:List Rs}(hs:nl P E.GE bi rw o id s s' rs)(hid:aE o.op=true->bs[id]? =some none/\st.boxes[id]? =mY P o)(hbi:∀i B,bi=some (i,B)->bs[i]? =some none/\st.boxes[i]? =some B)
    (hopv:∀x∈o.op.operands.toList,opv E.GE s.tmps x=opv E.GE st.tmps x) (hbx:2<=nr P rw o->st.boxes.map aP=s.boxes.map aP) (htok:∀τ,Yf τ rs->iv s τ->iv st τ) (hdd:∀d,o.dst=some d->d<st.tmps.length)
    (Q:Exit->Act->World->Prop):
    o.wp P a w (λa' w'=>a'.defers=a.defers/\∃Γ' bs' ow' st',SR P E Γ' bs' ow' w' a'.tmps st'/\Yy P bs rw o st st' s s' rs/\(bs'=bs\/(aE o.op=true/\∃b,bs'=bs.set id (some b))\/∃i B x,bi=some (i,B)/\bs'=bs.set i x)) Q:=by
  cases hs with
  | ldE d T x cs p ho hd hi hx hp =>
    have hx':opv E.GE st.tmps x=.eptr cs:=(hopv x (by rw[ho];simp[Op.operands])).symm.trans hx
    have hw:o.wp P a w (f8 P E bs id (aE o.op) a.defers (·=⟨st.tmps.set d p,st.boxes,bQ d st.own⟩)) Q:=by
      refine f8.of h (λhm=>by rw[ho]at hm;cases hm) (by simp[mU,ho]) ?_ Q
      unfold Ph
      rw[ho]
      simp only[sB,hx',lT,hp,vaj]
      rw[hd];rfl
    refine Oper.wp_mono (λa' w' hA=>?_) hw
    obtain⟨h1,Γ',bs',ow',st2,h2,rfl,h3⟩:=hA
    exact⟨h1,Γ',bs',ow',_,h2,⟨by rw[hd];exact⟨_,rfl,rfl⟩,λ_=>rfl,λhc=>absurd ((qbs (P:=P) ho hd hi).symm.trans hc) (by decide),λτ hr _ hh=>Nj (st:=st) (tm:=st.tmps.set d p) (R:=λ_=>True) (rs:=[(false,d,0)]) (d:=d) (L:=[]) (by simp) τ (λhx=>hr (.inl hx)) trivial hh,
      λτ hr hh=>UH (L:=[]) (tm:=st.tmps.set d p) τ (hr.elim (λx=>x) λhx=>by simp at hx) hh,λ_ _ _ _=>rfl⟩,h3.imp_right .inl⟩
  | old hs hu hh =>
    rw[JH hu hh]at hbx
    refine Oper.wp_mono (λa' w' hA=>?_) (hs.sound h hid hbi hopv hbx (λτ ht=>htok τ (.inl ht)) hdd Q)
    obtain⟨h1,Γ',bs',ow',st',h2,h3,h4⟩:=hA
    exact⟨h1,Γ',bs',ow',st',h2,⟨h3.tm,by rw[JH hu hh];exact h3.b1,by rw[JH hu hh];exact h3.b2,λτ ht=>h3.keep τ λhx=>ht (.inl hx),λτ ht=>h3.got τ (hs.rs_of ht),λi hi _ _=>h3.un i hi⟩,h4⟩
  | callG d f args tys r ro oa ρ F ho hd hi hh F1 F3 hg =>
    have hop:∀x,x=f\/x∈args.toList->opv E.GE s.tmps x=opv E.GE st.tmps x:=λx hx=>hopv x (by rw[ho];simp[Op.operands,Call.operands];simpa using hx)
    have hown:∀x∈oa,((x.t,x.k),x.e)∈s.own->((x.t,x.k),x.e)∈st.own:=λx hx hm=>htok (false,(x.t,x.k),x.e) (.inl (vaV _ (vax _ (vaq.2 ⟨x,hx,rfl⟩)))) hm
    have hst:=hbx (by rw[s6 ho hd hi hh];decide)
    have hbox:∀i∈ρ,∀k e,iv s (true,(i,k),e)->iv st (true,(i,k),e):=λi hi k e hh=>htok _ (.inr ⟨rfl,vaN _ (vaq.2 ⟨i,hi,rfl⟩)⟩) hh
    have hF:(F st.boxes).map aP=(F s.boxes).map aP:=by
      refine vbh λi=>?_
      rw[vaA,vaA]
      by_cases hi:i∈ρ
      ·rw[F3 _ _ i hst hi]
      ·rw[F1 _ _ hi,F1 _ _ hi];exact Rf hst i
    refine Oper.wp_mono (λa' w' hA=>?_) (yR (id:=id) (K:=(·=⟨st.tmps.set d r,F st.boxes,(ro.map λx=>((d,x.1),x.2))++bQ d (st.own.filter λz=>!oa.any λx=>z.1==(x.t,x.k))⟩)) h ho hd (hdd d hd) (hg st hop hown hst hbox) rfl Q)
    obtain⟨h1,Γ',bs',ow',st2,h2,rfl,h3⟩:=hA
    refine⟨h1,Γ',bs',ow',_,h2,⟨by rw[hd];exact⟨_,rfl,rfl⟩,λhc=>absurd (s6 ho hd hi hh) hc,λ_=>hF,?_,?_,λi hb hn _=>F1 _ _ λhx=>hn (vaN _ (vaq.2 ⟨i,hx,rfl⟩))⟩,h3.imp_right .inl⟩
    · rintro ⟨b,⟨t',k⟩,e'⟩ hr _ hh
      cases b with
      | true =>
        have hn:t'∉ρ:=λhx=>hr (.inr ⟨rfl,vaN _ (vaq.2 ⟨t',hx,rfl⟩)⟩)
        obtain⟨cs,own,k1,k2⟩:=dV.1 hh
        exact⟨cs,own,by simp only;rw[F1 _ _ hn];exact k1,k2⟩
      | false =>
        have hr':dZ (false,(t',k),e')∉((false,d,0)::oa.map λx=>(false,x.t,0)):=λhx=>hr (.inl (vaV _ hx))
        simp only[dZ,vaF,Prod.mk.injEq,vcc,vcb,vaq,vc7,not_exists,not_and]at hr'
        refine vaN _ (fY (va4.2 ⟨cQ.1 hh,?_⟩) hr'.1)
        simp only[vaZ,vbi,va9,Prod.mk.injEq,not_and]
        exact λx hx e=>absurd e.symm (hr'.2 x hx)
    · rintro ⟨b,⟨t',k⟩,e'⟩ hr hh
      cases b with
      | true =>
        have hin:t'∈ρ:=by
          rcases hr with hx|⟨_,hx⟩
          ·simp[dZ]at hx
          · rcases vaS.1 hx with hx | hx
            ·simp at hx
            · obtain ⟨i,hi,he⟩:=vaq.1 hx
              simp only[Prod.mk.injEq,vcb,vcc]at he
              subst he;exact hi
        obtain⟨cs,own,k1,k2⟩:=dV.1 hh
        exact⟨cs,own,by simp only at k1 ⊢;rw[F3 _ _ t' hst hin];exact k1,k2⟩
      | false =>
        rcases vaS.1 (cQ.1 hh)with hh|hh
        ·exact vaV _ hh
        · obtain ⟨h1,h2⟩:=dS hh
          obtain⟨h3,h4⟩:=bK h1
          have h5:((t',k),e')∈st.own:=htok (false,(t',k),e') hr h3
          exact vaN _ (fY (va4.2 ⟨h5,h4⟩) h2)
  | callH d f args tys r ro oa ρ F ho hd hi F1 F4 F5 F6 hg =>
    have hop:∀x,x=f\/x∈args.toList->opv E.GE s.tmps x=opv E.GE st.tmps x:=λx hx=>hopv x (by rw[ho];simp[Op.operands,Call.operands];simpa using hx)
    have hown:∀x∈oa,((x.t,x.k),x.e)∈s.own->((x.t,x.k),x.e)∈st.own:=λx hx hm=>htok (false,(x.t,x.k),x.e) (.inl (vax _ (vaq.2 ⟨x,hx,rfl⟩))) hm
    have hst:=hbx (by rw[YU ho hd hi];decide)
    refine Oper.wp_mono (λa' w' hA=>?_) (yR (id:=id) (K:=(·=⟨st.tmps.set d r,F st.boxes,(ro.map λx=>((d,x.1),x.2))++bQ d (st.own.filter λz=>!oa.any λx=>z.1==(x.t,x.k))⟩)) h ho hd (hdd d hd) (hg st hop hown hst) rfl Q)
    obtain⟨h1,Γ',bs',ow',st2,h2,rfl,h3⟩:=hA
    refine⟨h1,Γ',bs',ow',_,h2,⟨by rw[hd];exact⟨_,rfl,rfl⟩,λ_=>F4 _ hst,λhc=>absurd ((YU (P:=P) ho hd hi).symm.trans hc) (by decide),?_,?_,λi _ _ hn=>F1 _ _ λhx=>hn (F6 i hx).2⟩,h3.imp_right .inl⟩
    · rintro ⟨b,⟨t',k⟩,e'⟩ hr hrow hh
      cases b with
      | true =>
        have hn:t'∉ρ:=λhx=>hrow rfl (F6 t' hx).1
        obtain⟨cs,own,k1,k2⟩:=dV.1 hh
        exact⟨cs,own,by simp only;rw[F1 _ _ hn];exact k1,k2⟩
      | false =>
        have hr':dZ (false,(t',k),e')∉((false,d,0)::oa.map λx=>(false,x.t,0)):=λhx=>hr (.inl hx)
        simp only[dZ,vaF,Prod.mk.injEq,vcc,vcb,vaq,vc7,not_exists,not_and]at hr'
        refine vaN _ (fY (va4.2 ⟨cQ.1 hh,?_⟩) hr'.1)
        simp only[vaZ,vbi,va9,Prod.mk.injEq,not_and]
        exact λx hx e=>absurd e.symm (hr'.2 x hx)
    · rintro ⟨b,⟨t',k⟩,e'⟩ hr hh
      cases b with
      | true =>
        rcases hr with hx|⟨_,hx⟩
        ·simp[dZ]at hx
        ·simp at hx
      | false =>
        rcases vaS.1 (cQ.1 hh)with hh|hh
        ·exact vaV _ hh
        · obtain ⟨h1,h2⟩:=dS hh
          obtain⟨h3,h4⟩:=bK h1
          have h5:((t',k),e')∈st.own:=htok (false,(t',k),e') hr h3
          exact vaN _ (fY (va4.2 ⟨h5,h4⟩) h2)
end
end Go.Proofs.YtibglelmlnfojaaGreatDoor
