/- PROVED: a part of the proof. Conditions: none. -/
import Derived.Test.YtbaamopmfmpfaaaGreatDoorPkA4
import Derived.Test.YtbaamopmfmpfaaaGreatDoorPkA3
noncomputable section
namespace Go.Proofs.YtbaamopmfmpfaaaGreatDoor
open Go
def SK(st:aA)(dst:Option Tmp)(p:PVal)(ro:List (Nat×TypeId))(H:List aN)(K:aA->Prop):Prop:=
 match dst with
 |some d=>gO st.tmps d p fun tm=>bP ((ro.map fun x=>((d,x.1),x.2))++cx d st.own) fun ow=>K ⟨tm,H,ow⟩
 |none=>K ⟨st.tmps,H,st.own⟩
theorem wg(st:aA)(dst:Option Tmp)(p:PVal)(ro:List (Nat×TypeId))(H:List aN)(K:aA->Prop):SK st dst p ro H K=K (Ad st dst p ro H):=by
 cases dst with
 |none=>rfl
 |some d=>simp only[SK,bU,bk,Ad]
def YH(P:Program)(GE:List (Nat×List PVal))(f:Operand)(args:List Operand)(tmps:List PVal)(sc:List It)(K:PVal->List (Nat×TypeId)->List It->Prop):Prop:=
 qy GE tmps f fun vf=>match vf with
  |.func (.func g) first cap=>SD GE tmps args fun as=>match sc with
   |.c r ro::sc'=>CC P GE g (first++as++cap) r ro/\K r ro sc'
   |_=>False
  |_=>False
def yV(P:Program)(GE:List (Nat×List PVal))(o:Oper)(id:Nat)(sc:List It)(st:aA)(K:List It->aA->Prop):Prop:=
 match pS o st.tmps.length with
 |false=>False
 | true => match o.op with
  |.call {callee:=.value f,args,..}=>YH P GE f args.toList st.tmps sc fun r ro sc'=>SK st o.dst r ro st.boxes fun st'=>K sc' st'
  |.alloc t=>match sc with
   |.x zs::sc'=>kb P t=some zs/\bP (XH P t) fun ow=>gO st.boxes id (.cells zs ow) fun H=>SK st o.dst (.bptr id 0) [] H fun st'=>K sc' st'
   |_=>False
  |.box _ x=>qy GE st.tmps x fun vx=>match sc with
   |.x cs::sc'=>bK vx=some cs/\gO st.boxes id (.cells cs []) fun H=>SK st o.dst (.bptr id 0) [] H fun st'=>K sc' st'
   |_=>False
  |.makeMap _ none=>gO st.boxes id (.map []) fun H=>SK st o.dst (.mapr id) [] H fun st'=>K sc st'
  |op=>ZK P GE op st.tmps st.boxes sc fun p H sc'=>SK st o.dst p [] H fun st'=>K sc' st'
def X7(n d:Nat)(K:Prop):Prop:=match decide (d<n)with
 |true=>K
 |false=>False
theorem rv{n d:Nat}{K:Prop}(h:X7 n d K):d<n/\K:=by
 unfold X7 at h
 split at h
 ·rename_i hd;exact⟨by simpa using hd,h⟩
 ·exact h.elim
def P0(P:Program)(st:aA)(T e:TypeId)(t:Nat)(dst:Option Tmp)(vx vt:PVal)(sc:List It)(K:List It->aA->Prop):Prop:=
 match vx with
 | .bptr i off => match eh P T (.bptr i off) vt st.boxes with
  | some H => mP H i fun B => match B with
   |.cells cs own=>match vt.one with
    |true=>bP cs fun cs'=>gO H i (.cells cs' ((off,e)::own)) fun H'=>SK {st with own:=st.own.filter fun x=>x.1 !=(t,0)} dst (.val undef) [] H' fun st'=>K sc st'
    |false=>False
   |_=>False
  |none=>False
 |_=>False
def P1(P:Program)(GE:List (Nat×List PVal))(A:List Nat)(o:Oper)(id:Nat)(sc:List It)(st:aA)(K:List It->aA->Prop):Prop:=
 match o.op,o.dst with
 |.assign (.tmp t),some d=>X7 st.tmps.length d (zX st.tmps t fun p=>gO st.tmps d p fun tm=>bP (jq d (fun x=>if x.1=t then(d,x.2)else x) st.own) fun ow=>K sc ⟨tm,st.boxes,ow⟩)
 |.move (.tmp t),some d=>match decide (d∈A)with
  |true=>X7 st.tmps.length d (zX st.tmps t fun p=>gO st.tmps d p fun tm=>bP (jq d (fun x=>if x.1=t then(d,x.2)else x) st.own) fun ow=>K sc ⟨tm,st.boxes,ow⟩)
  |false=>yV P GE o id sc st K
 |.assign (.const v),some d=>match v8 P o.type v with
  |some e=>X7 st.tmps.length d (gO st.tmps d (.slice []) fun tm=>bP (((d,0),e)::cx d st.own) fun ow=>K sc ⟨tm,st.boxes,ow⟩)
  |none=>yV P GE o id sc st K
 |.move (.const v),some d=>match v8 P o.type v with
  |some e=>X7 st.tmps.length d (gO st.tmps d (.slice []) fun tm=>bP (((d,0),e)::cx d st.own) fun ow=>K sc ⟨tm,st.boxes,ow⟩)
  |none=>yV P GE o id sc st K
 |.extract (.tmp t) i,some d=>X7 st.tmps.length d (zX st.tmps t fun vt=>St (xO vt i) fun p=>gO st.tmps d p fun tm=>bP (jq d (fun x=>if x=(t,i)then(d,0)else x) st.own) fun ow=>K sc ⟨tm,st.boxes,ow⟩)
 |.buildSlice T len parts,some d=>X7 st.tmps.length d (z8 GE st.tmps parts.toList fun ps=>match sc,P.underlying T with
  |.v p::sc',some (.slice e)=>gd P T len ps=some p/\gO st.tmps d p fun tm=>bP (((d,0),e)::cx d st.own) fun ow=>K sc' ⟨tm,st.boxes,ow⟩
  |_,_=>False)
 | .call { callee := .builtin .append,args:=⟨[.tmp t,y]⟩,argTypes:=⟨[T,T']⟩ },some d => X7 st.tmps.length d (zX st.tmps t fun ve => qy GE st.tmps y fun vn => match ve,vn,sc,P.underlying T with
  |.slice es,.slice ns,.v p::sc',some (.slice e)=>match decide (T=T')&&decide (((t,0),e)∈st.own)with
   |true=>lW P T es ns=some p/\gO st.tmps d p fun tm=>bP (((d,0),e)::cx d (st.own.filter fun x=>x.1 !=(t,0))) fun ow=>K sc' ⟨tm,st.boxes,ow⟩
   |false=>False
  |_,_,_,_=>False)
 | .load T x,some d => match decide (d ∈ A) with
  | true => X7 st.tmps.length d (qy GE st.tmps x fun vx => match vx,P.underlying T with
   | .bptr i off,some (.slice e) => mP st.boxes i fun B => match B with
    |.cells cs own=>match decide ((off,e)∈own)&&decide (off<cs.length)with
     |true=>zX cs off fun p=>gO st.tmps d p fun tm=>bP (own.filter fun x=>x.1 !=off) fun own'=>gO st.boxes i (.cells cs own') fun H=>bP (((d,0),e)::cx d st.own) fun ow=>K sc ⟨tm,H,ow⟩
     |false=>False
    |_=>False
   |_,_=>False)
  |false=>yV P GE o id sc st K
 |.store T x (.tmp t),_=>match st.own.find? (fun y=>y.1==(t,0))with
  |some (_,e)=>qy GE st.tmps x fun vx=>zX st.tmps t fun vt=>P0 P st T e t o.dst vx vt sc K
  |none=>yV P GE o id sc st K
 |_,_=>yV P GE o id sc st K
def qkW:Value->Bool
 |.bool _=>true
 |_=>false
def Od(ops:Array Oper)(j:Nat)(want:Bool)(pos:Nat)(sc:List It)(st:aA)(go:Bool->List It->aA->Prop):Prop:=
 match(ops[j]?).bind (·.dst)with
 |none=>False
 | some t => zX st.tmps t fun p => match p with
  | .bool x => match sc with
   |.g pos' b::sc'=>match pos'==pos with
    |true=>x=b/\gO st.tmps t (.bool b) fun tm=>go (b==want) sc' ⟨tm,st.boxes,st.own⟩
    |false=>go (x==want) sc st
   |_=>go (x==want) sc st
  |.val v=>match qkW v with
   |true=>False
   |false=>go false sc st
  |_=>False
def xN:List Nat->Bool
 |[]=>true
 |x::r=>!(r.contains x)&&xN r
theorem qn:∀{l:List Nat},xN l=true->l.Nodup
 |[],_=>.nil
 |x::r,h=>by
  simp only[xN,vaj,va5,vcF,vbp]at h
  exact vbN.2 ⟨h.1,qn h.2⟩
def Tt(t:Nat)(own:List ((Nat×Nat)×TypeId)):List (Nat×TypeId):=own.filterMap fun x=>if x.1.1==t then some (x.1.2,x.2)else none
theorem LP{t:Nat}{own:List ((Nat×Nat)×TypeId)}{y:Nat×TypeId}(h:y∈Tt t own):((t,y.1),y.2)∈own:=by
 unfold Tt at h
 obtain⟨⟨⟨t',k⟩,e⟩,hx,he⟩:=vbM.1 h
 split at he
 ·rename_i ht
  simp only[va4]at ht
  cases he;subst ht;exact hx
 ·cases he
def Z7(off n:Nat)(own:List (Nat×TypeId)):List (Nat×TypeId):=own.filterMap fun x=>if decide (off<=x.1)&&decide (x.1<off+n)then some (x.1 - off,x.2)else none
theorem Ge{off n:Nat}{own:List (Nat×TypeId)}{y:Nat×TypeId}(h:y∈Z7 off n own):(off+y.1,y.2)∈own/\y.1<n:=by
 unfold Z7 at h
 obtain⟨⟨k,e⟩,hx,he⟩:=vbM.1 h
 split at he
 ·rename_i ht
  simp only[vaj,vao]at ht
  cases he
  have:off+(k - off)=k:=by omega
  exact⟨by rw[this];exact hx,by simp only;omega⟩
 ·cases he
def RZ(ρ:List Nat):List PVal->List PVal->Prop
 |[],[]=>True
 |p::ps,q::qs=>Jr ρ p q/\RZ ρ ps qs
 |_,_=>False
theorem RZ.len{ρ:List Nat}:∀{l r:List PVal},RZ ρ l r->l.length=r.length
 |[],[],_=>rfl
 |[],_::_,h=>h.elim
 |_::_,[],h=>h.elim
 |_::_,_::_,h=>by simp[RZ.len h.2]
theorem RZ.get{ρ:List Nat}:∀{l r:List PVal},RZ ρ l r->∀(i:Nat) p q,l[i]? =some p->r[i]? =some q->Jr ρ p q
 |[],[],_,i,p,q,hp,_=>by simp at hp
 |[],_::_,h,_,_,_,_,_=>h.elim
 |_::_,[],h,_,_,_,_,_=>h.elim
 |_::_,_::_,h,0,p,q,hp,hq=>by simp at hp hq;subst hp;subst hq;exact h.1
 |_::_,_::_,h,i+1,p,q,hp,hq=>RZ.get h.2 i p q (by simpa using hp) (by simpa using hq)
def qcc(ρ:List Nat):aN->aN->Prop
 |.cells cs own,.cells cs' own'=>own=own'/\RZ ρ cs cs'
 |.map es,.map es'=>es=es'/\∀x∈es,x.1.cl 0/\x.2.cl 0
 |_,_=>False
theorem qcc.to{ρ:List Nat}{B B':aN}(h:qcc ρ B B'):lI ρ B B':=by
 cases B<;>cases B'<;>simp only[qcc]at h
 ·exact⟨h.1,h.2.len,h.2.get⟩
 ·obtain⟨rfl,h⟩:=h
  refine⟨rfl,fun i k u k' u' h1 h2=>?_⟩
  rw[h1]at h2;cases h2
  obtain⟨q1,q2⟩:=h _ (vaA h1)
  exact⟨.refl _ q1,.refl _ q2⟩
def Cq(ρ:List Nat)(H:List aN):List Nat->List aN->List aN->Prop
 |[],[],[]=>True
 |j::js,B::Bs,Bc::Hc=>(mP H j fun B0=>Sr B0 B=B/\qcc ρ B Bc)/\Cq ρ H js Bs Hc
 |_,_,_=>False
def Qe(ρ:List Nat):List aN->List aN->Prop
 |[],[]=>True
 |B::Bs,Bc::Hc=>qcc ρ B Bc/\Qe ρ Bs Hc
 |_,_=>False
def Fq(H:List aN):List Nat->List aN->List aN
 |j::js,B::Bs=>Fq (H.set j B) js Bs
 |_,_=>H
def VN(H:List aN):List Nat->List aN->(List aN->Prop)->Prop
 |j::js,B::Bs,K=>gO H j B fun H'=>VN H' js Bs K
 |_,_,K=>K H
theorem Gl:∀(H:List aN) (js:List Nat) (Bs:List aN) (K:List aN->Prop),VN H js Bs K=K (Fq H js Bs)
 |H,[],_,K=>by cases ‹List aN›<;>rfl
 |H,_::_,[],K=>rfl
 |H,j::js,B::Bs,K=>by simp only[VN,bU,Gl,Fq]
theorem L5:∀(H:List aN) (js:List Nat) (Bs:List aN),(Fq H js Bs).length=H.length
 |H,[],_=>by cases ‹List aN›<;>rfl
 |H,_::_,[]=>rfl
 |H,j::js,B::Bs=>by simp only[Fq,L5,vbq]
theorem AX:∀(H:List aN) (js:List Nat) (Bs:List aN) {j:Nat},j∉js->(Fq H js Bs)[j]? =H[j]?
 |H,[],Bs,_,_=>by cases Bs<;>rfl
 |H,_::_,[],_,_=>rfl
 |H,k::js,B::Bs,j,h=>by
  simp only[vaw,not_or]at h
  simp only[Fq]
  rw[AX _ js Bs h.2,vas (Ne.symm h.1)]
theorem KA:∀(H:List aN) (js:List Nat) (Bs:List aN),js.Nodup->js.length=Bs.length->(∀j∈js,j<H.length)->∀(i j:Nat) B,js[i]? =some j->Bs[i]? =some B->(Fq H js Bs)[j]? =some B
 |H,[],Bs,_,_,_,i,j,B,hj,_=>by simp at hj
 |H,_::_,[],_,hl,_,_,_,_,_,_=>by simp at hl
 | H,k :: js,B0 :: Bs,hn,hl,hlt,i,j,B,hj,hB => by
  obtain⟨hn1,hn2⟩:=vbN.1 hn
  simp only[Fq]
  cases i with
  |zero=>
   simp at hj hB;subst hj;subst hB
   rw[AX _ js Bs hn1,van (hlt _ (by simp))]
  |succ i=>exact KA _ js Bs hn2 (by simpa using hl) (fun x hx=>by rw[vbq];exact hlt x (by simp[hx])) i j B (by simpa using hj) (by simpa using hB)
theorem Qd{ρ:List Nat}{H:List aN}:∀{js:List Nat} {Bs Hc:List aN},Cq ρ H js Bs Hc->js.length=Bs.length/\Hc.length=js.length/\(∀j∈js,j<H.length)/\
  ∀(i j:Nat) B Bc,js[i]? =some j->Bs[i]? =some B->Hc[i]? =some Bc->(∃B0,H[j]? =some B0/\Sr B0 B=B)/\lI ρ B Bc
 |[],[],[],_=>⟨rfl,rfl,by simp,by simp⟩
 |[],_::_,_,h=>by simp[Cq]at h
 |[],[],_::_,h=>by simp[Cq]at h
 |_::_,[],_,h=>by simp[Cq]at h
 |_::_,_::_,[],h=>by simp[Cq]at h
 | k :: js,B :: Bs,Bc :: Hc,h => by
  obtain⟨h1,h2⟩:=h
  obtain⟨B0,hB0,h3,h4⟩:=eB h1
  obtain⟨k1,k2,k3,k4⟩:=Qd h2
  refine⟨by simp[k1],by simp[k2],fun j hj=>?_,fun i j b bc hj hb hbc=>?_⟩
  ·rcases vaw.1 hj with rfl|hj
   ·exact av hB0
   ·exact k3 j hj
  ·cases i with
   |zero=>simp at hj hb hbc;subst hj;subst hb;subst hbc;exact⟨⟨B0,hB0,h3⟩,h4.to⟩
   |succ i=>exact k4 i j b bc (by simpa using hj) (by simpa using hb) (by simpa using hbc)
theorem Mr{ρ:List Nat}:∀{Bs Hc:List aN},Qe ρ Bs Hc->Bs.length=Hc.length/\∀(i:Nat) B Bc,Bs[i]? =some B->Hc[i]? =some Bc->lI ρ B Bc
 |[],[],_=>⟨rfl,by simp⟩
 |[],_::_,h=>h.elim
 |_::_,[],h=>h.elim
 |B::Bs,Bc::Hc,h=>by
  obtain⟨k1,k2⟩:=Mr h.2
  refine⟨by simp[k1],fun i b bc hb hbc=>?_⟩
  cases i with
  |zero=>simp at hb hbc;subst hb;subst hbc;exact h.1.to
  |succ i=>exact k2 i b bc (by simpa using hb) (by simpa using hbc)
def qfS(t:Nat):Option Operand->Bool
 |some (.tmp u)=>u==t
 |_=>false
def qcY:Option Operand->Bool
 |some (.const v)=>mQ v
 |_=>false
def qbf(n:Nat)(args:List Operand)(own:List ((Nat×Nat)×TypeId))(oa:List OA):Bool:=
 oa.all (fun x=>decide (n<=x.i)&&((qcY args[x.i - n]? &&x.k==0)||(decide (((x.t,x.k),x.e)∈own)&&qfS x.t args[x.i - n]?)))&&oa.all fun x=>oa.all fun y=>!(x.t==y.t&&x.k==y.k)||x.i==y.i
def Z4:aN->Bool
 |.dead=>false
 |_=>true
def yU(P:Program)(GE:List (Nat×List PVal))(f:Operand)(args:List Operand)(c:GC)(st:aA)(K:List aN->Prop):Prop:=
 qy GE st.tmps f fun vf=>match vf with
 | .func (.func g) first cap => SD GE st.tmps args fun as => match xN c.ρ && qbf first.length args st.own c.oa && c.Bs.all Z4 && decide (c.Bs'.length = c.ρ.length) with
  | true => C P GE g c.argsC (c.oa.map fun x => ((x.i,x.k),x.e)) c.Hc c.rc c.ro c.Hc'∧RZ c.ρ (first ++ as ++ cap) c.argsC∧Cq c.ρ st.boxes c.ρ c.Bs c.Hc∧Qe c.ρ c.Bs' c.Hc'∧Jr c.ρ c.r c.rc ∧
    VN st.boxes c.ρ c.Bs' K
  |false=>False
 |_=>False
theorem G6{P:Program}{GE:List (Nat×List PVal)}{f:Operand}{args:List Operand}{c:GC}{st:aA}{K:List aN->Prop}(h:yU P GE f args c st K):∃H',Wb P GE f args st c.r c.ro H' c.oa/\K H':=by
 unfold yU at h
 rw[cC]at h
 split at h
 ·rename_i g first cap hf
  rw[wc]at h
  split at h
  ·rename_i hb
   simp only[vaj,vao]at hb
   obtain⟨⟨⟨b1,b2⟩,b3⟩,b4⟩:=hb
   obtain⟨h1,h2,h3,h4,h5,h6⟩:=h
   rw[Gl]at h6
   have hn:=qn b1
   obtain⟨i1,i2,i3,i4⟩:=Qd h3
   obtain⟨o1,o2⟩:=Mr h4
   unfold qbf at b2
   rw[vaj]at b2
   obtain⟨c1,c2⟩:=b2
   have hgetB:∀{i j:Nat},c.ρ[i]? =some j->∃B,c.Bs[i]? =some B:=fun{i j} hj=>⟨_,vab (by rw[<-i1];exact av hj)⟩
   have hgetH:∀{i j:Nat},c.ρ[i]? =some j->∃B,c.Hc[i]? =some B:=fun{i j} hj=>⟨_,vab (by rw[i2];exact av hj)⟩
   refine⟨_,⟨g,first,cap,c.argsC,c.ρ,Fq st.boxes c.ρ c.Bs,c.Hc,c.Hc',c.rc,hf,hn,h1,⟨L5 _ _ _,fun i B hB=>?_⟩,⟨i2,fun i j hj=>?_⟩,⟨by rw[<-o1];exact b4,fun i j hj=>?_⟩,L5 _ _ _,fun j hj=>by rw[AX _ _ _ hj,AX _ _ _ hj],h5,h2.len,h2.get,fun x hx=>?_,fun x hx y hy e1 e2=>?_⟩,h6⟩
   ·by_cases hi:i∈c.ρ
    ·obtain⟨k,hk⟩:=vbh.1 hi
     obtain⟨B1,hB1⟩:=hgetB hk
     obtain⟨Bc,hBc⟩:=hgetH hk
     obtain⟨⟨B0,hB0,hfg⟩,_⟩:=i4 k i B1 Bc hk hB1 hBc
     rw[KA _ _ _ hn i1 i3 k i B1 hk hB1]at hB
     cases hB
     refine⟨B0,hB0,?_⟩
     rcases ZL B0 B with hx|hx|hx
     ·rw[hfg]at hx
      have:=vax.1 b3 B (vaA hB1)
      rw[hx]at this;cases this
     ·rw[hfg]at hx;exact .inl hx
     ·rw[hfg]at hx;exact .inr hx
    ·rw[AX _ _ _ hi]at hB
     exact⟨B,hB,.inl rfl⟩
   ·obtain⟨B1,hB1⟩:=hgetB hj
    obtain⟨Bc,hBc⟩:=hgetH hj
    exact⟨B1,Bc,KA _ _ _ hn i1 i3 i j B1 hj hB1,hBc,(i4 i j B1 Bc hj hB1 hBc).2⟩
   ·have hi:=av hj
    have e1:=vab (l:=c.Bs') (i:=i) (by omega)
    have e2:=vab (l:=c.Hc') (i:=i) (by omega)
    exact⟨_,_,KA _ _ _ hn b4.symm i3 i j _ hj e1,e2,o2 i _ _ e1 e2⟩
   ·have:=vax.1 c1 x hx
    simp only[vaj,vbb,vao,va4]at this
    refine⟨x.i - first.length,by omega,?_⟩
    rcases this.2 with⟨h2,h3⟩|⟨h2,h3⟩
    ·left
     unfold qcY at h2
     split at h2
     ·rename_i v hv
      unfold mQ at h2
      split at h2
      ·exact⟨hv,h3⟩
      ·cases h2
     ·cases h2
    ·right
     unfold qfS at h3
     split at h3
     ·rename_i u hu
      simp only[va4]at h3
      subst h3;exact⟨h2,hu⟩
     ·cases h3
   ·have:=vax.1 (vax.1 c2 x hx) y hy
    simp only[vbb,va5,Bool.and_eq_false_iff,beq_eq_false_iff_ne,ne_eq,va4]at this
    rcases this with(hx|hx)|hx
    ·exact absurd e1 hx
    ·exact absurd e2 hx
    ·exact hx
  ·exact h.elim
 ·exact h.elim
def Of (P:Program) (GE:List (Nat×List PVal)) (A:List Nat) (o:Oper) (id:Nat) (sc:List It) (st:aA) (K:List It→aA→Prop):Prop :=
 match o.op,sc with
 |.build T parts,.b p L::sc'=>match o.dst with
  |some d=>X7 st.tmps.length d (z8 GE st.tmps parts.toList fun ps=>dw P T ps=some p/\rZ P T ps L/\gO st.tmps d p fun tm=>bP ((L.map fun x=>((d,x.1),x.2))++cx d st.own) fun ow=>K sc' ⟨tm,st.boxes,ow⟩)
  |none=>False
 | .store T x (.tmp t),.y vs :: sc' => zX st.tmps t fun vt => match vt with
  | .agg l => match o.dst with
   | none => qy GE st.tmps x fun vx => match vx with
    | .bptr i off => bP (Tt t st.own) fun L => l = vs∧mP st.boxes i fun B => match B with
     | .cells cs own => match xN (L.map (·.1)) && decide (vs.length = P.cellsOf T) && (P.info? T).isSome && decide (off + vs.length ≤ cs.length) && vs.all PVal.one with
      | true => bP (cs.take off ++ vs ++ cs.drop (off + vs.length)) fun cs' => bP ((L.map fun y => (off + y.1,y.2)).reverse ++ own.filter fun y => y.1 < off || off + vs.length ≤ y.1) fun own' =>
        gO st.boxes i (.cells cs' own') fun H=>bP (st.own.filter fun x=>!L.any fun y=>x.1==(t,y.1)) fun ow=>K sc' ⟨st.tmps,H,ow⟩
      |false=>False
     |_=>False
    |_=>False
   |some _=>False
  |_=>P1 P GE A o id sc st K
 | .load T x,.z l :: sc' => match P.underlying T with
  | some (.struct _) => match o.dst with
   | some d => X7 st.tmps.length d (qy GE st.tmps x fun vx => match vx with
    | .bptr i off => mP st.boxes i fun B => match B with
     | .cells cs own => bm P T (cs.drop off) = some (.agg l)∧bP (Z7 off (P.cellsOf T) own) fun L => match xN (L.map (·.1)) with
      | true => gO st.tmps d (.agg l) fun tm => bP (own.filter fun x => !L.any fun y => x.1 == off + y.1) fun own' => gO st.boxes i (.cells cs own') fun H =>
        bP ((L.map fun y=>((d,y.1),y.2)).reverse++cx d st.own) fun ow=>K sc' ⟨tm,H,ow⟩
      |false=>False
     |_=>False
    |_=>False)
   |none=>False
  |_=>P1 P GE A o id sc st K
 |.box _ x,.e vs::sc'=>match o.dst with
  |some d=>X7 st.tmps.length d (qy GE st.tmps x fun vx=>bK vx=some vs/\gO st.tmps d (.eptr vs) fun tm=>bP (cx d st.own) fun ow=>K sc' ⟨tm,st.boxes,ow⟩)
  |none=>False
 |.call {callee:=.value f,args,..},.cg c::sc'=>match o.dst with
  |some d=>X7 st.tmps.length d (yU P GE f args.toList c st fun H=>gO st.tmps d c.r fun tm=>bP ((c.ro.map fun x=>((d,x.1),x.2))++cx d (st.own.filter fun z=>!c.oa.any fun x=>z.1==(x.t,x.k))) fun ow=>K sc' ⟨tm,H,ow⟩)
  |none=>False
 | .call { callee := .builtin .append,args:=⟨[.tmp t,y]⟩,argTypes:=⟨[T,T']⟩ },.ar i e n cs :: sc' => match o.dst with
  | some d => X7 st.tmps.length d (zX st.tmps t fun ve => qy GE st.tmps y fun vn => match ve,vn with
   | .slice [],.slice ns => match decide (T = T') && decide (((t,0),e) ∈ st.own) && decide (i = st.boxes.length) with
    | true => P.underlying T = some (.slice e)∧(∃ p,lW P T [] ns = some p)∧(n = ns.length∧cs = ns.flatten) ∧
      gO st.tmps d (.bsl i 0 n) fun tm=>bP (cx d (st.own.filter fun x=>x.1 !=(t,0))) fun ow=>UI st.boxes [.cells cs []] fun H=>K sc' ⟨tm,H,ow⟩
    |false=>False
   |_,_=>False)
  |none=>False
 | .call { callee := .value f,args:=⟨[x]⟩,.. },.ar i e n cs :: sc' => match o.dst with
  | some d => X7 st.tmps.length d (qy GE st.tmps f fun vf => qy GE st.tmps x fun vn => match vf,vn with
   | .func (.func g) [] [],.slice ns => match decide (i = st.boxes.length) with
    | true => nJ P g e∧(0 < P.cellsOf e∧(∀ x ∈ ns,x.length = P.cellsOf e∧∀ q ∈ x,q.one = true)∧ns.length ≤ eY)∧(n = ns.length∧cs = ns.flatten) ∧
      gO st.tmps d (.bsl i 0 n) fun tm=>bP (cx d st.own) fun ow=>UI st.boxes [.cells cs []] fun H=>K sc' ⟨tm,H,ow⟩
    |false=>False
   |_,_=>False)
  |none=>False
 | .store T x (.const v),.ar _ e _ _ :: sc' => match o.dst,mQ v with
  | none,true => qy GE st.tmps x fun vx => qy GE st.tmps (.const v) fun vy => match vx,bK vy with
   | .bptr i off,some vs => mP st.boxes i fun B => match B with
    |.cells cs own=>match decide (vs.length=P.cellsOf T)&&(P.info? T).isSome&&decide (off+vs.length<=cs.length)&&vs.all PVal.one with
     |true=>bP (cs.take off++vs++cs.drop (off+vs.length)) fun cs'=>bP ((off,e)::own.filter fun y=>y.1<off||off+vs.length<=y.1) fun own'=>gO st.boxes i (.cells cs' own') fun H=>K sc' ⟨st.tmps,H,st.own⟩
     |false=>False
    |_=>False
   |_,_=>False
  |_,_=>False
 |_,_=>P1 P GE A o id sc st K
def PZ(P:Program)(GE:List (Nat×List PVal))(A:List Nat)(ops:Array Oper)(K:List It->aA->Prop):List Oper->Nat->Nat->List It->aA->Prop
 |[],_,_,sc,st=>K sc st
 | o :: rest,pos,id,sc,st =>
  let step (sc:List It) (st:aA):Prop:=Of P GE A o id sc st fun sc' st'=>PZ P GE A ops K rest (pos+1) (id+if aS o.op then 1 else 0) sc' st'
  match o.guard with
  |none=>step sc st
  |some (j,want)=>Od ops j want pos sc st fun b sc' st'=>match b with
   |true=>step sc' st'
   |false=>SK st' o.dst (.val undef) [] st'.boxes fun st''=>PZ P GE A ops K rest (pos+1) (id+if aS o.op then 1 else 0) sc' st''
section
variable{P:Program}{GE:List (Nat×List PVal)}{A:List Nat}{ops:Array Oper}
theorem UX{f:Operand}{args:List Operand}{tmps:List PVal}{H:List aN}{sc:List It}{K:PVal->List (Nat×TypeId)->List It->Prop}(h:YH P GE f args tmps sc K):Ir P GE (opv GE tmps f) (args.map (opv GE tmps)) H fun r ro H'=>H'=H/\∃sc',K r ro sc':=by
 unfold YH at h
 rw[cC]at h
 split at h
 ·rename_i g first cap hf
  rw[wc]at h
  split at h
  ·rename_i r ro sc'
   rw[hf]
   exact .inl ⟨h.1.1,r,ro,h.1.2,rfl,sc',h.2⟩
  ·exact h.elim
 ·exact h.elim
theorem Gf{op:Op}{id:Nat}{v:Operand->PVal}{H H':List aN}{p:PVal}{K:PVal->List (Nat×TypeId)->List aN->Prop}(hn:∀f args tys,op≠.call {callee:=.value f,args,argTypes:=tys})
  (h:uo P op id v H=some (p,H')) (hk:K p [] H'):Tu P GE op id v H K:=by
 unfold Tu
 split
 ·rename_i f args tys;exact absurd rfl (hn _ _ _)
 ·rw[h];exact hk
theorem lB{o:Oper}{id:Nat}{sc:List It}{st:aA}{K:List It->aA->Prop}(h:yV P GE o id sc st K):pS o st.tmps.length=true/\Tu P GE o.op id (opv GE st.tmps) st.boxes fun p ro H=>(fun st'=>∃sc',K sc' st') (Ad st o.dst p ro H):=by
 unfold yV at h
 split at h
 ·exact h.elim
 ·rename_i hc
  refine⟨hc,?_⟩
  split at h
  ·rename_i f args tys ho
   have:=UX (H:=st.boxes) h
   unfold Tu
   simp only[ho]
   unfold Ir at this ⊢
   split at this
   ·rcases this with⟨k1,r,ro,k2,_,sc',k3⟩|⟨ρ,argsC,Hc,rc,ro,Hc',H',r,k1,k2,k3,k4,k5,k6,k7,k8,k9,rfl,sc',k10⟩
    ·rw[wg]at k3;exact .inl ⟨k1,r,ro,k2,sc',k3⟩
    ·rw[wg]at k10;exact .inr ⟨ρ,argsC,Hc,rc,ro,Hc',_,r,k1,k2,k3,k4,k5,k6,k7,k8,k9,sc',k10⟩
   ·exact this.elim
  ·rename_i t ho
   split at h
   ·rename_i zs sc'
    obtain⟨h1,h2⟩:=h
    simp only[bk,bU,wg]at h2
    rw[ho]
    exact Gf (by simp) (by simp only[uo,h1,vam]) ⟨sc',h2⟩
   ·exact h.elim
  ·rename_i t x ho
   rw[cC]at h
   split at h
   ·rename_i cs sc'
    obtain⟨h1,h2⟩:=h
    simp only[bU,wg]at h2
    rw[ho]
    exact Gf (by simp) (by simp only[uo,h1,vam]) ⟨sc',h2⟩
   ·exact h.elim
  ·rename_i t ho
   simp only[bU,wg]at h
   rw[ho]
   exact Gf (by simp) (by simp only[uo]) ⟨_,h⟩
  ·rename_i n1 n2 n3 n4
   obtain⟨p,H',sc',k1,k2,_⟩:=Mn (id:=id) h
   rw[wg]at k2
   exact Gf (fun f args tys e=>n1 f args tys e) k1 ⟨sc',k2⟩
theorem Cm{o:Oper}{id:Nat}{sc:List It}{st:aA}{K:List It->aA->Prop}(h:P1 P GE A o id sc st K):Mz P GE A o id (fun st'=>∃sc',K sc' st') st:=by
 unfold P1 at h
 unfold Mz
 split at h
 case h_1 t d ho hd=>
  obtain⟨h1,h2⟩:=rv h
  simp only[iX,bU,bk]at h2
  simp only[ho,hd]
  exact⟨h1,_,h2⟩
 case h_2 t d ho hd=>
  simp only[ho,hd]
  split at h
  ·rename_i hA
   obtain⟨h1,h2⟩:=rv h
   simp only[iX,bU,bk]at h2
   rw[vad (by simpa using hA)]
   exact⟨h1,_,h2⟩
  ·rename_i hA
   rw[vae (by simpa using hA)]
   have:=lB h
   rw[ho,hd]at this
   exact this
 case h_3 v d ho hd=>
  simp only[ho,hd]
  split at h
  ·rename_i e he
   obtain⟨h1,h2⟩:=rv h
   simp only[bU,bk]at h2
   simp only[he]
   exact⟨h1,_,h2⟩
  ·rename_i he
   simp only[he]
   have:=lB h
   rw[ho,hd]at this
   exact this
 case h_4 v d ho hd=>
  simp only[ho,hd]
  split at h
  ·rename_i e he
   obtain⟨h1,h2⟩:=rv h
   simp only[bU,bk]at h2
   simp only[he]
   exact⟨h1,_,h2⟩
  ·rename_i he
   simp only[he]
   have:=lB h
   rw[ho,hd]at this
   exact this
 case h_5 t i d ho hd=>
  obtain⟨h1,h2⟩:=rv h
  rw[iX]at h2
  obtain⟨p,h3,h4⟩:=yY h2
  simp only[bU,bk]at h4
  simp only[ho,hd,h3]
  exact⟨h1,_,h4⟩
 case h_6 T len parts d ho hd=>
  obtain⟨h1,h2⟩:=rv h
  rw[qo]at h2
  split at h2
  ·rename_i p sc' e hu
   obtain⟨h3,h4⟩:=h2
   simp only[bU,bk]at h4
   simp only[ho,hd,h3,hu]
   exact⟨h1,_,h4⟩
  ·exact h2.elim
 case h_7 t y T T' d ho hd=>
  obtain⟨h1,h2⟩:=rv h
  rw[iX,cC]at h2
  split at h2
  ·rename_i es ns p sc' e he hn hu
   split at h2
   ·rename_i hc
    simp only[vaj,vao]at hc
    obtain⟨h3,h4⟩:=h2
    simp only[bU,bk]at h4
    simp only[ho,hd,hu,he,hn,h3]
    exact⟨hc.1,h1,hc.2,_,h4⟩
   ·exact h2.elim
  ·exact h2.elim
 case h_8 T x d ho hd=>
  simp only[ho,hd]
  split at h
  ·rename_i hA
   obtain⟨h1,h2⟩:=rv h
   rw[cC]at h2
   rw[vad (by simpa using hA)]
   split at h2
   ·rename_i i off e hx hu
    obtain⟨B,hB,h2⟩:=eB h2
    split at h2
    ·rename_i cs own
     split at h2
     ·rename_i hc
      simp only[vaj,vao]at hc
      simp only[iX,bU,bk]at h2
      have hget:cs[off]? =some (cs.getD off .undef):=by
       rw[vac,vab hc.2];rfl
      simp only[hx,hu,hB,hget]
      exact⟨h1,hc.1,_,h2⟩
     ·exact h2.elim
    ·exact h2.elim
   ·exact h2.elim
  ·rename_i hA
   rw[vae (by simpa using hA)]
   have:=lB h
   rw[ho,hd]at this
   exact this
 case h_9 T x t ho=>
  simp only[ho]
  split at h
  ·rename_i y e hf
   rw[cC,iX]at h
   simp only[hf]
   unfold P0 at h
   split at h
   ·rename_i i off hx
    split at h
    ·rename_i H hst
     obtain⟨B,hB,h⟩:=eB h
     split at h
     ·rename_i cs own
      split at h
      ·rename_i hone
       simp only[bU,bk,wg]at h
       simp only[hx,hst,hB,hone]
       exact⟨_,h⟩
      ·exact h.elim
     ·exact h.elim
    ·exact h.elim
   ·exact h.elim
  ·rename_i hf
   simp only[hf]
   have:=lB h
   rw[ho]at this
   exact this
 case h_10=>
  have:=lB h
  split
  all_goals first
   |exact this
   |(exfalso;simp_all;done)
   |(exfalso;simp_all;rename_i hx h1 h2;exact hx _ _ _ _ rfl rfl rfl rfl)
   |(exfalso;simp_all;rename_i hx h1 h2;exact hx _ _ _ _ _ rfl rfl rfl rfl rfl)
   |(exfalso;simp_all;rename_i hx h1 h2;exact hx _ _ _ rfl rfl rfl)
theorem G7{j:Nat}{want:Bool}{pos:Nat}{sc:List It}{st:aA}{go:Bool->List It->aA->Prop}(h:Od ops j want pos sc st go):∃x,xP ops st.tmps j=some x/\((x=some want/\∃sc',go true sc' st)\/(x≠some want/\∃sc',go false sc' st)):=by
 unfold Od at h
 split at h
 ·exact h.elim
 ·rename_i t ht
  rw[iX]at h
  have hget:∀{p},st.tmps.getD t .undef=p->p≠.undef->st.tmps[t]? =some p:=by
   intro p hp hne
   rw[vac]at hp
   cases hx:st.tmps[t]? with
   |none=>rw[hx]at hp;exact absurd hp.symm hne
   |some q=>rw[hx]at hp;exact va9 some hp
  have hfin:∀(x:Bool) sc',go (x==want) sc' st->(some x=some want/\∃sc',go true sc' st)\/(some x≠some want/\∃sc',go false sc' st):=by
   intro x sc' hg
   cases x<;>cases want<;>simp at hg ⊢<;>exact⟨sc',hg⟩
  split at h
  ·rename_i x hp
   have hx:=hget hp (by simp)
   have hg:xP ops st.tmps j=some (some x):=by unfold xP;simp only[ht,hx]
   refine⟨_,hg,?_⟩
   split at h
   ·rename_i pos' b sc'
    split at h
    ·obtain⟨rfl,h⟩:=h
     rw[bU,KB hx]at h
     exact hfin x sc' h
    ·exact hfin x _ h
   ·exact hfin x _ h
  ·rename_i v hp
   have hx:=hget hp (by simp)
   split at h
   ·exact h.elim
   ·rename_i hb
    refine⟨none,?_,.inr ⟨by simp,_,h⟩⟩
    unfold xP
    simp only[ht,hx]
    cases v<;>simp[qkW]at hb<;>rfl
  ·exact h.elim
theorem Sc{o:Oper}{id:Nat}{sc:List It}{st:aA}{K:List It->aA->Prop}(h:Of P GE A o id sc st K):Fk P GE A o id (fun st'=>∃sc',K sc' st') st:=by
 unfold Of at h
 split at h
 ·rename_i T parts p L sc' ho
  split at h
  ·rename_i d hd
   obtain⟨h1,h2⟩:=rv h
   rw[qo]at h2
   obtain⟨h3,h4,h5⟩:=h2
   simp only[bU,bk]at h5
   refine .inr (.inl ?_)
   unfold QX
   simp only[ho,hd]
   exact⟨p,L,h3,h4,h1,sc',h5⟩
  ·exact h.elim
 ·rename_i T x t vs sc' ho
  rw[iX]at h
  split at h
  ·rename_i l hl
   split at h
   ·rename_i hd
    rw[cC]at h
    split at h
    ·rename_i i off hx
     rw[bk]at h
     obtain⟨rfl,h⟩:=h
     obtain⟨B,hB,h⟩:=eB h
     split at h
     ·rename_i cs own
      split at h
      ·rename_i hc
       simp only[bU,bk]at h
       simp only[vaj,vao]at hc
       obtain⟨⟨⟨⟨c1,c2⟩,c3⟩,c4⟩,c5⟩:=hc
       refine .inr (.inl ?_)
       unfold QX
       simp only[ho,hd]
       have hi:=av hB
       refine⟨i,off,st.boxes.set i (.cells (cs.take off++l++cs.drop (off+l.length)) (own.filter fun y=>y.1<off||off+l.length<=y.1)),_,_,Tt t st.own,l,hx,hl,?_,van hi,fun y hy=>LP hy,qn c1,sc',?_⟩
       ·simp only[eh,bK,hB]
        rw[vad ⟨c2,c3,c4,c5⟩]
       ·rw[vbV];exact h
      ·exact h.elim
     ·exact h.elim
    ·exact h.elim
   ·exact h.elim
  ·exact .inl (Cm h)
 ·rename_i T x l sc' ho
  split at h
  ·rename_i fs hT
   split at h
   ·rename_i d hd
    obtain⟨h1,h⟩:=rv h
    rw[cC]at h
    split at h
    ·rename_i i off hx
     obtain⟨B,hB,h⟩:=eB h
     split at h
     ·rename_i cs own
      obtain⟨h2,h⟩:=h
      rw[bk]at h
      split at h
      ·rename_i hn
       simp only[bU,bk]at h
       refine .inr (.inl ?_)
       unfold QX
       simp only[ho,hd]
       have hlen:l.length=P.cellsOf T:=by
        have hp:=h2
        unfold bm at hp
        rw[hT]at hp
        simp only at hp
        split at hp
        ·rename_i hh;cases hp;rw[vaO];omega
        ·cases hp
       exact⟨i,off,cs,own,_,l,⟨fs,hT⟩,hx,hB,h2,fun y hy=>(Ge hy).1,qn hn,fun y hy=>by rw[hlen];exact(Ge hy).2,h1,sc',h⟩
      ·exact h.elim
     ·exact h.elim
    ·exact h.elim
   ·exact h.elim
  ·exact .inl (Cm h)
 ·rename_i T x vs sc' ho
  split at h
  ·rename_i d hd
   obtain⟨h1,h⟩:=rv h
   rw[cC]at h
   obtain⟨h2,h⟩:=h
   simp only[bU,bk]at h
   refine .inr (.inl ?_)
   unfold QX
   simp only[ho,hd]
   exact⟨vs,h2,h1,sc',h⟩
  ·exact h.elim
 ·rename_i f args tys c sc' ho
  split at h
  ·rename_i d hd
   obtain⟨h1,h⟩:=rv h
   obtain⟨H',h2,h3⟩:=G6 h
   simp only[bU,bk]at h3
   refine .inr (.inl ?_)
   unfold QX
   simp only[ho,hd]
   exact⟨c.r,c.ro,H',c.oa,h2,h1,sc',h3⟩
  ·exact h.elim
 ·rename_i t y T T' i e n cs sc' ho
  split at h
  ·rename_i d hd
   have hh:=rv h
   clear h
   obtain⟨h1,h⟩:=hh
   rw[iX,cC]at h
   split at h
   ·rename_i ns he hn
    split at h
    ·rename_i hc
     simp only[vaj,vao]at hc
     obtain⟨⟨rfl,c2⟩,rfl⟩:=hc
     obtain⟨h2,⟨p,h3⟩,⟨rfl,rfl⟩,h4⟩:=h
     simp only[bU,bk,UI,bk]at h4
     refine .inr (.inr ?_)
     unfold Y8
     simp only[ho,hd]
     exact⟨e,ns,p,trivial,h2,he,hn,h3,c2,h1,sc',h4⟩
    ·exact h.elim
   ·exact h.elim
  ·exact h.elim
 ·rename_i f x tys i e n cs sc' ho
  split at h
  ·rename_i d hd
   have hh:=rv h
   clear h
   obtain⟨h1,h⟩:=hh
   rw[cC,cC]at h
   split at h
   ·rename_i g ns hg hn
    split at h
    ·rename_i hc
     simp only[vao]at hc
     subst hc
     obtain⟨h2,⟨h3,h4,h5⟩,⟨rfl,rfl⟩,h6⟩:=h
     simp only[bU,bk,UI,bk]at h6
     refine .inr (.inr ?_)
     unfold Y8
     simp only[ho,hd]
     exact⟨g,e,ns,hg,h2,hn,h3,h4,h5,h1,sc',h6⟩
    ·exact h.elim
   ·exact h.elim
  ·exact h.elim
 ·rename_i T x v i0 e n0 cs0 sc' ho
  split at h
  ·rename_i hd hv
   have hv':v=.slice none 0 0:=by
    unfold mQ at hv
    split at hv
    ·rfl
    ·cases hv
   subst hv'
   rw[cC,cC]at h
   split at h
   ·rename_i i off vs hx hpc
    obtain⟨B,hB,h⟩:=eB h
    split at h
    ·rename_i cs own
     split at h
     ·rename_i hc
      simp only[bU,bk]at h
      simp only[vaj,vao]at hc
      obtain⟨⟨⟨c2,c3⟩,c4⟩,c5⟩:=hc
      refine .inr (.inr ?_)
      unfold Y8
      simp only[ho,hd]
      have hi:=av hB
      refine⟨i,off,e,st.boxes.set i (.cells (cs.take off++vs++cs.drop (off+vs.length)) (own.filter fun y=>y.1<off||off+vs.length<=y.1)),_,_,trivial,hx,?_,van hi,sc',?_⟩
      ·simp only[eh,hpc,hB]
       rw[vad ⟨c2,c3,c4,c5⟩]
      ·rw[vbV];exact h
     ·exact h.elim
    ·exact h.elim
   ·exact h.elim
  ·exact h.elim
 ·exact .inl (Cm h)
theorem Fl{o:Oper}{id:Nat}{K K':aA->Prop}{st:aA}(hk:∀st,K st->K' st)(h:Fk P GE A o id K st):Fk P GE A o id K' st:=by
 rcases h with h|h|h
 ·exact .inl (Zb hk h)
 rotate_left
 ·refine .inr (.inr ?_)
  unfold Y8 at *
  split at h
  ·obtain⟨e,ns,p,h1,h2,h3,h4,h5,h6,h7,h8⟩:=h;exact⟨e,ns,p,h1,h2,h3,h4,h5,h6,h7,hk _ h8⟩
  ·obtain⟨g,e,ns,h1,h2,h3,h4,h5,h6,h7,h8⟩:=h;exact⟨g,e,ns,h1,h2,h3,h4,h5,h6,h7,hk _ h8⟩
  ·obtain⟨i,off,e,H,cs,own,h1,h2,h3,h4,h5⟩:=h;exact⟨i,off,e,H,cs,own,h1,h2,h3,h4,hk _ h5⟩
  ·exact h
 ·refine .inr (.inl ?_)
  unfold QX at *
  split at h
  ·obtain⟨p,L,h1,h2,h3,h4⟩:=h;exact⟨p,L,h1,h2,h3,hk _ h4⟩
  ·obtain⟨i,off,H,cs,own,L,l,h1,h2,h3,h4,h5,h6,h7⟩:=h;exact⟨i,off,H,cs,own,L,l,h1,h2,h3,h4,h5,h6,hk _ h7⟩
  ·obtain⟨i,off,cs,own,L,l,h0,h1,h2,h3,h4,h5,h6,h7,h8⟩:=h;exact⟨i,off,cs,own,L,l,h0,h1,h2,h3,h4,h5,h6,h7,hk _ h8⟩
  ·obtain⟨vs,h1,h2,h3⟩:=h;exact⟨vs,h1,h2,hk _ h3⟩
  ·obtain⟨r,ro,H',oa,h1,h2,h3⟩:=h;exact⟨r,ro,H',oa,h1,h2,hk _ h3⟩
  ·exact h
theorem Cl{K:List It->aA->Prop}:∀(rest:List Oper) (pos id:Nat) (sc:List It) (st:aA),PZ P GE A ops K rest pos id sc st->dJ P GE A ops (fun st=>∃sc,K sc st) rest id st
 |[],_,_,sc,st,h=>⟨sc,h⟩
 | o :: rest,pos,id,sc,st,h => by
  simp only[PZ]at h
  have step:∀sc st,Of P GE A o id sc st (fun sc' st'=>PZ P GE A ops K rest (pos+1) (id+if aS o.op then 1 else 0) sc' st')->Fk P GE A o id (dJ P GE A ops (fun st=>∃sc,K sc st) rest (id+if aS o.op then 1 else 0)) st:=
   fun sc st hs=>Fl (fun st' hx=>by obtain⟨sc',hx⟩:=hx;exact Cl rest _ _ sc' st' hx) (Sc hs)
  unfold dJ
  split at h
  ·rename_i hg;simp only[hg];exact step _ _ h
  ·rename_i j want hg
   obtain⟨x,hx,hc⟩:=G7 h
   simp only[hg,hx]
   rcases hc with⟨rfl,sc',hc⟩|⟨hne,sc',hc⟩
   ·exact⟨fun _=>step _ _ hc,fun hn=>absurd rfl hn⟩
   ·refine⟨fun he=>absurd he hne,fun _=>?_⟩
    simp only[wg]at hc
    exact Cl rest _ _ sc' _ hc
end
abbrev Rs:=Bool×Nat×Nat
abbrev qes:=Bool×(Nat×Nat)×TypeId
def eE(τ:qes):Rs:=match τ.1 with
 |false=>(false,τ.2.1.1,0)
 |true=>(true,τ.2.1.1,τ.2.1.2)
def qv(st:aA)(τ:qes):Prop:=match τ.1 with
 |false=>(τ.2.1,τ.2.2)∈st.own
 |true=>∃cs own,st.boxes[τ.2.1.1]? =some (.cells cs own)/\(τ.2.1.2,τ.2.2)∈own
def cD:aN->aN
 |.cells cs _=>.cells cs []
 |B=>B
theorem qa1{H H2:List aN}(h:H2.map cD=H.map cD)(i:Nat):(H2[i]?).map cD=(H[i]?).map cD:=by
 have:=va9 (fun l=>l[i]?) h
 simpa[vaB]using this
theorem Cp{H H2:List aN}(h:H2.map cD=H.map cD){i:Nat}{cs:List PVal}{own:List (Nat×TypeId)}(hi:H[i]? =some (.cells cs own)):∃own2,H2[i]? =some (.cells cs own2):=by
 have:=qa1 h i
 rw[hi]at this
 cases hB:H2[i]? with
 |none=>rw[hB]at this;cases this
 |some B=>
  rw[hB]at this
  cases B<;>simp[cD]at this
  subst this
  exact⟨_,rfl⟩
section
variable{P:Program}{GE:List (Nat×List PVal)}
theorem Xv{t:TypeId}{x:PVal}{H H2:List aN}(h:H2.map cD=H.map cD):nH P t x H2=nH P t x H:=by
 unfold nH
 split
 ·rfl
 ·rename_i i off
  have hi:=qa1 h i
  generalize H2[i]? =o at hi
  generalize H[i]? =o' at hi
  rcases o with _|(_|_|_)<;>rcases o' with _|(_|_|_)<;>simp[cD]at hi ⊢
  subst hi;rfl
 ·rfl
theorem Y7{t:TypeId}{x:PVal}{H H2:List aN}(h:H2.map cD=H.map cD):Fd P t x H2=Fd P t x H:=by
 unfold Fd
 split<;>first|rfl|skip
 rename_i i _
 have hi:=qa1 h i
 generalize H2[i]? =o at hi
 generalize H[i]? =o' at hi
 rcases o with _|(_|_|_)<;>rcases o' with _|(_|_|_)<;>simp[cD]at hi ⊢
 subst hi;rfl
theorem SE{t:TypeId}{m k:PVal}{ok:Bool}{H H2:List aN}(h:H2.map cD=H.map cD):y5 P t m k ok H2=y5 P t m k ok H:=by
 unfold y5
 split
 ·rename_i kt e i _
  have hi:=qa1 h i
  generalize H2[i]? =o at hi
  generalize H[i]? =o' at hi
  rcases o with _|(_|_|_)<;>rcases o' with _|(_|_|_)<;>simp[cD]at hi ⊢
  subst hi;rfl
 ·rfl
theorem qgV{op:Op}{id:Nat}{v:Operand->PVal}{H H2:List aN}{p:PVal}(hc:cJ P op≠3)(hm:aS op=false)(h:uo P op id v H=some (p,H))(h2:2<=cJ P op->H2.map cD=H.map cD):uo P op id v H2=some (p,H2):=by
 by_cases hlt:cJ P op<2
 ·exact qe8 hlt hm h H2
 ·have hs:=h2 (by omega)
  have key:∀{q q':Option PVal},q'=q->(q.map fun p=>(p,H))=some (p,H)->(q'.map fun p=>(p,H2))=some (p,H2):=by
   intro q q' e hq
   obtain⟨z,hz,he⟩:=eD hq
   cases he
   rw[e,hz];rfl
  unfold uo at h ⊢
  split at h
  all_goals first
   |(cases h;done)
   |(simp[cJ]at hlt;done)
   |(simp[cJ]at hc;done)
   |(simp[aS]at hm;done)
   |exact key (Xv hs) h
   |exact key (SE hs) h
   |exact key (Y7 hs) h
def bv(P:Program):Op->Nat
 |.call {callee:=.value _,..}=>0
 |op=>cJ P op
theorem JE{op:Op}(h:∀f args tys,op≠.call {callee:=.value f,args,argTypes:=tys}):bv P op=cJ P op:=by
 unfold bv
 split
 ·exact absurd rfl (h _ _ _)
 ·rfl
def Tl:Op->Bool
 |.call {callee:=.value _,..}=>true
 |_=>false
def CG(i off n:Nat):List Rs:=(List.range n).map fun k=>(true,i,off+k)
def Ig(t:Nat):Operand->Bool
 |.tmp t'=>t'==t
 |_=>false
theorem Tk{t:Nat}{x:Operand}(h:Ig t x=true):x=.tmp t:=by
 cases x<;>simp[Ig]at h
 rw[h]
def XG(GE:List (Nat×List PVal))(tmps:List PVal)(parts:List (Nat×Operand))(t:Nat)(q:PVal):List (Nat×PVal):=parts.map fun x=>(x.1,if Ig t x.2=true then q else opv GE tmps x.2)
def qkk(P:Program)(T:TypeId)(F:PVal->List (Nat×PVal))(k:Nat):Prop:=∀(b:Option Addr) (n m:Nat),∃cs,dw P T (F (.val (.slice b n m)))=some (.agg cs)/\cs[k]? =some (.val (.slice b n m))
inductive iw(P:Program)(GE:List (Nat×List PVal))(bi:Option (Nat×aN))(rw:List Nat)(o:Oper)(id:Nat)(s:aA):aA->List Rs->Prop where
 | call (d:Nat) (f:Operand) (args:Array Operand) (tys:Array TypeId) (g:FuncId) (first cap:List PVal) (r:PVal) (ro:List (Nat×TypeId)) (ho:o.op = .call { callee := .value f,args,argTypes:=tys }) (hd:o.dst = some d)
   (hf:opv GE s.tmps f=.func (.func g) first cap) (hcl:iy 0 (first++args.toList.map (opv GE s.tmps)++cap)) (hc:C P GE g (first++args.toList.map (opv GE s.tmps)++cap) [] [] r ro []):
   iw P GE bi rw o id s ⟨s.tmps.set d r,s.boxes,(ro.map fun x=>((d,x.1),x.2))++cx d s.own⟩ [(false,d,0)]
 |alloc (d:Nat) (t:TypeId) (zs:List PVal) (ho:o.op=.alloc t) (hd:o.dst=some d) (hz:kb P t=some zs):iw P GE bi rw o id s ⟨s.tmps.set d (.bptr id 0),s.boxes,cx d s.own⟩ [(false,d,0)]
 |mkmap (d:Nat) (t:TypeId) (ho:o.op=.makeMap t none) (hd:o.dst=some d):iw P GE bi rw o id s ⟨s.tmps.set d (.mapr id),s.boxes,cx d s.own⟩ [(false,d,0)]
 | ev (d:Nat) (p:PVal) (hd:o.dst = some d) (hn:Tl o.op = false) (hm:aS o.op = false) (hc:cJ P o.op ≠ 3) (h:uo P o.op id (opv GE s.tmps) s.boxes = some (p,s.boxes)) :
   iw P GE bi rw o id s ⟨s.tmps.set d p,s.boxes,cx d s.own⟩ [(false,d,0)]
 | res (d:Nat) (p:PVal) (L:List (Nat×TypeId)) (hd:o.dst = some d)
   (h:(∃T len parts e,o.op=.buildSlice T len parts/\gd P T len (parts.toList.map fun x=>(x.1,opv GE s.tmps x.2))=some p/\P.underlying T=some (.slice e)/\L=[(0,e)])\/
    (∃T parts,o.op=.build T parts/\dw P T (parts.toList.map fun x=>(x.1,opv GE s.tmps x.2))=some p/\rZ P T (parts.toList.map fun x=>(x.1,opv GE s.tmps x.2)) L)\/
    (∃v e,(o.op=.assign (.const v)\/o.op=.move (.const v))/\v8 P o.type v=some e/\p=.slice []/\L=[(0,e)])):
   iw P GE bi rw o id s ⟨s.tmps.set d p,s.boxes,(L.map fun x=>((d,x.1),x.2))++cx d s.own⟩ [(false,d,0)]
 | app (d t:Nat) (T e:TypeId) (y:Operand) (es ns:List (List PVal)) (p:PVal) (hd:o.dst = some d) (ho:o.op = .call { callee := .builtin .append,args:=⟨[.tmp t,y]⟩,argTypes:=⟨[T,T]⟩ })
   (hT:P.underlying T=some (.slice e)) (he:s.tmps.getD t .undef=.slice es) (hn:opv GE s.tmps y=.slice ns) (hp:lW P T es ns=some p) (hm:((t,0),e)∈s.own):
   iw P GE bi rw o id s ⟨s.tmps.set d p,s.boxes,((d,0),e)::cx d (s.own.filter fun x=>x.1 !=(t,0))⟩ [(false,d,0),(false,t,0)]
 | mv (d t:Nat) (hd:o.dst = some d) (ho:o.op = .assign (.tmp t)∨o.op = .move (.tmp t)) (hdt:d ≠ t) :
   iw P GE bi rw o id s ⟨s.tmps.set d (s.tmps.getD t .undef),s.boxes,jq d (fun x=>if x.1=t then(d,x.2)else x) s.own⟩ [(false,d,0),(false,t,0)]
 | bmv (d t k:Nat) (T:TypeId) (parts:Array (Nat×Operand)) (p:PVal) (es:List (List PVal)) (hd:o.dst = some d) (ho:o.op = .build T parts) (hdt:d ≠ t) (ht:s.tmps.getD t .undef = .slice es) (hin:(parts.toList.any fun x => Ig t x.2) = true)
   (hp:dw P T (parts.toList.map fun x=>(x.1,opv GE s.tmps x.2))=some p) (hm:qkk P T (XG GE s.tmps parts.toList t) k):
   iw P GE bi rw o id s ⟨s.tmps.set d p,s.boxes,jq d (fun x=>if x=(t,0)then(d,k)else x) s.own⟩ [(false,d,0),(false,t,0)]
 | ld (d:Nat) (T:TypeId) (x:Operand) (i off:Nat) (cs:List PVal) (own L:List (Nat×TypeId)) (p:PVal) (hd:o.dst = some d) (ho:o.op = .load T x) (hx:opv GE s.tmps x = .bptr i off) (hB:s.boxes[i]? = some (.cells cs own))
   (h:(∃e,P.underlying T=some (.slice e)/\cs[off]? =some p/\L=[(0,e)])\/(∃fs l,P.underlying T=some (.struct fs)/\bm P T (cs.drop off)=some (.agg l)/\p=.agg l/\(L.map (·.1)).Nodup/\∀y∈L,y.1<l.length))
   (hm:∀y∈L,(off+y.1,y.2)∈own):
   iw P GE bi rw o id s ⟨s.tmps.set d p,s.boxes.set i (.cells cs (own.filter fun x=>!L.any fun y=>x.1==off+y.1)),(L.map fun y=>((d,y.1),y.2)).reverse++cx d s.own⟩ ((false,d,0)::L.map fun y=>(true,i,off+y.1))
 | st (T:TypeId) (x y:Operand) (i off:Nat) (vs cs:List PVal) (own:List (Nat×TypeId)) (hd:o.dst = none) (ho:o.op = .store T x y) (hx:opv GE s.tmps x = .bptr i off) (hvs:bK (opv GE s.tmps y) = some vs) (hB:s.boxes[i]? = some (.cells cs own))
   (hp:eh P T (.bptr i off) (opv GE s.tmps y) s.boxes=some (s.boxes.set i (.cells (cs.take off++vs++cs.drop (off+vs.length)) (own.filter fun y=>y.1<off||off+vs.length<=y.1)))):
   iw P GE bi rw o id s ⟨s.tmps,s.boxes.set i (.cells (cs.take off++vs++cs.drop (off+vs.length)) (own.filter fun y=>y.1<off||off+vs.length<=y.1)),s.own⟩ (CG i off vs.length)
 | sto (T:TypeId) (x:Operand) (t i off:Nat) (vs cs:List PVal) (own L:List (Nat×TypeId)) (hd:o.dst = none) (ho:o.op = .store T x (.tmp t)) (hx:opv GE s.tmps x = .bptr i off) (hvs:bK (s.tmps.getD t .undef) = some vs) (hB:s.boxes[i]? = some (.cells cs own))
   (hp:eh P T (.bptr i off) (s.tmps.getD t .undef) s.boxes=some (s.boxes.set i (.cells (cs.take off++vs++cs.drop (off+vs.length)) (own.filter fun y=>y.1<off||off+vs.length<=y.1))))
   (hk:(∃l,s.tmps.getD t .undef=.agg l)\/((s.tmps.getD t .undef).one=true/\∃e,L=[(0,e)])) (hm:∀y∈L,((t,y.1),y.2)∈s.own) (hn:(L.map (·.1)).Nodup) (hl:∀y∈L,y.1<vs.length):
   iw P GE bi rw o id s ⟨s.tmps,s.boxes.set i (.cells (cs.take off++vs++cs.drop (off+vs.length)) ((L.map fun y=>(off+y.1,y.2)).reverse++own.filter fun y=>y.1<off||off+vs.length<=y.1)),s.own.filter fun x=>!L.any fun y=>x.1==(t,y.1)⟩
    ((false,t,0)::CG i off vs.length)
 |mu (t:TypeId) (m k x:Operand) (H:List aN) (hd:o.dst=none) (ho:o.op=.mapUpdate t m k x) (hp:io P t (opv GE s.tmps m) (opv GE s.tmps k) (opv GE s.tmps x) s.boxes=some H):iw P GE bi rw o id s ⟨s.tmps,H,s.own⟩ []
 | callR (d:Nat) (f:Operand) (args:Array Operand) (tys:Array TypeId) (r:PVal) (ro:List (Nat×TypeId)) (oa:List OA) (ho:o.op = .call { callee := .value f,args,argTypes:=tys }) (hd:o.dst = some d)
   (hg:∀st:aA,(∀x,x=f\/x∈args.toList->opv GE s.tmps x=opv GE st.tmps x)->(∀x∈oa,((x.t,x.k),x.e)∈s.own->((x.t,x.k),x.e)∈st.own)->Wb P GE f args.toList st r ro st.boxes oa):
   iw P GE bi rw o id s ⟨s.tmps.set d r,s.boxes,(ro.map fun x=>((d,x.1),x.2))++cx d (s.own.filter fun z=>!oa.any fun x=>z.1==(x.t,x.k))⟩ ((false,d,0)::oa.map fun x=>(false,x.t,0))
 | cl (d i:Nat) (f x:Operand) (tys:Array TypeId) (g:FuncId) (e:TypeId) (es:List (List PVal)) (ho:o.op = .call { callee := .value f,args:=⟨[x]⟩,argTypes:=tys }) (hd:o.dst = some d) (hb:bi = some (i,.cells es.flatten []))
   (hf:opv GE s.tmps f=.func (.func g) [] []) (hx:opv GE s.tmps x=.slice es) (hC:nJ P g e) (h0:0<P.cellsOf e) (h1:∀x∈es,x.length=P.cellsOf e/\∀q∈x,q.one=true) (h2:es.length<=eY):
   iw P GE bi rw o id s ⟨s.tmps.set d (.bsl i 0 es.length),s.boxes,cx d s.own⟩ [(false,d,0)]
 | stR (T:TypeId) (x y:Operand) (i off:Nat) (cs cs':List PVal) (hd:o.dst = none) (ho:o.op = .store T x y) (hx:opv GE s.tmps x = .bptr i off) (hB:s.boxes[i]? = some (.cells cs []))
   (hp:eh P T (.bptr 0 off) (opv GE s.tmps y) [.cells cs []]=some [.cells cs' []]) (hi:i∈rw):
   iw P GE bi rw o id s ⟨s.tmps,s.boxes.set i (.cells cs' []),s.own⟩ []
structure qgi(P:Program)(o:Oper)(s s':aA)(rs:List Rs):Prop where
 tm:match o.dst with
  |some d=>∃p,s'.tmps=s.tmps.set d p
  |none=>s'.tmps=s.tmps
 bx:bv P o.op≠3->s'.boxes.map cD=s.boxes.map cD
 back:∀τ,eE τ∉rs->qv s' τ->qv s τ
theorem TR{H:List aN}{i:Nat}{cs:List PVal}{own own':List (Nat×TypeId)}(hB:H[i]? =some (.cells cs own)):(H.set i (.cells cs own')).map cD=H.map cD:=by
 apply vbn
 intro j
 simp only[vaB]
 by_cases hj:i=j
 ·subst hj
  rw[van (av hB),hB];rfl
 ·rw[vas hj]
theorem dI{st:aA}{t k:Nat}{e:TypeId}:qv st (false,(t,k),e)↔((t,k),e)∈st.own:=Iff.rfl
theorem gL{st:aA}{i j:Nat}{e:TypeId}:qv st (true,(i,j),e)↔∃cs own,st.boxes[i]? =some (.cells cs own)/\(j,e)∈own:=Iff.rfl
theorem uq{i off n i' j':Nat}:(true,i',j')∈CG i off n↔i'=i/\off<=j'/\j'<off+n:=by
 unfold CG
 simp only[vaq,vbt,Prod.mk.injEq,vcE]
 constructor
 ·rintro⟨k,hk,rfl,rfl⟩;exact⟨rfl,by omega,by omega⟩
 ·rintro⟨rfl,h1,h2⟩;exact⟨j' - off,by omega,rfl,by omega⟩
theorem il{d:Nat}{own:List ((Nat×Nat)×TypeId)}{x:(Nat×Nat)×TypeId}(h:x∈own)(hd:x.1.1≠d):x∈cx d own:=by
 unfold cx;exact vaR.2 ⟨h,by simpa using hd⟩
theorem Ff{t:TypeId}{m k v:PVal}{H H':List aN}(h:io P t m k v H=some H'):∃i es es',H[i]? =some (.map es)/\H'=H.set i (.map es'):=by
 unfold io at h
 split at h
 ·rename_i kt e i _ _
  split at h
  ·rename_i es kd hB _
   split at h
   ·split at h
    ·cases h;exact⟨_,es,_,hB,rfl⟩
    ·cases h;exact⟨_,es,_,hB,rfl⟩
    ·cases h
   ·cases h
  ·cases h
 ·cases h
theorem gV{st:aA}{tm:List PVal}{ow:List ((Nat×Nat)×TypeId)}{i:Nat}{B:aN}{i' j':Nat}{e:TypeId}(hne:i≠i'):qv ⟨tm,st.boxes.set i B,ow⟩ (true,(i',j'),e)↔qv st (true,(i',j'),e):=by
 simp only[gL,vas hne]
theorem iw.eff{bi:Option (Nat×aN)}{rw:List Nat}{o:Oper}{id:Nat}{s s':aA}{rs:List Rs}(h:iw P GE bi rw o id s s' rs):qgi P o s s' rs:=by
 have slot:∀{d:Nat} {p:PVal} {L:List (Nat×TypeId)} {rs:List Rs} {τ:qes},(false,d,0)∈rs->eE τ∉rs->qv ⟨s.tmps.set d p,s.boxes,(L.map fun x=>((d,x.1),x.2))++cx d s.own⟩ τ->qv s τ:=by
  rintro d p L rs ⟨b,⟨t,k⟩,e⟩ hd hr hh
  cases b with
  |true=>exact hh
  | false =>
   rcases vaE.1 (dI.1 hh)with hh|hh
   ·simp only[vaq,Prod.mk.injEq]at hh
    obtain⟨x,_,⟨rfl,_⟩,_⟩:=hh
    exact absurd hd hr
   ·exact(eN hh).1
 have slot0:∀{d:Nat} {p:PVal} {rs:List Rs} {τ:qes},(false,d,0)∈rs->eE τ∉rs->qv ⟨s.tmps.set d p,s.boxes,cx d s.own⟩ τ->qv s τ:=fun{d p rs τ} hd hr hh=>slot (L:=[]) hd hr hh
 cases h with
 |call d f args tys g first cap r ro ho hd hf hcl hc=>exact⟨by rw[hd];exact⟨r,rfl⟩,fun _=>rfl,fun τ hr hh=>slot (by simp) hr hh⟩
 |alloc d t zs ho hd hz=>exact⟨by rw[hd];exact⟨_,rfl⟩,fun _=>rfl,fun τ hr hh=>slot0 (by simp) hr hh⟩
 |mkmap d t ho hd=>exact⟨by rw[hd];exact⟨_,rfl⟩,fun _=>rfl,fun τ hr hh=>slot0 (by simp) hr hh⟩
 |ev d p hd hn hm hc h=>exact⟨by rw[hd];exact⟨_,rfl⟩,fun _=>rfl,fun τ hr hh=>slot0 (by simp) hr hh⟩
 |res d p L hd h=>exact⟨by rw[hd];exact⟨_,rfl⟩,fun _=>rfl,fun τ hr hh=>slot (by simp) hr hh⟩
 | app d t T e y es ns p hd ho hT he hn hp hm =>
  refine⟨by rw[hd];exact⟨_,rfl⟩,fun _=>rfl,?_⟩
  rintro⟨b,⟨t',k⟩,e'⟩ hr hh
  cases b with
  |true=>exact hh
  | false =>
   rcases vaw.1 (dI.1 hh)with hh|hh
   ·cases hh;exact absurd (by simp[eE]) hr
   ·exact(cR (eN hh).1).1
 | mv d t hd ho hdt =>
  refine⟨by rw[hd];exact⟨_,rfl⟩,fun _=>rfl,?_⟩
  rintro⟨b,⟨t',k⟩,e'⟩ hr hh
  cases b with
  |true=>exact hh
  | false =>
   have hh:=dI.1 hh
   simp only[jq,vaq]at hh
   obtain⟨⟨⟨t2,k2⟩,e2⟩,hx,he⟩:=hh
   simp only[Prod.mk.injEq]at he
   obtain⟨he,rfl⟩:=he
   split at he
   ·cases he;exact absurd (by simp[eE]) hr
   ·cases he;exact(eN hx).1
 | bmv d t k T parts p es hd ho hdt ht hin hp hm =>
  refine⟨by rw[hd];exact⟨_,rfl⟩,fun _=>rfl,?_⟩
  rintro⟨b,⟨t',k'⟩,e'⟩ hr hh
  cases b with
  |true=>exact hh
  | false =>
   have hh:=dI.1 hh
   simp only[jq,vaq]at hh
   obtain⟨⟨⟨t2,k2⟩,e2⟩,hx,he⟩:=hh
   simp only[Prod.mk.injEq]at he
   obtain⟨he,rfl⟩:=he
   split at he
   ·cases he;exact absurd (by simp[eE]) hr
   ·cases he;exact(eN hx).1
 | ld d T x i off cs own L p hd ho hx hB h hm =>
  refine⟨by rw[hd];exact⟨_,rfl⟩,fun _=>TR hB,?_⟩
  rintro⟨b,⟨t',k⟩,e'⟩ hr hh
  cases b with
  | true =>
   by_cases hi:i=t'
   ·subst hi
    obtain⟨cs',own',h1,h2⟩:=gL.1 hh
    simp only[van (av hB),vav,aN.cells.injEq]at h1
    obtain⟨rfl,rfl⟩:=h1
    exact⟨_,_,hB,(cR h2).1⟩
   ·exact(gV hi).1 hh
  | false =>
   rcases vaE.1 (dI.1 hh)with hh|hh
   ·simp only[vb0,vaq,Prod.mk.injEq]at hh
    obtain⟨y,_,⟨rfl,_⟩,_⟩:=hh
    exact absurd (by simp[eE]) hr
   ·exact(eN hh).1
 | st T x y i off vs cs own hd ho hx hvs hB hp =>
  refine⟨by rw[hd],fun hc=>absurd (by simp[bv,cJ,ho]) hc,?_⟩
  rintro⟨b,⟨t',k⟩,e'⟩ hr hh
  cases b with
  |false=>exact hh
  | true =>
   by_cases hi:i=t'
   ·subst hi
    obtain⟨cs',own',h1,h2⟩:=gL.1 hh
    simp only[van (av hB),vav,aN.cells.injEq]at h1
    obtain⟨rfl,rfl⟩:=h1
    exact⟨_,_,hB,(cR h2).1⟩
   ·exact(gV hi).1 hh
 | sto T x t i off vs cs own L hd ho hx hvs hB hp hk hm hn hl =>
  refine⟨by rw[hd],fun hc=>absurd (by simp[bv,cJ,ho]) hc,?_⟩
  rintro⟨b,⟨t',k⟩,e'⟩ hr hh
  cases b with
  |false=>exact(cR (dI.1 hh)).1
  | true =>
   by_cases hi:i=t'
   ·subst hi
    obtain⟨cs',own',h1,h2⟩:=gL.1 hh
    simp only[van (av hB),vav,aN.cells.injEq]at h1
    obtain⟨rfl,rfl⟩:=h1
    rcases vaE.1 h2 with h2|h2
    ·simp only[vb0,vaq,Prod.mk.injEq]at h2
     obtain⟨y,hy,rfl,_⟩:=h2
     refine absurd (va0 _ (uq.2 ⟨rfl,?_,?_⟩)) hr
     ·simp
     ·have:=hl y hy;simp;omega
    ·exact⟨_,_,hB,(cR h2).1⟩
   ·exact(gV hi).1 hh
 | mu t m k x H hd ho hp =>
  refine⟨by rw[hd],fun hc=>absurd (by simp[bv,cJ,ho]) hc,?_⟩
  obtain⟨i,es,es',hB,rfl⟩:=Ff hp
  rintro⟨b,⟨t',k⟩,e'⟩ hr hh
  cases b with
  |false=>exact hh
  | true =>
   by_cases hi:i=t'
   ·subst hi
    obtain⟨cs',own',h1,h2⟩:=gL.1 hh
    simp only[van (av hB),vav]at h1
    cases h1
   ·exact(gV hi).1 hh
 | callR d f args tys r ro oa ho hd hg =>
  refine⟨by rw[hd];exact⟨r,rfl⟩,fun _=>rfl,?_⟩
  rintro⟨b,⟨t',k⟩,e'⟩ hr hh
  cases b with
  |true=>exact hh
  | false =>
   rcases vaE.1 (dI.1 hh)with hh|hh
   ·simp only[vaq,Prod.mk.injEq]at hh
    obtain⟨x,_,⟨rfl,_⟩,_⟩:=hh
    exact absurd (by simp[eE]) hr
   ·exact(cR (eN hh).1).1
 |cl d i f x tys g e es ho hd hb hf hx hC h0 h1 h2=>exact⟨by rw[hd];exact⟨_,rfl⟩,fun _=>rfl,fun τ hr hh=>slot0 (by simp) hr hh⟩
 | stR T x y i off cs cs' hd ho hx hB hp hi =>
  refine⟨by rw[hd],fun hc=>absurd (by simp[bv,cJ,ho]) hc,?_⟩
  rintro⟨b,⟨t',k⟩,e'⟩ hr hh
  cases b with
  |false=>exact hh
  | true =>
   by_cases hi':i=t'
   ·subst hi'
    obtain⟨cs1,iB,k1,k2⟩:=gL.1 hh
    simp only[van (av hB),vav,aN.cells.injEq]at k1
    obtain⟨rfl,rfl⟩:=k1
    cases k2
   ·exact(gV hi').1 hh
theorem WX{H H2:List aN}(h:H2.map cD=H.map cD){i:Nat}{es:List (PVal×PVal)}(hi:H[i]? =some (.map es)):H2[i]? =some (.map es):=by
 have:=qa1 h i
 rw[hi]at this
 cases hB:H2[i]? with
 |none=>rw[hB]at this;cases this
 |some B=>
  rw[hB]at this
  cases B<;>simp[cD]at this
  subst this
  rfl
theorem CM{H H2:List aN}(h:H2.map cD=H.map cD){i:Nat}{B B2:aN}(hB:cD B2=cD B):(H2.set i B2).map cD=(H.set i B).map cD:=by
 rw[List.map_set,List.map_set,h,hB]
theorem SF{t:TypeId}{m k v:PVal}{H H' H2:List aN}(hs:H2.map cD=H.map cD)(h:io P t m k v H=some H'):∃i es',m=.mapr i/\H'=H.set i (.map es')/\io P t m k v H2=some (H2.set i (.map es')):=by
 unfold io at h ⊢
 split at h
 ·split at h
  ·rename_i es kd hB hk
   split at h
   ·rename_i hkk
    split at h
    ·rename_i hf;cases h;refine⟨_,_,rfl,rfl,?_⟩;simp only[WX hs hB,hk,vad hkk,hf]
    ·rename_i hf;cases h;refine⟨_,_,rfl,rfl,?_⟩;simp only[WX hs hB,hk,vad hkk,hf]
    ·cases h
   ·cases h
  ·cases h
 ·cases h
structure Zp(P:Program)(bs:bR)(rw:List Nat)(o:Oper)(st st' s s':aA)(rs:List Rs):Prop where
 tm:match o.dst with
  |some d=>∃p,st'.tmps=st.tmps.set d p/\s'.tmps=s.tmps.set d p
  |none=>st'.tmps=st.tmps/\s'.tmps=s.tmps
 b1:bv P o.op≠3->st'.boxes.map cD=st.boxes.map cD
 b2:bv P o.op=3->st'.boxes.map cD=s'.boxes.map cD
 keep:∀τ,eE τ∉rs->(τ.1=true->τ.2.1.1∉rw)->qv st τ->qv st' τ
 got:∀τ,eE τ∈rs->qv s' τ->qv st' τ
 un:∀i:Nat,bs[i]? =some none->st'.boxes[i]? =st.boxes[i]?
theorem Qj{st:aA}{tm:List PVal}{d:Nat}{L:List (Nat×TypeId)}{rs:List Rs}{R:qes->Prop}(hd:(false,d,0)∈rs)(τ:qes)(hr:eE τ∉rs)(_:R τ)(h:qv st τ):qv ⟨tm,st.boxes,(L.map fun x=>((d,x.1),x.2))++cx d st.own⟩ τ:=by
 obtain⟨b,⟨t,k⟩,e⟩:=τ
 cases b with
 |true=>exact h
 |false=>exact vbj _ (il (dI.1 h) fun hx=>by simp only at hx;subst hx;exact hr hd)
theorem YN{st s:aA}{tm tm':List PVal}{d:Nat}{L:List (Nat×TypeId)}(τ:qes)(hr:eE τ∈[(false,d,0)])(h:qv ⟨tm',s.boxes,(L.map fun x=>((d,x.1),x.2))++cx d s.own⟩ τ):qv ⟨tm,st.boxes,(L.map fun x=>((d,x.1),x.2))++cx d st.own⟩ τ:=by
 obtain⟨b,⟨t,k⟩,e⟩:=τ
 cases b with
 |true=>simp[eE]at hr
 | false =>
  rcases vaE.1 (dI.1 h)with h|h
  ·exact vbf _ h
  ·have:=(eN h).2
   simp[eE]at hr
   exact absurd hr this
section
variable{E:uy}{Γ:bw}{bs:bR}{ow:Nat->Option nM}{w:World}{a:Act}{st:aA}
theorem Ku{T:TypeId}{i off:Nat}{y:PVal}{vs cs:List PVal}{own:List (Nat×TypeId)}{H H':List aN}(hvs:bK y=some vs)(hB:H[i]? =some (.cells cs own))(hp:eh P T (.bptr i off) y H=some H'){H2:List aN}{own2:List (Nat×TypeId)}(hB2:H2[i]? =some (.cells cs own2)):eh P T (.bptr i off) y H2=some (H2.set i (.cells (cs.take off++vs++cs.drop (off+vs.length)) (own2.filter fun y=>y.1<off||off+vs.length<=y.1))):=by
 simp only[eh,hvs,hB]at hp
 simp only[eh,hvs,hB2]
 split at hp
 ·rename_i hc;rw[vad hc]
 ·cases hp
theorem Zc{T:TypeId}{i off:Nat}{y:PVal}{cs cs':List PVal}{own2:List (Nat×TypeId)}{H:List aN}(hp:eh P T (.bptr 0 off) y [.cells cs []]=some [.cells cs' []])(hB:H[i]? =some (.cells cs own2)):∃own',eh P T (.bptr i off) y H=some (H.set i (.cells cs' own')):=by
 unfold eh at hp ⊢
 split at hp
 ·rename_i i' off' vs h1 h2
  cases h1
  simp only[List.getElem?_cons_zero]at hp
  simp only[h2,hB]
  split at hp
  ·rename_i hc
   rw[vad hc]
   simp only[List.set_cons_zero,vav,vbv,aN.cells.injEq,vcN]at hp
   obtain⟨rfl,_⟩:=hp
   exact⟨_,rfl⟩
  ·cases hp
 ·cases hp
theorem SR.fillBox{a:Array Value}(h:SR P E Γ bs ow w a st){i:Nat}(hid:bs[i]? =some none){cs:List PVal}(hB:st.boxes[i]? =some (.cells cs []))(xb:Option Nat)
  (hx:∀b,xb=some b->(∃cur t,w.heap[b]? =some (.cells cur t (0,0))/\cs.length<=cur.size/\∀(j:Nat) p v,cs[j]? =some p->cur[j]? =some v->VR Γ bs w p v)/\Γ b=none/\(E.T b\/E.w.heap.size<=b)/\∀i:Nat,bs[i]? ≠some (some b)):
  SR P E Γ (bs.set i xb) ow w a st:=by
 have hs:bs.Sub (bs.set i xb):=fun j b hb=>Fs hid hb
 have hlt:i<bs.length:=av hid
 have hcase:∀{j b:Nat},(bs.set i xb)[j]? =some (some b)->(j=i/\xb=some b)\/(j≠i/\bs[j]? =some (some b)):=by
  intro j b hb
  by_cases hj:j=i
  ·subst hj
   rw[van hlt]at hb
   exact .inl ⟨rfl,by simpa using hb⟩
  ·rw[vas (fun e=>hj e.symm)]at hb
   exact .inr ⟨hj,hb⟩
 exact{h with
  tm:=fun t p v hp hv=>(h.tm t p v hp hv).mono (.refl _ _) hs
  bl:=by simp[h.bl]
  bx:=fun j b B hb hB'=>by
   rcases hcase hb with⟨rfl,hb'⟩|⟨hj,hb'⟩
   ·obtain⟨⟨cur,t,k1,k2,k3⟩,k4,k5,k6⟩:=hx b hb'
    rw[hB]at hB'
    cases hB'
    exact⟨k4,(var.1 k1).1,cur,t,k1,k2,fun j p v hp hv=>(k3 j p v hp hv).mono (.refl _ _) hs⟩
   ·obtain⟨h1,h2,h3⟩:=h.bx j b B hb' hB'
    exact⟨h1,h2,h3.mono (.refl _ _) hs rfl⟩
  inj:=fun j k b hj hk=>by
   rcases hcase hj with⟨rfl,hj'⟩|⟨_,hj'⟩<;>rcases hcase hk with⟨rfl,hk'⟩|⟨_,hk'⟩
   ·rfl
   ·exact absurd hk' ((hx b hj').2.2.2 k)
   ·exact absurd hj' ((hx b hk').2.2.2 j)
   ·exact h.inj j k b hj' hk'
  bn:=fun j b hb=>by
   rcases hcase hb with⟨rfl,hb'⟩|⟨_,hb'⟩
   ·exact(hx b hb').2.2.1
   ·exact h.bn j b hb'
  ob:=fun j k e cs' own b hB' hj hb=>by
   rcases hcase hb with⟨rfl,hb'⟩|⟨_,hb'⟩
   ·rw[hB]at hB'
    cases hB'
    simp at hj
   ·exact h.ob j k e cs' own b hB' hj hb'
  gl:=fun g cs hg=>(h.gl g cs hg).mono (.refl _ _) hs}
theorem Yy{a:Array Value}(h:SR P E Γ bs ow w a st){i:Nat}(hid:bs[i]? =some none){ns:List (List PVal)}(hB:st.boxes[i]? =some (.cells ns.flatten [])){f:FuncId}{e:TypeId}{x:Value}(hC:nJ P f e)(hx:VR Γ bs w (.slice ns) x)(hsz0:0<P.cellsOf e)(hns1:∀x∈ns,x.length=P.cellsOf e/\∀q∈x,q.one=true)(hlen:ns.length<=eY):Calls P f #[x] w fun r w'=>∃v' xb,r=.returned v'/\SR P E Γ (bs.set i xb) ow w' a st/\VR Γ (bs.set i xb) w' (.bsl i 0 ns.length) v':=by
 obtain⟨news,hnx,hnl,hn1,hnv⟩:=Ol hx hsz0 hns1
 refine(hC.2 w x ns.length news hnx hnl hn1 hlen).mono fun r w' hr=>?_
 obtain⟨v',rfl,hown,hb⟩:=hr
 obtain⟨hle,hS⟩:=EP h hb
 rcases hown.2 with⟨rfl,hn⟩|⟨g,cap,cur,rfl,hge,hheap,hnc,hcm,hcs,htake⟩
 ·have hns0:ns=[]:=vau hn
  subst hns0
  exact⟨_,none,rfl,hS.fillBox hid hB none (fun b hb=>by cases hb),.bsl _ _ _ _ _ (vaN _) (fun _=>rfl) (.inl rfl)⟩
 ·refine⟨_,some g,rfl,hS.fillBox hid hB (some g) (fun b hb'=>?_),?_⟩
  ·cases hb'
   refine⟨⟨cur,e,hheap,Gk hsz0 (fun x hx=>(hns1 x hx).1) fun i x k q hx hq=>?_⟩,?_,.inr (vaI h.step.size hge),fun i hi=>?_⟩
   ·obtain⟨u,k1,k2⟩:=hnv i x k q hx hq
    refine⟨u,?_,k2.mono hle (.refl _)⟩
    have hlt:=av k1
    rw[<-htake,vap (by omega)]at k1
    simpa using k1
   ·cases hg:Γ g with
    |none=>rfl
    |some m=>exact absurd (h.lt_of_ghost hg) (by omega)
   ·have:=(h.bx i g (st.boxes[i]'(by rw[<-h.bl];exact av hi)) hi (by simp)).2.1
    omega
  ·exact .bsl _ _ _ _ _ hnc (fun h=>by cases h) (.inr ⟨g,rfl,van (av hid)⟩)
theorem qbQ{es:List (List PVal)}{u:Value}(h:VR Γ bs w (.slice es) u):∃b n m,u=.slice b n m:=by
 cases h<;>exact⟨_,_,_,rfl⟩
theorem R7(h:SR P E Γ bs ow w a.tmps st){o:Oper}{id d t k:Nat}{T:TypeId}{parts:Array (Nat×Operand)}{p:PVal}{es:List (List PVal)}{K:aA->Prop}(ho:o.op=.build T parts)(hdst:o.dst=some d)(hd:d<st.tmps.length)(hg:st.tmps.getD t .undef=.slice es)
  (hp:dw P T (parts.toList.map fun x=>(x.1,opv E.GE st.tmps x.2))=some p) (hm:qkk P T (XG E.GE st.tmps parts.toList t) k)
  (hK:K ⟨st.tmps.set d p,st.boxes,jq d (fun x=>if x=(t,0)then(d,k)else x) st.own⟩) (Q:Exit->Act->World->Prop):
  o.wp P a w (gS P E bs id (aS o.op) a.defers K) Q:=by
 have hρ:∀x,VR Γ bs w (opv E.GE st.tmps x) (a.eval x):=fun x=>h.opv a.defers x
 obtain⟨k1,k2⟩:=AO hρ parts.toList
 obtain⟨v,r1,r2⟩:=CA k1 k2 hp
 have hu:VR Γ bs w (.slice es) (a.eval (.tmp t)):=by
  have:=hρ (.tmp t)
  rwa[show opv E.GE st.tmps (.tmp t)=st.tmps.getD t .undef from rfl,hg]at this
 obtain⟨b,n,m,hu⟩:=qbQ hu
 obtain⟨cs,hcs,hck⟩:=hm b n m
 have hρ2:∀x:Operand,VR Γ bs w (if Ig t x=true then .val (.slice b n m)else opv E.GE st.tmps x) (a.eval x):=fun x=>by
  split
  ·rename_i hx
   rw[Tk hx,hu]
   exact .val _
  ·exact hρ x
 obtain⟨l1,l2⟩:=AO (v:=fun x=>if Ig t x=true then .val (.slice b n m)else opv E.GE st.tmps x) hρ2 parts.toList
 obtain⟨v2,s1,s2⟩:=CA l1 l2 hcs
 rw[r1]at s1
 cases s1
 have hrun:(execOp a.eval o).run P w=.ok (.value v) w:=by
  have:(parts.map fun x=>(x.1,a.eval x.2))=(parts.toList.map fun x=>(x.1,a.eval x.2)).toArray:=by apply vbJ;simp
  simp only[execOp,ho]
  rw[this]
  simp[r1]
 unfold Oper.wp
 rw[hrun,Oper.upon_value]
 have hpv:kQ v k=some (.slice b n m):=by
  cases s2 with
  |agg _ vs hl hv=>
   have hlt:k<vs.size:=by rw[hl];exact av hck
   have:=hv k _ vs[k] hck (by simp[hlt])
   show vs[k]? =_
   rw[vbe hlt]
   generalize vs[k]=q at this
   cases this
   rfl
 have:=h.setRen (d:=d) (p:=p) r2 (fun x=>if x=(t,0)then(d,k)else x) (by rw[h.sz];exact hd) fun t' k' e' _ ht'=>by
  by_cases hx:((t',k'):Nat×Nat)=(t,0)
  ·cases hx
   refine .inr ⟨k,by simp,fun u v' hu' hv' _=>?_⟩
   rw[oX hu']at hu
   subst hu
   have:v'=.slice b n m:=by
    simp only[kQ,if_true,vav]at hv'
    exact hv'.symm
   rw[this];exact hpv
  ·exact .inl (vae hx)
 have hput:∀v,(a.put o.dst v).tmps=a.tmps.setIfInBounds d v:=fun v=>by rw[hdst];rfl
 rw[<-hput]at this
 exact⟨dz _ _ _,Γ,bs,_,_,this,hK,.inl rfl⟩
theorem iw.sound(h:SR P E Γ bs ow w a.tmps st){bi:Option (Nat×aN)}{rw:List Nat}{o:Oper}{id:Nat}{s s':aA}{rs:List Rs}(hs:iw P E.GE bi rw o id s s' rs)(hid:aS o.op=true->bs[id]? =some none/\st.boxes[id]? =pW P o)(hbi:∀i B,bi=some (i,B)->bs[i]? =some none/\st.boxes[i]? =some B)
    (hopv:∀x∈o.op.operands.toList,opv E.GE s.tmps x=opv E.GE st.tmps x) (hbx:2<=bv P o.op->st.boxes.map cD=s.boxes.map cD) (htok:∀τ,eE τ∈rs->qv s τ->qv st τ) (hdd:∀d,o.dst=some d->d<st.tmps.length)
    (Q:Exit->Act->World->Prop):
    o.wp P a w (fun a' w'=>a'.defers=a.defers/\∃Γ' bs' ow' st',SR P E Γ' bs' ow' w' a'.tmps st'/\Zp P bs rw o st st' s s' rs/\(bs'=bs\/(aS o.op=true/\∃b,bs'=bs.set id (some b))\/∃i B x,bi=some (i,B)/\bs'=bs.set i x)) Q:=by
  have fin:∀{st'},Zp P bs rw o st st' s s' rs->o.wp P a w (gS P E bs id (aS o.op) a.defers (·=st')) Q->o.wp P a w (fun a' w'=>a'.defers=a.defers/\∃Γ' bs' ow' st',SR P E Γ' bs' ow' w' a'.tmps st'/\Zp P bs rw o st st' s s' rs/\(bs'=bs\/(aS o.op=true/\∃b,bs'=bs.set id (some b))\/∃i B x,bi=some (i,B)/\bs'=bs.set i x)) Q:=by
    intro st' hD hw
    refine Oper.wp_mono (fun a' w' hA=>?_) hw
    obtain⟨h1,Γ',bs',ow',st2,h2,rfl,h3⟩:=hA
    exact⟨h1,Γ',bs',ow',_,h2,hD,h3.imp_right .inl⟩
  have hid':aS o.op=true->bs[id]? =some none:=fun hm=>(hid hm).1
  have live:∀{x:Operand} {i off:Nat},opv E.GE st.tmps x=.bptr i off->∃b,bs[i]? =some (some b):=by
    intro x i off hx
    have hv:=h.opv a.defers x
    rw[hx]at hv
    generalize (Act.mk a.tmps a.defers).eval x=vx at hv
    cases hv with
    |bptr _ _ b hb=>exact⟨b,hb⟩
  cases hs with
  | call d f args tys g first cap r ro ho hd hf hcl hc =>
    have hop:∀x,x=f\/x∈args.toList->opv E.GE s.tmps x=opv E.GE st.tmps x:=fun x hx=>hopv x (by rw[ho];simp[Op.operands,Call.operands];simpa using hx)
    have hargs:args.toList.map (opv E.GE s.tmps)=args.toList.map (opv E.GE st.tmps):=vbi fun x hx=>hop x (.inr hx)
    rw[hargs]at hcl hc
    rw[hop f (.inl rfl)]at hf
    refine fin (st':=⟨st.tmps.set d r,st.boxes,(ro.map fun x=>((d,x.1),x.2))++cx d st.own⟩) ⟨by rw[hd];exact⟨r,rfl,rfl⟩,fun _=>rfl,fun hc=>by simp[bv,ho]at hc,Qj (by simp),YN,fun _ _=>rfl⟩ ?_
    refine gS.of h hid' (by simp[pS,ho,hd,hdd d hd]) ?_ Q
    unfold Tu
    rw[ho]
    simp only[Ir,hf]
    refine .inl ⟨hcl,r,ro,hc,?_⟩
    rw[hd];rfl
  | alloc d t zs ho hd hz =>
    have hpre:=(hid (by rw[ho];rfl)).2
    simp only[pW,ho,hz]at hpre
    refine fin (st':=⟨st.tmps.set d (.bptr id 0),st.boxes,cx d st.own⟩) ⟨by rw[hd];exact⟨_,rfl,rfl⟩,fun _=>rfl,fun hc=>by simp[bv,cJ,ho]at hc,Qj (L:=[]) (by simp),YN (L:=[]),fun _ _=>rfl⟩ ?_
    refine gS.of h hid' (by simp[pS,ho]) ?_ Q
    unfold Tu
    rw[ho]
    simp only[uo,hz,vam,KB hpre]
    rw[hd];rfl
  | mkmap d t ho hd =>
    have hpre:=(hid (by rw[ho];rfl)).2
    simp only[pW,ho]at hpre
    refine fin (st':=⟨st.tmps.set d (.mapr id),st.boxes,cx d st.own⟩) ⟨by rw[hd];exact⟨_,rfl,rfl⟩,fun _=>rfl,fun hc=>by simp[bv,cJ,ho]at hc,Qj (L:=[]) (by simp),YN (L:=[]),fun _ _=>rfl⟩ ?_
    refine gS.of h hid' (by simp[pS,ho]) ?_ Q
    unfold Tu
    rw[ho]
    simp only[uo,KB hpre]
    rw[hd];rfl
  | ev d p hd hn hm hc hp =>
    have hnc:∀f args tys,o.op≠.call {callee:=.value f,args,argTypes:=tys}:=fun f args tys e=>by rw[e]at hn;cases hn
    rw[JE hnc]at hbx
    have hp2:=qgV (H2:=st.boxes) hc hm hp fun h2=>hbx h2
    rw[qdx hopv]at hp2
    refine fin (st':=⟨st.tmps.set d p,st.boxes,cx d st.own⟩) ⟨by rw[hd];exact⟨_,rfl,rfl⟩,fun _=>rfl,fun hc'=>by rw[JE hnc]at hc';exact absurd hc' hc,Qj (L:=[]) (by simp),YN (L:=[]),fun _ _=>rfl⟩ ?_
    refine gS.of h hid' ?_ ?_ Q
    · unfold pS
      split
      ·rename_i f args tys ho;exact absurd ho (hnc _ _ _)
      ·rfl
    · unfold Tu
      split
      ·rename_i f args tys ho;exact absurd ho (hnc _ _ _)
      · rw [hp2]
        show Ad st o.dst p [] st.boxes=_
        rw[hd];rfl
  | res d p L hd hh =>
    have hcl:bv P o.op≠3:=by
      rcases hh with⟨T,len,parts,e,ho,_⟩|⟨T,parts,ho,_⟩|⟨v,e,ho|ho,_⟩<;>simp[bv,cJ,ho]
    refine fin (st':=⟨st.tmps.set d p,st.boxes,(L.map fun x=>((d,x.1),x.2))++cx d st.own⟩) ⟨by rw[hd];exact⟨_,rfl,rfl⟩,fun _=>rfl,fun hc=>absurd hc hcl,Qj (by simp),YN,fun _ _=>rfl⟩ ?_
    rcases hh with⟨T,len,parts,e,ho,h1,h2,rfl⟩|⟨T,parts,ho,h1,h2⟩|⟨v,e,ho,h1,rfl,rfl⟩
    · have hpt:(parts.toList.map fun x => (x.1,opv E.GE s.tmps x.2)) = parts.toList.map fun x => (x.1,opv E.GE st.tmps x.2):=vbi fun x hx => by rw [hopv x.2 (by rw [ho]; simp only [Op.operands]; exact vaq.2 ⟨x,hx,rfl⟩)]
      rw[hpt]at h1
      exact AA (K:=(·=_)) h ho hd (hdd d hd) h2 h1 rfl Q
    · have hpt:(parts.toList.map fun x => (x.1,opv E.GE s.tmps x.2)) = parts.toList.map fun x => (x.1,opv E.GE st.tmps x.2):=vbi fun x hx => by rw [hopv x.2 (by rw [ho]; simp only [Op.operands]; exact vaq.2 ⟨x,hx,rfl⟩)]
      rw[hpt]at h1 h2
      exact EM (K:=(·=_)) h ho hd (hdd d hd) h1 h2 rfl Q
    ·exact LN (K:=(·=_)) h ho hd (hdd d hd) h1 rfl Q
  | app d t T e y es ns p hd ho hT he hn hp hm =>
    have hop:∀x,x=.tmp t\/x=y->opv E.GE s.tmps x=opv E.GE st.tmps x:=fun x hx=>hopv x (by rw[ho];simp[Op.operands,Call.operands];rcases hx with rfl|rfl<;>simp)
    have he':st.tmps.getD t .undef=.slice es:=(hop (.tmp t) (.inl rfl)).symm.trans he
    rw[hop y (.inr rfl)]at hn
    have hm':((t,0),e)∈st.own:=htok (false,(t,0),e) (by simp[eE]) hm
    refine fin (st':=⟨st.tmps.set d p,st.boxes,((d,0),e)::cx d (st.own.filter fun x=>x.1 !=(t,0))⟩) ⟨by rw[hd];exact⟨_,rfl,rfl⟩,fun _=>rfl,fun hc=>by simp[bv,cJ,ho]at hc,?_,?_,fun _ _=>rfl⟩ (JB (K:=(·=_)) h ho hd (hdd d hd) hT he' hn hp hm' rfl Q)
    · rintro ⟨b,⟨t',k⟩,e'⟩ hr _ hh
      cases b with
      |true=>exact hh
      | false =>
        simp[eE]at hr
        refine va0 _ (il (vaR.2 ⟨dI.1 hh,?_⟩) hr.1)
        simp only[bne_iff_ne,ne_eq,Prod.mk.injEq,not_and]
        exact fun e=>absurd e hr.2
    · rintro ⟨b,⟨t',k⟩,e'⟩ hr hh
      cases b with
      |true=>simp[eE]at hr
      | false =>
        rcases vaw.1 (dI.1 hh)with hh|hh
        ·rw[hh];exact vcP
        · obtain ⟨h1,h2⟩:=eN hh
          obtain⟨h3,h4⟩:=cR h1
          have h5:((t',k),e')∈st.own:=htok (false,(t',k),e') hr h3
          exact va0 _ (il (vaR.2 ⟨h5,h4⟩) h2)
  | mv d t hd ho hdt =>
    have hg:s.tmps.getD t .undef=st.tmps.getD t .undef:=hopv (.tmp t) (by rcases ho with ho|ho<;>rw[ho]<;>simp[Op.operands])
    have hcl:bv P o.op≠3:=by rcases ho with ho|ho<;>simp[bv,cJ,ho]
    refine fin (st':=⟨st.tmps.set d (st.tmps.getD t .undef),st.boxes,jq d (fun x=>if x.1=t then(d,x.2)else x) st.own⟩) ⟨by rw[hd];exact⟨_,rfl,by rw[hg]⟩,fun _=>rfl,fun hc=>absurd hc hcl,?_,?_,fun _ _=>rfl⟩ (Cw (K:=(·=_)) h ho hd (hdd d hd) rfl Q)
    · rintro ⟨b,⟨t',k⟩,e'⟩ hr _ hh
      cases b with
      |true=>exact hh
      | false =>
        simp[eE]at hr
        refine vaq.2 ⟨((t',k),e'),il (dI.1 hh) hr.1,?_⟩
        simp only
        rw[vae hr.2]
    · rintro ⟨b,⟨t',k⟩,e'⟩ hr hh
      cases b with
      |true=>simp[eE]at hr
      | false =>
        obtain⟨⟨⟨t2,k2⟩,e2⟩,hx,he⟩:=vaq.1 (dI.1 hh)
        simp only[Prod.mk.injEq]at he
        obtain⟨he,rfl⟩:=he
        obtain⟨h1,h2⟩:=eN hx
        by_cases ht:t2=t
        · subst ht
          rw[vad rfl]at he
          cases he
          have h5:((t2,k),e2)∈st.own:=htok (false,(t2,k),e2) (by simp[eE]) h1
          exact vaq.2 ⟨((t2,k),e2),il h5 h2,by simp⟩
        · rw [vae ht] at he
          cases he
          simp[eE]at hr
          rcases hr with hr|hr
          ·exact absurd hr h2
          ·exact absurd hr ht
  | bmv d t k T parts p es hd ho hdt ht hin hp hm =>
    have hin2:Operand.tmp t∈o.op.operands.toList:=by
      obtain⟨x,hx,hx2⟩:=vbx.1 hin
      rw[ho];simp only[Op.operands]
      exact vaq.2 ⟨x,hx,Tk hx2⟩
    have hpar:∀x∈parts.toList,opv E.GE s.tmps x.2=opv E.GE st.tmps x.2:=fun x hx=>hopv x.2 (by rw[ho];simp only[Op.operands];exact vaq.2 ⟨x,hx,rfl⟩)
    have hpt:(parts.toList.map fun x=>(x.1,opv E.GE s.tmps x.2))=parts.toList.map fun x=>(x.1,opv E.GE st.tmps x.2):=vbi fun x hx=>by rw[hpar x hx]
    have hpw:XG E.GE s.tmps parts.toList t=XG E.GE st.tmps parts.toList t:=by
      funext q
      exact vbi fun x hx=>by rw[hpar x hx]
    rw[hpt]at hp
    rw[hpw]at hm
    have hg:st.tmps.getD t .undef=.slice es:=(hopv (.tmp t) hin2).symm.trans ht
    have hcl:bv P o.op≠3:=by simp[bv,cJ,ho]
    refine fin (st':=⟨st.tmps.set d p,st.boxes,jq d (fun x=>if x=(t,0)then(d,k)else x) st.own⟩) ⟨by rw[hd];exact⟨_,rfl,rfl⟩,fun _=>rfl,fun hc=>absurd hc hcl,?_,?_,fun _ _=>rfl⟩ (R7 (K:=(·=_)) h ho hd (hdd d hd) hg hp hm rfl Q)
    · rintro ⟨b,⟨t',k'⟩,e'⟩ hr _ hh
      cases b with
      |true=>exact hh
      | false =>
        simp[eE]at hr
        refine vaq.2 ⟨((t',k'),e'),il (dI.1 hh) hr.1,?_⟩
        simp only
        rw[vae (fun e=>hr.2 (va9 Prod.fst e))]
    · rintro ⟨b,⟨t',k'⟩,e'⟩ hr hh
      cases b with
      |true=>simp[eE]at hr
      | false =>
        obtain⟨⟨⟨t2,k2⟩,e2⟩,hx,he⟩:=vaq.1 (dI.1 hh)
        have h6:e2=e':=va9 Prod.snd he
        subst h6
        have he1:(if((t2,k2):Nat×Nat)=(t,0)then(d,k)else(t2,k2))=(t',k'):=va9 Prod.fst he
        obtain⟨h1,h2⟩:=eN hx
        by_cases ht2:((t2,k2):Nat×Nat)=(t,0)
        · have h5:((t2,k2),e2) ∈ st.own:=htok (false,(t2,k2),e2) (by cases ht2; simp [eE]) h1
          exact vaq.2 ⟨((t2,k2),e2),il h5 h2,he⟩
        · rw [vae ht2] at he1
          cases he1
          simp[eE]at hr
          rcases hr with hr|hr
          ·exact absurd hr h2
          · subst hr
            have h5:((t',k'),e2)∈st.own:=htok (false,(t',k'),e2) (by simp[eE]) h1
            exact vaq.2 ⟨((t',k'),e2),il h5 h2,he⟩
  | ld d T x i off cs own L p hd ho hx hB hh hm =>
    have hx':opv E.GE st.tmps x=.bptr i off:=(hopv x (by rw[ho];simp[Op.operands])).symm.trans hx
    obtain⟨bb,hbb⟩:=live hx'
    obtain⟨own2,hB2⟩:=Cp (hbx (by simp[bv,cJ,ho])) hB
    have hm2:∀y∈L,(off+y.1,y.2)∈own2:=fun y hy=>by
      obtain⟨cs',own',e1,e2⟩:=gL.1 (htok (true,(i,off+y.1),y.2) (va0 _ (vaq.2 ⟨y,hy,rfl⟩)) ⟨cs,own,hB,hm y hy⟩)
      rw[hB2]at e1;cases e1;exact e2
    refine fin (st':=⟨st.tmps.set d p,st.boxes.set i (.cells cs (own2.filter fun x=>!L.any fun y=>x.1==off+y.1)),(L.map fun y=>((d,y.1),y.2)).reverse++cx d st.own⟩)
      ⟨by rw[hd];exact⟨_,rfl,rfl⟩,fun _=>TR hB2,fun hc=>by simp[bv,cJ,ho]at hc,?_,?_,fun k hk=>by rw[vas (fun e=>by subst e;rw[hbb]at hk;cases hk)]⟩ ?_
    · rintro ⟨b,⟨t',k⟩,e'⟩ hr _ hh
      cases b with
      |false=>exact vbj _ (il (dI.1 hh) fun hx=>hr (by simp only at hx;subst hx;simp[eE]))
      | true =>
        by_cases hi:i=t'
        · subst hi
          obtain⟨cs',own',e1,e2⟩:=gL.1 hh
          rw[hB2]at e1;cases e1
          refine⟨_,_,van (av hB2),vaR.2 ⟨e2,?_⟩⟩
          simp only[va5,vbu,va4]
          intro y hy e
          exact hr (va0 _ (vaq.2 ⟨y,hy,by simp[eE,e]⟩))
        ·exact(gV hi).2 hh
    · rintro ⟨b,⟨t',k⟩,e'⟩ hr hh
      cases b with
      | false =>
        rcases vaE.1 (dI.1 hh)with hh|hh
        ·exact vbf _ hh
        · have h2:=(eN hh).2
          simp[eE]at hr
          exact absurd hr h2
      | true =>
        exfalso
        have hr2:(true,t',k)∈L.map fun y=>(true,i,off+y.1):=by simpa[eE]using hr
        obtain⟨y,hy,e⟩:=vaq.1 hr2
        simp only[Prod.mk.injEq,vcE]at e
        obtain⟨rfl,rfl⟩:=e
        obtain⟨cs',own',e1,e2⟩:=gL.1 hh
        simp only[van (av hB),vav,aN.cells.injEq]at e1
        obtain⟨rfl,rfl⟩:=e1
        have:=(cR e2).2
        simp only[va5,vbu,va4]at this
        exact this y hy rfl
    · rcases hh with ⟨e,hT,hp,rfl⟩ | ⟨fs,l,hT,hp,rfl,hn,hl⟩
      · refine Hi (K:=(· = _)) h ho hd (hdd d hd) hT hx' hB2 hp (hm2 _ (vcr _)) ?_ Q
        simp only[vay,vbW,vcR,List.reverse_nil,vaC,List.singleton_append,aA.mk.injEq,vcE,vcN]
        congr 3
        funext z
        simp[bne]
      · refine Iv h (K:=(· = _)) ?_ Q
        unfold QX
        simp only[ho,hd]
        exact⟨i,off,cs,own2,L,l,⟨fs,hT⟩,hx',hB2,hp,hm2,hn,hl,hdd d hd,rfl⟩
  | st T x y i off vs cs own hd ho hx hvs hB hp =>
    have hx':opv E.GE st.tmps x=.bptr i off:=(hopv x (by rw[ho];simp[Op.operands])).symm.trans hx
    have hy':opv E.GE s.tmps y=opv E.GE st.tmps y:=hopv y (by rw[ho];simp[Op.operands])
    rw[hy']at hvs hp
    obtain⟨bb,hbb⟩:=live hx'
    have hst:=hbx (by simp[bv,cJ,ho])
    obtain⟨own2,hB2⟩:=Cp hst hB
    have hp2:=Ku hvs hB hp hB2
    refine fin (st':=⟨st.tmps,st.boxes.set i (.cells (cs.take off++vs++cs.drop (off+vs.length)) (own2.filter fun y=>y.1<off||off+vs.length<=y.1)),st.own⟩)
      ⟨by rw[hd];exact⟨rfl,rfl⟩,fun hc=>absurd (by simp[bv,cJ,ho]) hc,fun _=>CM hst rfl,?_,?_,fun k hk=>by rw[vas (fun e=>by subst e;rw[hbb]at hk;cases hk)]⟩ ?_
    · rintro ⟨b,⟨t',k⟩,e'⟩ hr _ hh
      cases b with
      |false=>exact hh
      | true =>
        by_cases hi:i=t'
        · subst hi
          obtain⟨cs',own',e1,e2⟩:=gL.1 hh
          rw[hB2]at e1;cases e1
          refine⟨_,_,van (av hB2),vaR.2 ⟨e2,?_⟩⟩
          simp only[vbb,vao]
          by_cases h1:k<off
          ·exact .inl h1
          ·exact .inr (vbY fun h2=>hr (uq.2 ⟨rfl,by simp only;omega,by simp only;omega⟩))
        ·exact(gV hi).2 hh
    · rintro ⟨b,⟨t',k⟩,e'⟩ hr hh
      cases b with
      |false=>simp[eE,CG]at hr
      | true =>
        exfalso
        obtain⟨rfl,h1,h2⟩:=uq.1 hr
        obtain⟨cs',own',e1,e2⟩:=gL.1 hh
        simp only[van (av hB),vav,aN.cells.injEq]at e1
        obtain⟨rfl,rfl⟩:=e1
        have:=(cR e2).2
        simp only[vbb,vao]at this
        simp only at h1 h2
        omega
    · refine gS.of h hid' (by simp [pS,ho]) ?_ Q
      unfold Tu
      rw[ho]
      simp only[uo,hx',hp2,vam]
      rw[hd];rfl
  | sto T x t i off vs cs own L hd ho hx hvs hB hp hk hm hn hl =>
    have hx':opv E.GE st.tmps x=.bptr i off:=(hopv x (by rw[ho];simp[Op.operands])).symm.trans hx
    have hy':s.tmps.getD t .undef=st.tmps.getD t .undef:=hopv (.tmp t) (by rw[ho];simp[Op.operands])
    rw[hy']at hvs hp hk
    obtain⟨bb,hbb⟩:=live hx'
    have hst:=hbx (by simp[bv,cJ,ho])
    obtain⟨own2,hB2⟩:=Cp hst hB
    have hp2:=Ku hvs hB hp hB2
    have hm2:∀y∈L,((t,y.1),y.2)∈st.own:=fun y hy=>htok (false,(t,y.1),y.2) (by simp[eE]) (hm y hy)
    have hset:=van (a:=aN.cells (cs.take off++vs++cs.drop (off+vs.length)) (own2.filter fun y=>y.1<off||off+vs.length<=y.1)) (av hB2)
    refine fin (st':=⟨st.tmps,st.boxes.set i (.cells (cs.take off++vs++cs.drop (off+vs.length)) ((L.map fun y=>(off+y.1,y.2)).reverse++own2.filter fun y=>y.1<off||off+vs.length<=y.1)),st.own.filter fun x=>!L.any fun y=>x.1==(t,y.1)⟩)
      ⟨by rw[hd];exact⟨rfl,rfl⟩,fun hc=>absurd (by simp[bv,cJ,ho]) hc,fun _=>CM hst rfl,?_,?_,fun k hk=>by rw[vas (fun e=>by subst e;rw[hbb]at hk;cases hk)]⟩ ?_
    · rintro ⟨b,⟨t',k⟩,e'⟩ hr _ hh
      cases b with
      | false =>
        refine vaR.2 ⟨dI.1 hh,?_⟩
        simp only[va5,vbu,va4,Prod.mk.injEq,not_and]
        intro y hy e
        exact absurd (by simp[eE,e]) hr
      | true =>
        by_cases hi:i=t'
        · subst hi
          obtain⟨cs',own',e1,e2⟩:=gL.1 hh
          rw[hB2]at e1;cases e1
          refine⟨_,_,van (av hB2),vbj _ (vaR.2 ⟨e2,?_⟩)⟩
          simp only[vbb,vao]
          by_cases h1:k<off
          ·exact .inl h1
          ·exact .inr (vbY fun h2=>hr (va0 _ (uq.2 ⟨rfl,by simp only;omega,by simp only;omega⟩)))
        ·exact(gV hi).2 hh
    · rintro ⟨b,⟨t',k⟩,e'⟩ hr hh
      cases b with
      | false =>
        obtain⟨h1,h2⟩:=cR (dI.1 hh)
        exact vaR.2 ⟨htok (false,(t',k),e') hr h1,h2⟩
      | true =>
        have hr2:(true,t',k)∈CG i off vs.length:=by simpa[eE]using hr
        obtain⟨rfl,h1,h2⟩:=uq.1 hr2
        obtain⟨cs',own',e1,e2⟩:=gL.1 hh
        simp only[van (av hB),vav,aN.cells.injEq]at e1
        obtain⟨rfl,rfl⟩:=e1
        rcases vaE.1 e2 with e2|e2
        ·exact⟨_,_,van (av hB2),vbf _ e2⟩
        · exfalso
          have:=(cR e2).2
          simp only[vbb,vao]at this
          omega
    · rcases hk with ⟨l,hl⟩ | ⟨hone,e,rfl⟩
      · refine Iv h (K:=(· = _)) ?_ Q
        unfold QX
        simp only[ho,hd]
        refine⟨i,off,_,_,_,L,l,hx',hl,by rw[<-hl];exact hp2,hset,hm2,hn,?_⟩
        rw[vbV]
      · refine Fv (K:=(· = _)) h ho hx' (by rw [hx']; exact hp2) hset hone (hm2 _ (vcr _)) ?_ Q
        rw[hd,vbV]
        simp only[Ad,vay,vbW,vcR,List.reverse_nil,vaC,List.singleton_append,aA.mk.injEq,vcE,Nat.add_zero]
        congr 1
        funext z
        simp[bne]
  | mu t m k x H hd ho hp =>
    have hst:=hbx (by simp[bv,cJ,ho])
    have o1:opv E.GE s.tmps m=opv E.GE st.tmps m:=hopv m (by rw[ho];simp[Op.operands])
    have o2:opv E.GE s.tmps k=opv E.GE st.tmps k:=hopv k (by rw[ho];simp[Op.operands])
    have o3:opv E.GE s.tmps x=opv E.GE st.tmps x:=hopv x (by rw[ho];simp[Op.operands])
    rw[o1,o2,o3]at hp
    obtain⟨i,es',hmi,rfl,hp2⟩:=SF hst hp
    have hlive:∃b,bs[i]? =some (some b):=by
      have hv:=h.opv a.defers m
      rw[hmi]at hv
      generalize (Act.mk a.tmps a.defers).eval m=vx at hv
      cases hv with
      |mapr _ b hb=>exact⟨b,hb⟩
    obtain⟨bb,hbb⟩:=hlive
    obtain⟨i2,es,es2,hB,he2⟩:=Ff hp2
    refine fin (st':=⟨st.tmps,st.boxes.set i (.map es'),st.own⟩) ⟨by rw[hd];exact⟨rfl,rfl⟩,fun hc=>absurd (by simp[bv,cJ,ho]) hc,fun _=>CM hst rfl,?_,?_,fun k hk=>by rw[vas (fun e=>by subst e;rw[hbb]at hk;cases hk)]⟩ ?_
    · rintro ⟨b,⟨t',k'⟩,e'⟩ hr _ hh
      cases b with
      |false=>exact hh
      | true =>
        obtain⟨cs',own',e1,e2⟩:=gL.1 hh
        have hne:i2≠t':=fun e=>by subst e;rw[hB]at e1;cases e1
        rw[he2]
        exact(gV hne).2 hh
    · intro τ hr
      simp at hr
    · refine gS.of h hid' (by simp [pS,ho]) ?_ Q
      unfold Tu
      rw[ho]
      simp only[uo,hp2,vam]
      rw[hd];rfl
  | callR d f args tys r ro oa ho hd hg =>
    have hop:∀x,x=f\/x∈args.toList->opv E.GE s.tmps x=opv E.GE st.tmps x:=fun x hx=>hopv x (by rw[ho];simp[Op.operands,Call.operands];simpa using hx)
    have hown:∀x∈oa,((x.t,x.k),x.e)∈s.own->((x.t,x.k),x.e)∈st.own:=fun x hx hm=>htok (false,(x.t,x.k),x.e) (va0 _ (vaq.2 ⟨x,hx,rfl⟩)) hm
    refine fin (st':=⟨st.tmps.set d r,st.boxes,(ro.map fun x=>((d,x.1),x.2))++cx d (st.own.filter fun z=>!oa.any fun x=>z.1==(x.t,x.k))⟩) ⟨by rw[hd];exact⟨_,rfl,rfl⟩,fun _=>rfl,fun hc=>by simp[bv,ho]at hc,?_,?_,fun _ _=>rfl⟩ (Mq (K:=(·=_)) h ho hd (hdd d hd) (hg st hop hown) rfl Q)
    · rintro ⟨b,⟨t',k⟩,e'⟩ hr _ hh
      cases b with
      |true=>exact hh
      | false =>
        simp only[eE,vaw,Prod.mk.injEq,vcE,vcN,vaq,not_or,not_exists,not_and]at hr
        refine vbj _ (il (vaR.2 ⟨dI.1 hh,?_⟩) hr.1)
        simp only[va5,vbu,va4,Prod.mk.injEq,not_and]
        exact fun x hx e=>absurd e.symm (hr.2 x hx)
    · rintro ⟨b,⟨t',k⟩,e'⟩ hr hh
      cases b with
      |true=>simp[eE]at hr
      | false =>
        rcases vaE.1 (dI.1 hh)with hh|hh
        ·exact vbf _ hh
        · obtain ⟨h1,h2⟩:=eN hh
          obtain⟨h3,h4⟩:=cR h1
          have h5:((t',k),e')∈st.own:=htok (false,(t',k),e') hr h3
          exact vbj _ (il (vaR.2 ⟨h5,h4⟩) h2)
  | cl d i f x tys g e es ho hd hb hf hx hC h0 h1 h2 =>
    have hop:∀y,y=f\/y=x->opv E.GE s.tmps y=opv E.GE st.tmps y:=fun y hy=>hopv y (by rw[ho];simp[Op.operands,Call.operands];exact hy)
    rw[hop f (.inl rfl)]at hf
    rw[hop x (.inr rfl)]at hx
    obtain⟨hbs,hBx⟩:=hbi i _ hb
    have hvf:=h.opv a.defers f
    have hvx:=h.opv a.defers x
    rw[hf]at hvf
    rw[hx]at hvx
    change VR Γ bs w _ (a.eval f)at hvf
    change VR Γ bs w _ (a.eval x)at hvx
    generalize hev:a.eval f=vf at hvf
    cases hvf with
    |func _ _ _ fs cs hl hl' k1 k2=>
    have hfs:fs=#[]:=vbc (by simpa using hl)
    have hcs:cs=#[]:=vbc (by simpa using hl')
    subst hfs;subst hcs
    have hrun:(execOp a.eval o).run P w=.ok (.enter g #[a.eval x]) w:=by
      simp[execOp,ho,resolve,hev,Deferred.ofValue,invoke,hC.1]
    unfold Oper.wp
    rw[hrun,Oper.upon_enter]
    refine(Yy h hbs hBx hC hvx h0 h1 h2).mono fun r w' hr=>?_
    obtain⟨v',xb,rfl,hS,hv'⟩:=hr
    have g1:=hS.set (d:=d) hv'
    have hput:(a.put o.dst v').tmps=a.tmps.setIfInBounds d v':=by rw[hd];rfl
    rw[<-hput]at g1
    refine⟨dz _ _ _,Γ,_,ow,⟨st.tmps.set d (.bsl i 0 es.length),st.boxes,cx d st.own⟩,g1,⟨by rw[hd];exact⟨_,rfl,rfl⟩,fun _=>rfl,fun hc=>by simp[bv,ho]at hc,Qj (L:=[]) (by simp),YN (L:=[]),fun _ _=>rfl⟩,.inr (.inr ⟨i,_,xb,hb,rfl⟩)⟩
  | stR T x y i off cs cs' hd ho hx hB hp hi =>
    have hx':opv E.GE st.tmps x=.bptr i off:=(hopv x (by rw[ho];simp[Op.operands])).symm.trans hx
    have hy':opv E.GE s.tmps y=opv E.GE st.tmps y:=hopv y (by rw[ho];simp[Op.operands])
    rw[hy']at hp
    obtain⟨bb,hbb⟩:=live hx'
    have hst:=hbx (by simp[bv,cJ,ho])
    obtain⟨own2,hB2⟩:=Cp hst hB
    obtain⟨own',hp2⟩:=Zc hp hB2
    refine fin (st':=⟨st.tmps,st.boxes.set i (.cells cs' own'),st.own⟩)
      ⟨by rw[hd];exact⟨rfl,rfl⟩,fun hc=>absurd (by simp[bv,cJ,ho]) hc,fun _=>CM hst rfl,?_,fun τ hr=>by simp at hr,fun k hk=>by rw[vas (fun e=>by subst e;rw[hbb]at hk;cases hk)]⟩ ?_
    · rintro ⟨b,⟨t',k⟩,e'⟩ hr hn hh
      cases b with
      |false=>exact hh
      |true=>exact(gV (fun e=>hn rfl (by subst e;exact hi))).2 hh
    · refine gS.of h hid' (by simp [pS,ho]) ?_ Q
      unfold Tu
      rw[ho]
      simp only[uo,hx',hp2,vam]
      rw[hd];rfl
end
end
end Go.Proofs.YtbaamopmfmpfaaaGreatDoor
