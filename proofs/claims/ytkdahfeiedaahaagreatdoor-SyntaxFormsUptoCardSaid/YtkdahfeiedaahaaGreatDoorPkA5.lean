/- PROVED: a part of the proof. Conditions: none. -/
import Derived.Test.YtkdahfeiedaahaaGreatDoorPkA4
import Derived.Test.YtkdahfeiedaahaaGreatDoorPkA3
noncomputable section
namespace Go.Proofs.YtkdahfeiedaahaaGreatDoor
open Go
def OM(st:aB)(dst:Option Tmp)(p:PVal)(ro:List (Nat×TypeId))(H:List aM)(K:aB->Prop):Prop:=
 match dst with
 |some d=>hZ st.tmps d p fun tm=>bW ((ro.map fun x=>((d,x.1),x.2))++ce d st.own) fun ow=>K ⟨tm,H,ow⟩
 |none=>K ⟨st.tmps,H,st.own⟩
theorem xY(st:aB)(dst:Option Tmp)(p:PVal)(ro:List (Nat×TypeId))(H:List aM)(K:aB->Prop):OM st dst p ro H K=K (AW st dst p ro H):=by
 cases dst with
 |none=>rfl
 |some d=>simp only[OM,bZ,aV,AW]
def Te(P:Program)(GE:List (Nat×List PVal))(f:Operand)(args:List Operand)(tmps:List PVal)(sc:List It)(K:PVal->List (Nat×TypeId)->List It->Prop):Prop:=
 sB GE tmps f fun vf=>match vf with
  |.func (.func g) first cap=>Ng GE tmps args fun as=>match sc with
   |.c r ro::sc'=>CC P GE g (first++as++cap) r ro/\K r ro sc'
   |_=>False
  |_=>False
def z8(P:Program)(GE:List (Nat×List PVal))(o:Oper)(id:Nat)(sc:List It)(st:aB)(K:List It->aB->Prop):Prop:=
 match qi o st.tmps.length with
 |false=>False
 | true => match o.op with
  |.call {callee:=.value f,args,..}=>Te P GE f args.toList st.tmps sc fun r ro sc'=>OM st o.dst r ro st.boxes fun st'=>K sc' st'
  |.alloc t=>match sc with
   |.x zs::sc'=>gT P t=some zs/\bW (Sw P t) fun ow=>hZ st.boxes id (.cells zs ow) fun H=>OM st o.dst (.bptr id 0) [] H fun st'=>K sc' st'
   |_=>False
  |.box _ x=>sB GE st.tmps x fun vx=>match sc with
   |.x cs::sc'=>cQ vx=some cs/\hZ st.boxes id (.cells cs []) fun H=>OM st o.dst (.bptr id 0) [] H fun st'=>K sc' st'
   |_=>False
  |.makeMap _ none=>hZ st.boxes id (.map []) fun H=>OM st o.dst (.mapr id) [] H fun st'=>K sc st'
  |op=>T0 P GE op st.tmps st.boxes sc fun p H sc'=>OM st o.dst p [] H fun st'=>K sc' st'
def RV(n d:Nat)(K:Prop):Prop:=match decide (d<n)with
 |true=>K
 |false=>False
theorem rO{n d:Nat}{K:Prop}(h:RV n d K):d<n/\K:=by
 unfold RV at h
 split at h
 ·rename_i hd;exact⟨by simpa using hd,h⟩
 ·exact h.elim
def ML(P:Program)(st:aB)(T e:TypeId)(t:Nat)(dst:Option Tmp)(vx vt:PVal)(sc:List It)(K:List It->aB->Prop):Prop:=
 match vx with
 | .bptr i off => match fH P T (.bptr i off) vt st.boxes with
  | some H => oc H i fun B => match B with
   |.cells cs own=>match vt.one with
    |true=>bW cs fun cs'=>hZ H i (.cells cs' ((off,e)::own)) fun H'=>OM {st with own:=st.own.filter fun x=>x.1 !=(t,0)} dst (.val undef) [] H' fun st'=>K sc st'
    |false=>False
   |_=>False
  |none=>False
 |_=>False
def MM(P:Program)(GE:List (Nat×List PVal))(A:List Nat)(o:Oper)(id:Nat)(sc:List It)(st:aB)(K:List It->aB->Prop):Prop:=
 match o.op,o.dst with
 |.assign (.tmp t),some d=>RV st.tmps.length d (AP st.tmps t fun p=>hZ st.tmps d p fun tm=>bW (lJ d (fun x=>if x.1=t then(d,x.2)else x) st.own) fun ow=>K sc ⟨tm,st.boxes,ow⟩)
 |.move (.tmp t),some d=>match decide (d∈A)with
  |true=>RV st.tmps.length d (AP st.tmps t fun p=>hZ st.tmps d p fun tm=>bW (lJ d (fun x=>if x.1=t then(d,x.2)else x) st.own) fun ow=>K sc ⟨tm,st.boxes,ow⟩)
  |false=>z8 P GE o id sc st K
 |.assign (.const v),some d=>match xW P o.type v with
  |some e=>RV st.tmps.length d (hZ st.tmps d (.slice []) fun tm=>bW (((d,0),e)::ce d st.own) fun ow=>K sc ⟨tm,st.boxes,ow⟩)
  |none=>z8 P GE o id sc st K
 |.move (.const v),some d=>match xW P o.type v with
  |some e=>RV st.tmps.length d (hZ st.tmps d (.slice []) fun tm=>bW (((d,0),e)::ce d st.own) fun ow=>K sc ⟨tm,st.boxes,ow⟩)
  |none=>z8 P GE o id sc st K
 |.extract (.tmp t) i,some d=>RV st.tmps.length d (AP st.tmps t fun vt=>Oy (yX vt i) fun p=>hZ st.tmps d p fun tm=>bW (lJ d (fun x=>if x=(t,i)then(d,0)else x) st.own) fun ow=>K sc ⟨tm,st.boxes,ow⟩)
 |.buildSlice T len parts,some d=>RV st.tmps.length d (AU GE st.tmps parts.toList fun ps=>match sc,P.underlying T with
  |.v p::sc',some (.slice e)=>hX P T len ps=some p/\hZ st.tmps d p fun tm=>bW (((d,0),e)::ce d st.own) fun ow=>K sc' ⟨tm,st.boxes,ow⟩
  |_,_=>False)
 | .call { callee := .builtin .append,args:=⟨[.tmp t,y]⟩,argTypes:=⟨[T,T']⟩ },some d => RV st.tmps.length d (AP st.tmps t fun ve => sB GE st.tmps y fun vn => match ve,vn,sc,P.underlying T with
  |.slice es,.slice ns,.v p::sc',some (.slice e)=>match decide (T=T')&&decide (((t,0),e)∈st.own)with
   |true=>pQ P T es ns=some p/\hZ st.tmps d p fun tm=>bW (((d,0),e)::ce d (st.own.filter fun x=>x.1 !=(t,0))) fun ow=>K sc' ⟨tm,st.boxes,ow⟩
   |false=>False
  |_,_,_,_=>False)
 | .load T x,some d => match decide (d ∈ A) with
  | true => RV st.tmps.length d (sB GE st.tmps x fun vx => match vx,P.underlying T with
   | .bptr i off,some (.slice e) => oc st.boxes i fun B => match B with
    |.cells cs own=>match decide ((off,e)∈own)&&decide (off<cs.length)with
     |true=>AP cs off fun p=>hZ st.tmps d p fun tm=>bW (own.filter fun x=>x.1 !=off) fun own'=>hZ st.boxes i (.cells cs own') fun H=>bW (((d,0),e)::ce d st.own) fun ow=>K sc ⟨tm,H,ow⟩
     |false=>False
    |_=>False
   |_,_=>False)
  |false=>z8 P GE o id sc st K
 |.store T x (.tmp t),_=>match st.own.find? (fun y=>y.1==(t,0))with
  |some (_,e)=>sB GE st.tmps x fun vx=>AP st.tmps t fun vt=>ML P st T e t o.dst vx vt sc K
  |none=>z8 P GE o id sc st K
 |_,_=>z8 P GE o id sc st K
def qdg:Value->Bool
 |.bool _=>true
 |_=>false
def LE(ops:Array Oper)(j:Nat)(want:Bool)(pos:Nat)(sc:List It)(st:aB)(go:Bool->List It->aB->Prop):Prop:=
 match(ops[j]?).bind (·.dst)with
 |none=>False
 | some t => AP st.tmps t fun p => match p with
  | .bool x => match sc with
   |.g pos' b::sc'=>match pos'==pos with
    |true=>x=b/\hZ st.tmps t (.bool b) fun tm=>go (b==want) sc' ⟨tm,st.boxes,st.own⟩
    |false=>go (x==want) sc st
   |_=>go (x==want) sc st
  |.val v=>match qdg v with
   |true=>False
   |false=>go false sc st
  |_=>False
def wK:List Nat->Bool
 |[]=>true
 |x::r=>!(r.contains x)&&wK r
theorem sA:∀{l:List Nat},wK l=true->l.Nodup
 |[],_=>.nil
 |x::r,h=>by
  simp only[wK,vad,vaJ,vcH,va1]at h
  exact vbC.2 ⟨h.1,sA h.2⟩
def Po(t:Nat)(own:List ((Nat×Nat)×TypeId)):List (Nat×TypeId):=own.filterMap fun x=>if x.1.1==t then some (x.1.2,x.2)else none
theorem JJ{t:Nat}{own:List ((Nat×Nat)×TypeId)}{y:Nat×TypeId}(h:y∈Po t own):((t,y.1),y.2)∈own:=by
 unfold Po at h
 obtain⟨⟨⟨t',k⟩,e⟩,hx,he⟩:=vbR.1 h
 split at he
 ·rename_i ht
  simp only[vaW]at ht
  cases he;subst ht;exact hx
 ·cases he
def Ug(off n:Nat)(own:List (Nat×TypeId)):List (Nat×TypeId):=own.filterMap fun x=>if decide (off<=x.1)&&decide (x.1<off+n)then some (x.1 - off,x.2)else none
theorem Fb{off n:Nat}{own:List (Nat×TypeId)}{y:Nat×TypeId}(h:y∈Ug off n own):(off+y.1,y.2)∈own/\y.1<n:=by
 unfold Ug at h
 obtain⟨⟨k,e⟩,hx,he⟩:=vbR.1 h
 split at he
 ·rename_i ht
  simp only[vad,vak]at ht
  cases he
  have:off+(k - off)=k:=by omega
  exact⟨by rw[this];exact hx,by simp only;omega⟩
 ·cases he
def La(ρ:List Nat):List PVal->List PVal->Prop
 |[],[]=>True
 |p::ps,q::qs=>DY ρ p q/\La ρ ps qs
 |_,_=>False
theorem La.len{ρ:List Nat}:∀{l r:List PVal},La ρ l r->l.length=r.length
 |[],[],_=>rfl
 |[],_::_,h=>h.elim
 |_::_,[],h=>h.elim
 |_::_,_::_,h=>by simp[La.len h.2]
theorem La.get{ρ:List Nat}:∀{l r:List PVal},La ρ l r->∀(i:Nat) p q,l[i]? =some p->r[i]? =some q->DY ρ p q
 |[],[],_,i,p,q,hp,_=>by simp at hp
 |[],_::_,h,_,_,_,_,_=>h.elim
 |_::_,[],h,_,_,_,_,_=>h.elim
 |_::_,_::_,h,0,p,q,hp,hq=>by simp at hp hq;subst hp;subst hq;exact h.1
 |_::_,_::_,h,i+1,p,q,hp,hq=>La.get h.2 i p q (by simpa using hp) (by simpa using hq)
def V5(ρ:List Nat):aM->aM->Prop
 |.cells cs own,.cells cs' own'=>own=own'/\La ρ cs cs'
 |.map es,.map es'=>es=es'/\∀x∈es,x.1.cl 0/\x.2.cl 0
 |_,_=>False
theorem V5.to{ρ:List Nat}{B B':aM}(h:V5 ρ B B'):j5 ρ B B':=by
 cases B<;>cases B'<;>simp only[V5]at h
 ·exact⟨h.1,h.2.len,h.2.get⟩
 ·obtain⟨rfl,h⟩:=h
  refine⟨rfl,fun i k u k' u' h1 h2=>?_⟩
  rw[h1]at h2;cases h2
  obtain⟨q1,q2⟩:=h _ (vaA h1)
  exact⟨.refl _ q1,.refl _ q2⟩
def xK(ρ:List Nat)(H:List aM):List Nat->List aM->List aM->Prop
 |[],[],[]=>True
 |j::js,B::Bs,Bc::Hc=>(oc H j fun B0=>Ee B0 B=B/\V5 ρ B Bc)/\xK ρ H js Bs Hc
 |_,_,_=>False
def HR(ρ:List Nat):List aM->List aM->Prop
 |[],[]=>True
 |B::Bs,Bc::Hc=>V5 ρ B Bc/\HR ρ Bs Hc
 |_,_=>False
def ut(H:List aM):List Nat->List aM->List aM
 |j::js,B::Bs=>ut (H.set j B) js Bs
 |_,_=>H
def Q4(H:List aM):List Nat->List aM->(List aM->Prop)->Prop
 |j::js,B::Bs,K=>hZ H j B fun H'=>Q4 H' js Bs K
 |_,_,K=>K H
theorem yo:∀(H:List aM) (js:List Nat) (Bs:List aM) (K:List aM->Prop),Q4 H js Bs K=K (ut H js Bs)
 |H,[],_,K=>by cases ‹List aM›<;>rfl
 |H,_::_,[],K=>rfl
 |H,j::js,B::Bs,K=>by simp only[Q4,bZ,yo,ut]
theorem JR:∀(H:List aM) (js:List Nat) (Bs:List aM),(ut H js Bs).length=H.length
 |H,[],_=>by cases ‹List aM›<;>rfl
 |H,_::_,[]=>rfl
 |H,j::js,B::Bs=>by simp only[ut,JR,vcD]
theorem sH:∀(H:List aM) (js:List Nat) (Bs:List aM) {j:Nat},j∉js->(ut H js Bs)[j]? =H[j]?
 |H,[],Bs,_,_=>by cases Bs<;>rfl
 |H,_::_,[],_,_=>rfl
 |H,k::js,B::Bs,j,h=>by
  simp only[vaC,not_or]at h
  simp only[ut]
  rw[sH _ js Bs h.2,var (Ne.symm h.1)]
theorem Is:∀(H:List aM) (js:List Nat) (Bs:List aM),js.Nodup->js.length=Bs.length->(∀j∈js,j<H.length)->∀(i j:Nat) B,js[i]? =some j->Bs[i]? =some B->(ut H js Bs)[j]? =some B
 |H,[],Bs,_,_,_,i,j,B,hj,_=>by simp at hj
 |H,_::_,[],_,hl,_,_,_,_,_,_=>by simp at hl
 | H,k :: js,B0 :: Bs,hn,hl,hlt,i,j,B,hj,hB => by
  obtain⟨hn1,hn2⟩:=vbC.1 hn
  simp only[ut]
  cases i with
  |zero=>
   simp at hj hB;subst hj;subst hB
   rw[sH _ js Bs hn1,vai (hlt _ (by simp))]
  |succ i=>exact Is _ js Bs hn2 (by simpa using hl) (fun x hx=>by rw[vcD];exact hlt x (by simp[hx])) i j B (by simpa using hj) (by simpa using hB)
theorem MR{ρ:List Nat}{H:List aM}:∀{js:List Nat} {Bs Hc:List aM},xK ρ H js Bs Hc->js.length=Bs.length/\Hc.length=js.length/\(∀j∈js,j<H.length)/\
  ∀(i j:Nat) B Bc,js[i]? =some j->Bs[i]? =some B->Hc[i]? =some Bc->(∃B0,H[j]? =some B0/\Ee B0 B=B)/\j5 ρ B Bc
 |[],[],[],_=>⟨rfl,rfl,by simp,by simp⟩
 |[],_::_,_,h=>by simp[xK]at h
 |[],[],_::_,h=>by simp[xK]at h
 |_::_,[],_,h=>by simp[xK]at h
 |_::_,_::_,[],h=>by simp[xK]at h
 | k :: js,B :: Bs,Bc :: Hc,h => by
  obtain⟨h1,h2⟩:=h
  obtain⟨B0,hB0,h3,h4⟩:=fb h1
  obtain⟨k1,k2,k3,k4⟩:=MR h2
  refine⟨by simp[k1],by simp[k2],fun j hj=>?_,fun i j b bc hj hb hbc=>?_⟩
  ·rcases vaC.1 hj with rfl|hj
   ·exact am hB0
   ·exact k3 j hj
  ·cases i with
   |zero=>simp at hj hb hbc;subst hj;subst hb;subst hbc;exact⟨⟨B0,hB0,h3⟩,h4.to⟩
   |succ i=>exact k4 i j b bc (by simpa using hj) (by simpa using hb) (by simpa using hbc)
theorem Eg{ρ:List Nat}:∀{Bs Hc:List aM},HR ρ Bs Hc->Bs.length=Hc.length/\∀(i:Nat) B Bc,Bs[i]? =some B->Hc[i]? =some Bc->j5 ρ B Bc
 |[],[],_=>⟨rfl,by simp⟩
 |[],_::_,h=>h.elim
 |_::_,[],h=>h.elim
 |B::Bs,Bc::Hc,h=>by
  obtain⟨k1,k2⟩:=Eg h.2
  refine⟨by simp[k1],fun i b bc hb hbc=>?_⟩
  cases i with
  |zero=>simp at hb hbc;subst hb;subst hbc;exact h.1.to
  |succ i=>exact k2 i b bc (by simpa using hb) (by simpa using hbc)
def YF(t:Nat):Option Operand->Bool
 |some (.tmp u)=>u==t
 |_=>false
def WF:Option Operand->Bool
 |some (.const v)=>pn v
 |_=>false
def Tt(n:Nat)(args:List Operand)(own:List ((Nat×Nat)×TypeId))(oa:List OA):Bool:=
 oa.all (fun x=>decide (n<=x.i)&&((WF args[x.i - n]? &&x.k==0)||(decide (((x.t,x.k),x.e)∈own)&&YF x.t args[x.i - n]?)))&&oa.all fun x=>oa.all fun y=>!(x.t==y.t&&x.k==y.k)||x.i==y.i
def QJ:aM->Bool
 |.dead=>false
 |_=>true
def pK(P:Program)(GE:List (Nat×List PVal))(f:Operand)(args:List Operand)(c:GC)(st:aB)(K:List aM->Prop):Prop:=
 sB GE st.tmps f fun vf=>match vf with
 | .func (.func g) first cap => Ng GE st.tmps args fun as => match wK c.ρ && Tt first.length args st.own c.oa && c.Bs.all QJ && decide (c.Bs'.length = c.ρ.length) with
  | true => C P GE g c.argsC (c.oa.map fun x => ((x.i,x.k),x.e)) c.Hc c.rc c.ro c.Hc'∧La c.ρ (first ++ as ++ cap) c.argsC∧xK c.ρ st.boxes c.ρ c.Bs c.Hc∧HR c.ρ c.Bs' c.Hc'∧DY c.ρ c.r c.rc ∧
    Q4 st.boxes c.ρ c.Bs' K
  |false=>False
 |_=>False
theorem AO{P:Program}{GE:List (Nat×List PVal)}{f:Operand}{args:List Operand}{c:GC}{st:aB}{K:List aM->Prop}(h:pK P GE f args c st K):∃H',LS P GE f args st c.r c.ro H' c.oa/\K H':=by
 unfold pK at h
 rw[ct]at h
 split at h
 ·rename_i g first cap hf
  rw[rC]at h
  split at h
  ·rename_i hb
   simp only[vad,vak]at hb
   obtain⟨⟨⟨b1,b2⟩,b3⟩,b4⟩:=hb
   obtain⟨h1,h2,h3,h4,h5,h6⟩:=h
   rw[yo]at h6
   have hn:=sA b1
   obtain⟨i1,i2,i3,i4⟩:=MR h3
   obtain⟨o1,o2⟩:=Eg h4
   unfold Tt at b2
   rw[vad]at b2
   obtain⟨c1,c2⟩:=b2
   have hgetB:∀{i j:Nat},c.ρ[i]? =some j->∃B,c.Bs[i]? =some B:=fun{i j} hj=>⟨_,vab (by rw[<-i1];exact am hj)⟩
   have hgetH:∀{i j:Nat},c.ρ[i]? =some j->∃B,c.Hc[i]? =some B:=fun{i j} hj=>⟨_,vab (by rw[i2];exact am hj)⟩
   refine⟨_,⟨g,first,cap,c.argsC,c.ρ,ut st.boxes c.ρ c.Bs,c.Hc,c.Hc',c.rc,hf,hn,h1,⟨JR _ _ _,fun i B hB=>?_⟩,⟨i2,fun i j hj=>?_⟩,⟨by rw[<-o1];exact b4,fun i j hj=>?_⟩,JR _ _ _,fun j hj=>by rw[sH _ _ _ hj,sH _ _ _ hj],h5,h2.len,h2.get,fun x hx=>?_,fun x hx y hy e1 e2=>?_⟩,h6⟩
   ·by_cases hi:i∈c.ρ
    ·obtain⟨k,hk⟩:=vbc.1 hi
     obtain⟨B1,hB1⟩:=hgetB hk
     obtain⟨Bc,hBc⟩:=hgetH hk
     obtain⟨⟨B0,hB0,hfg⟩,_⟩:=i4 k i B1 Bc hk hB1 hBc
     rw[Is _ _ _ hn i1 i3 k i B1 hk hB1]at hB
     cases hB
     refine⟨B0,hB0,?_⟩
     rcases T1 B0 B with hx|hx|hx
     ·rw[hfg]at hx
      have:=vau.1 b3 B (vaA hB1)
      rw[hx]at this;cases this
     ·rw[hfg]at hx;exact .inl hx
     ·rw[hfg]at hx;exact .inr hx
    ·rw[sH _ _ _ hi]at hB
     exact⟨B,hB,.inl rfl⟩
   ·obtain⟨B1,hB1⟩:=hgetB hj
    obtain⟨Bc,hBc⟩:=hgetH hj
    exact⟨B1,Bc,Is _ _ _ hn i1 i3 i j B1 hj hB1,hBc,(i4 i j B1 Bc hj hB1 hBc).2⟩
   ·have hi:=am hj
    have e1:=vab (l:=c.Bs') (i:=i) (by omega)
    have e2:=vab (l:=c.Hc') (i:=i) (by omega)
    exact⟨_,_,Is _ _ _ hn b4.symm i3 i j _ hj e1,e2,o2 i _ _ e1 e2⟩
   ·have:=vau.1 c1 x hx
    simp only[vad,vaZ,vak,vaW]at this
    refine⟨x.i - first.length,by omega,?_⟩
    rcases this.2 with⟨h2,h3⟩|⟨h2,h3⟩
    ·left
     unfold WF at h2
     split at h2
     ·rename_i v hv
      unfold pn at h2
      split at h2
      ·exact⟨hv,h3⟩
      ·cases h2
     ·cases h2
    ·right
     unfold YF at h3
     split at h3
     ·rename_i u hu
      simp only[vaW]at h3
      subst h3;exact⟨h2,hu⟩
     ·cases h3
   ·have:=vau.1 (vau.1 c2 x hx) y hy
    simp only[vaZ,vaJ,Bool.and_eq_false_iff,beq_eq_false_iff_ne,ne_eq,vaW]at this
    rcases this with(hx|hx)|hx
    ·exact absurd e1 hx
    ·exact absurd e2 hx
    ·exact hx
  ·exact h.elim
 ·exact h.elim
def Qp(P:Program)(GE:List (Nat×List PVal))(f:Operand)(args:List Operand)(c:GC)(d:Nat)(st:aB)(K:List PVal->List aM->List ((Nat×Nat)×TypeId)->Prop):Prop:=
 sB GE st.tmps f fun vf=>Ng GE st.tmps args fun vs=>match vf with
  |.func (.func g) [] []=>match decide (c.ρ=List.range' st.boxes.length c.Hc'.length)with
   |true=>CN P GE g vs c.rc c.ro c.Hc'/\mD 0 vs/\HR c.ρ c.Bs' c.Hc'/\DY c.ρ c.r c.rc/\hZ st.tmps d c.r fun tm=>bW ((c.ro.map fun x=>((d,x.1),x.2))++ce d st.own) fun ow=>Lb st.boxes c.Bs' fun H=>K tm H ow
   |false=>False
  |_=>False
theorem Oq{P:Program}{GE:List (Nat×List PVal)}{o:Oper}{f:Operand}{args:Array Operand}{tys:Array TypeId}{c:GC}{d:Nat}{st:aB}{K:List It->aB->Prop}{sc:List It}(ho:o.op=.call {callee:=.value f,args,argTypes:=tys})(hd:o.dst=some d)(h1:d<st.tmps.length)
  (h:Qp P GE f args.toList c d st fun tm H ow=>K sc ⟨tm,H,ow⟩):Ss P GE o (fun st'=>∃sc',K sc' st') st:=by
 unfold Qp at h
 rw[ct,rC]at h
 split at h
 ·rename_i g hf
  split at h
  ·rename_i hc
   simp only[vak]at hc
   obtain⟨h2,h3,h4,h5,h6⟩:=h
   simp only[bZ,aV,Lb]at h6
   obtain⟨k1,k2⟩:=Eg h4
   unfold Ss
   simp only[ho,hd]
   rw[hc]at h5 k2
   exact⟨g,c.rc,c.ro,c.Bs',c.Hc',c.r,hf,h2,h3,k1,k2,h5,h1,sc,h6⟩
  ·exact h.elim
 ·exact h.elim
def LG (P:Program) (GE:List (Nat×List PVal)) (A:List Nat) (o:Oper) (id:Nat) (sc:List It) (st:aB) (K:List It→aB→Prop):Prop :=
 match o.op,sc with
 |.build T parts,.b p L::sc'=>match o.dst with
  |some d=>RV st.tmps.length d (AU GE st.tmps parts.toList fun ps=>cR P T ps=some p/\Ih P T ps L/\hZ st.tmps d p fun tm=>bW ((L.map fun x=>((d,x.1),x.2))++ce d st.own) fun ow=>K sc' ⟨tm,st.boxes,ow⟩)
  |none=>False
 | .store T x (.tmp t),.y vs :: sc' => AP st.tmps t fun vt => match vt with
  | .agg l => match o.dst with
   | none => sB GE st.tmps x fun vx => match vx with
    | .bptr i off => bW (Po t st.own) fun L => l = vs∧oc st.boxes i fun B => match B with
     | .cells cs own => match wK (L.map (·.1)) && decide (vs.length = P.cellsOf T) && (P.info? T).isSome && decide (off + vs.length ≤ cs.length) && vs.all PVal.one with
      | true => bW (cs.take off ++ vs ++ cs.drop (off + vs.length)) fun cs' => bW ((L.map fun y => (off + y.1,y.2)).reverse ++ own.filter fun y => y.1 < off || off + vs.length ≤ y.1) fun own' =>
        hZ st.boxes i (.cells cs' own') fun H=>bW (st.own.filter fun x=>!L.any fun y=>x.1==(t,y.1)) fun ow=>K sc' ⟨st.tmps,H,ow⟩
      |false=>False
     |_=>False
    |_=>False
   |some _=>False
  |_=>MM P GE A o id sc st K
 | .load T x,.z l :: sc' => match P.underlying T with
  | some (.struct _) => match o.dst with
   | some d => RV st.tmps.length d (sB GE st.tmps x fun vx => match vx with
    | .bptr i off => oc st.boxes i fun B => match B with
     | .cells cs own => bM P T (cs.drop off) = some (.agg l)∧bW (Ug off (P.cellsOf T) own) fun L => match wK (L.map (·.1)) with
      | true => hZ st.tmps d (.agg l) fun tm => bW (own.filter fun x => !L.any fun y => x.1 == off + y.1) fun own' => hZ st.boxes i (.cells cs own') fun H =>
        bW ((L.map fun y=>((d,y.1),y.2)).reverse++ce d st.own) fun ow=>K sc' ⟨tm,H,ow⟩
      |false=>False
     |_=>False
    |_=>False)
   |none=>False
  |_=>MM P GE A o id sc st K
 |.box _ x,.e vs::sc'=>match o.dst with
  |some d=>RV st.tmps.length d (sB GE st.tmps x fun vx=>cQ vx=some vs/\hZ st.tmps d (.eptr vs) fun tm=>bW (ce d st.own) fun ow=>K sc' ⟨tm,st.boxes,ow⟩)
  |none=>False
 |.call {callee:=.value f,args,..},.cg c::sc'=>match o.dst with
  |some d=>RV st.tmps.length d (pK P GE f args.toList c st fun H=>hZ st.tmps d c.r fun tm=>bW ((c.ro.map fun x=>((d,x.1),x.2))++ce d (st.own.filter fun z=>!c.oa.any fun x=>z.1==(x.t,x.k))) fun ow=>K sc' ⟨tm,H,ow⟩)
  |none=>False
 |.call {callee:=.value f,args,..},.cn c::sc'=>match o.dst with
  |some d=>RV st.tmps.length d (Qp P GE f args.toList c d st fun tm H ow=>K sc' ⟨tm,H,ow⟩)
  |none=>False
 | .call { callee := .builtin .append,args:=⟨[.tmp t,y]⟩,argTypes:=⟨[T,T']⟩ },.ar i e n cs :: sc' => match o.dst with
  | some d => RV st.tmps.length d (AP st.tmps t fun ve => sB GE st.tmps y fun vn => match ve,vn with
   | .slice [],.slice ns => match decide (T = T') && decide (((t,0),e) ∈ st.own) && decide (i = st.boxes.length) with
    | true => P.underlying T = some (.slice e)∧(∃ p,pQ P T [] ns = some p)∧(n = ns.length∧cs = ns.flatten) ∧
      hZ st.tmps d (.bsl i 0 n) fun tm=>bW (ce d (st.own.filter fun x=>x.1 !=(t,0))) fun ow=>Lb st.boxes [.cells cs []] fun H=>K sc' ⟨tm,H,ow⟩
    |false=>False
   |_,_=>False)
  |none=>False
 | .call { callee := .value f,args:=⟨[x]⟩,.. },.ar i e n cs :: sc' => match o.dst with
  | some d => RV st.tmps.length d (sB GE st.tmps f fun vf => sB GE st.tmps x fun vn => match vf,vn with
   | .func (.func g) [] [],.slice ns => match decide (i = st.boxes.length) with
    | true => ww P g e∧(0 < P.cellsOf e∧(∀ x ∈ ns,x.length = P.cellsOf e∧∀ q ∈ x,q.one = true)∧ns.length ≤ fX)∧(n = ns.length∧cs = ns.flatten) ∧
      hZ st.tmps d (.bsl i 0 n) fun tm=>bW (ce d st.own) fun ow=>Lb st.boxes [.cells cs []] fun H=>K sc' ⟨tm,H,ow⟩
    |false=>False
   |_,_=>False)
  |none=>False
 | .store T x (.const v),.ar _ e _ _ :: sc' => match o.dst,pn v with
  | none,true => sB GE st.tmps x fun vx => sB GE st.tmps (.const v) fun vy => match vx,cQ vy with
   | .bptr i off,some vs => oc st.boxes i fun B => match B with
    |.cells cs own=>match decide (vs.length=P.cellsOf T)&&(P.info? T).isSome&&decide (off+vs.length<=cs.length)&&vs.all PVal.one with
     |true=>bW (cs.take off++vs++cs.drop (off+vs.length)) fun cs'=>bW ((off,e)::own.filter fun y=>y.1<off||off+vs.length<=y.1) fun own'=>hZ st.boxes i (.cells cs' own') fun H=>K sc' ⟨st.tmps,H,st.own⟩
     |false=>False
    |_=>False
   |_,_=>False
  |_,_=>False
 |_,_=>MM P GE A o id sc st K
def Ki(P:Program)(GE:List (Nat×List PVal))(A:List Nat)(ops:Array Oper)(K:List It->aB->Prop):List Oper->Nat->Nat->List It->aB->Prop
 |[],_,_,sc,st=>K sc st
 | o :: rest,pos,id,sc,st =>
  let step (sc:List It) (st:aB):Prop:=LG P GE A o id sc st fun sc' st'=>Ki P GE A ops K rest (pos+1) (id+if aP o.op then 1 else 0) sc' st'
  match o.guard with
  |none=>step sc st
  |some (j,want)=>LE ops j want pos sc st fun b sc' st'=>match b with
   |true=>step sc' st'
   |false=>OM st' o.dst (.val undef) [] st'.boxes fun st''=>Ki P GE A ops K rest (pos+1) (id+if aP o.op then 1 else 0) sc' st''
section
variable{P:Program}{GE:List (Nat×List PVal)}{A:List Nat}{ops:Array Oper}
theorem Qn{f:Operand}{args:List Operand}{tmps:List PVal}{H:List aM}{sc:List It}{K:PVal->List (Nat×TypeId)->List It->Prop}(h:Te P GE f args tmps sc K):GN P GE (opv GE tmps f) (args.map (opv GE tmps)) H fun r ro H'=>H'=H/\∃sc',K r ro sc':=by
 unfold Te at h
 rw[ct]at h
 split at h
 ·rename_i g first cap hf
  rw[rC]at h
  split at h
  ·rename_i r ro sc'
   rw[hf]
   exact .inl ⟨h.1.1,r,ro,h.1.2,rfl,sc',h.2⟩
  ·exact h.elim
 ·exact h.elim
theorem Fd{op:Op}{id:Nat}{v:Operand->PVal}{H H':List aM}{p:PVal}{K:PVal->List (Nat×TypeId)->List aM->Prop}(hn:∀f args tys,op≠.call {callee:=.value f,args,argTypes:=tys})
  (h:vG P op id v H=some (p,H')) (hk:K p [] H'):OG P GE op id v H K:=by
 unfold OG
 split
 ·rename_i f args tys;exact absurd rfl (hn _ _ _)
 ·rw[h];exact hk
theorem nK{o:Oper}{id:Nat}{sc:List It}{st:aB}{K:List It->aB->Prop}(h:z8 P GE o id sc st K):qi o st.tmps.length=true/\OG P GE o.op id (opv GE st.tmps) st.boxes fun p ro H=>(fun st'=>∃sc',K sc' st') (AW st o.dst p ro H):=by
 unfold z8 at h
 split at h
 ·exact h.elim
 ·rename_i hc
  refine⟨hc,?_⟩
  split at h
  ·rename_i f args tys ho
   have:=Qn (H:=st.boxes) h
   unfold OG
   simp only[ho]
   unfold GN at this ⊢
   split at this
   ·rcases this with⟨k1,r,ro,k2,_,sc',k3⟩|⟨ρ,argsC,Hc,rc,ro,Hc',H',r,k1,k2,k3,k4,k5,k6,k7,k8,k9,rfl,sc',k10⟩
    ·rw[xY]at k3;exact .inl ⟨k1,r,ro,k2,sc',k3⟩
    ·rw[xY]at k10;exact .inr ⟨ρ,argsC,Hc,rc,ro,Hc',_,r,k1,k2,k3,k4,k5,k6,k7,k8,k9,sc',k10⟩
   ·exact this.elim
  ·rename_i t ho
   split at h
   ·rename_i zs sc'
    obtain⟨h1,h2⟩:=h
    simp only[aV,bZ,xY]at h2
    rw[ho]
    exact Fd (by simp) (by simp only[vG,h1,vag]) ⟨sc',h2⟩
   ·exact h.elim
  ·rename_i t x ho
   rw[ct]at h
   split at h
   ·rename_i cs sc'
    obtain⟨h1,h2⟩:=h
    simp only[bZ,xY]at h2
    rw[ho]
    exact Fd (by simp) (by simp only[vG,h1,vag]) ⟨sc',h2⟩
   ·exact h.elim
  ·rename_i t ho
   simp only[bZ,xY]at h
   rw[ho]
   exact Fd (by simp) (by simp only[vG]) ⟨_,h⟩
  ·rename_i n1 n2 n3 n4
   obtain⟨p,H',sc',k1,k2,_⟩:=Kk (id:=id) h
   rw[xY]at k2
   exact Fd (fun f args tys e=>n1 f args tys e) k1 ⟨sc',k2⟩
theorem Ci{o:Oper}{id:Nat}{sc:List It}{st:aB}{K:List It->aB->Prop}(h:MM P GE A o id sc st K):Kt P GE A o id (fun st'=>∃sc',K sc' st') st:=by
 unfold MM at h
 unfold Kt
 split at h
 case h_1 t d ho hd=>
  obtain⟨h1,h2⟩:=rO h
  simp only[kC,bZ,aV]at h2
  simp only[ho,hd]
  exact⟨h1,_,h2⟩
 case h_2 t d ho hd=>
  simp only[ho,hd]
  split at h
  ·rename_i hA
   obtain⟨h1,h2⟩:=rO h
   simp only[kC,bZ,aV]at h2
   rw[vaq (by simpa using hA)]
   exact⟨h1,_,h2⟩
  ·rename_i hA
   rw[vas (by simpa using hA)]
   have:=nK h
   rw[ho,hd]at this
   exact this
 case h_3 v d ho hd=>
  simp only[ho,hd]
  split at h
  ·rename_i e he
   obtain⟨h1,h2⟩:=rO h
   simp only[bZ,aV]at h2
   simp only[he]
   exact⟨h1,_,h2⟩
  ·rename_i he
   simp only[he]
   have:=nK h
   rw[ho,hd]at this
   exact this
 case h_4 v d ho hd=>
  simp only[ho,hd]
  split at h
  ·rename_i e he
   obtain⟨h1,h2⟩:=rO h
   simp only[bZ,aV]at h2
   simp only[he]
   exact⟨h1,_,h2⟩
  ·rename_i he
   simp only[he]
   have:=nK h
   rw[ho,hd]at this
   exact this
 case h_5 t i d ho hd=>
  obtain⟨h1,h2⟩:=rO h
  rw[kC]at h2
  obtain⟨p,h3,h4⟩:=Ab h2
  simp only[bZ,aV]at h4
  simp only[ho,hd,h3]
  exact⟨h1,_,h4⟩
 case h_6 T len parts d ho hd=>
  obtain⟨h1,h2⟩:=rO h
  rw[sC]at h2
  split at h2
  ·rename_i p sc' e hu
   obtain⟨h3,h4⟩:=h2
   simp only[bZ,aV]at h4
   simp only[ho,hd,h3,hu]
   exact⟨h1,_,h4⟩
  ·exact h2.elim
 case h_7 t y T T' d ho hd=>
  obtain⟨h1,h2⟩:=rO h
  rw[kC,ct]at h2
  split at h2
  ·rename_i es ns p sc' e he hn hu
   split at h2
   ·rename_i hc
    simp only[vad,vak]at hc
    obtain⟨h3,h4⟩:=h2
    simp only[bZ,aV]at h4
    simp only[ho,hd,hu,he,hn,h3]
    exact⟨hc.1,h1,hc.2,_,h4⟩
   ·exact h2.elim
  ·exact h2.elim
 case h_8 T x d ho hd=>
  simp only[ho,hd]
  split at h
  ·rename_i hA
   obtain⟨h1,h2⟩:=rO h
   rw[ct]at h2
   rw[vaq (by simpa using hA)]
   split at h2
   ·rename_i i off e hx hu
    obtain⟨B,hB,h2⟩:=fb h2
    split at h2
    ·rename_i cs own
     split at h2
     ·rename_i hc
      simp only[vad,vak]at hc
      simp only[kC,bZ,aV]at h2
      have hget:cs[off]? =some (cs.getD off .undef):=by
       rw[vam,vab hc.2];rfl
      simp only[hx,hu,hB,hget]
      exact⟨h1,hc.1,_,h2⟩
     ·exact h2.elim
    ·exact h2.elim
   ·exact h2.elim
  ·rename_i hA
   rw[vas (by simpa using hA)]
   have:=nK h
   rw[ho,hd]at this
   exact this
 case h_9 T x t ho=>
  simp only[ho]
  split at h
  ·rename_i y e hf
   rw[ct,kC]at h
   simp only[hf]
   unfold ML at h
   split at h
   ·rename_i i off hx
    split at h
    ·rename_i H hst
     obtain⟨B,hB,h⟩:=fb h
     split at h
     ·rename_i cs own
      split at h
      ·rename_i hone
       simp only[bZ,aV,xY]at h
       simp only[hx,hst,hB,hone]
       exact⟨_,h⟩
      ·exact h.elim
     ·exact h.elim
    ·exact h.elim
   ·exact h.elim
  ·rename_i hf
   simp only[hf]
   have:=nK h
   rw[ho]at this
   exact this
 case h_10=>
  have:=nK h
  split
  all_goals first
   |exact this
   |(exfalso;simp_all;done)
   |(exfalso;simp_all;rename_i hx h1 h2;exact hx _ _ _ _ rfl rfl rfl rfl)
   |(exfalso;simp_all;rename_i hx h1 h2;exact hx _ _ _ _ _ rfl rfl rfl rfl rfl)
   |(exfalso;simp_all;rename_i hx h1 h2;exact hx _ _ _ rfl rfl rfl)
theorem F5{j:Nat}{want:Bool}{pos:Nat}{sc:List It}{st:aB}{go:Bool->List It->aB->Prop}(h:LE ops j want pos sc st go):∃x,yY ops st.tmps j=some x/\((x=some want/\∃sc',go true sc' st)\/(x≠some want/\∃sc',go false sc' st)):=by
 unfold LE at h
 split at h
 ·exact h.elim
 ·rename_i t ht
  rw[kC]at h
  have hget:∀{p},st.tmps.getD t .undef=p->p≠.undef->st.tmps[t]? =some p:=by
   intro p hp hne
   rw[vam]at hp
   cases hx:st.tmps[t]? with
   |none=>rw[hx]at hp;exact absurd hp.symm hne
   |some q=>rw[hx]at hp;exact va9 some hp
  have hfin:∀(x:Bool) sc',go (x==want) sc' st->(some x=some want/\∃sc',go true sc' st)\/(some x≠some want/\∃sc',go false sc' st):=by
   intro x sc' hg
   cases x<;>cases want<;>simp at hg ⊢<;>exact⟨sc',hg⟩
  split at h
  ·rename_i x hp
   have hx:=hget hp (by simp)
   have hg:yY ops st.tmps j=some (some x):=by unfold yY;simp only[ht,hx]
   refine⟨_,hg,?_⟩
   split at h
   ·rename_i pos' b sc'
    split at h
    ·obtain⟨rfl,h⟩:=h
     rw[bZ,Iu hx]at h
     exact hfin x sc' h
    ·exact hfin x _ h
   ·exact hfin x _ h
  ·rename_i v hp
   have hx:=hget hp (by simp)
   split at h
   ·exact h.elim
   ·rename_i hb
    refine⟨none,?_,.inr ⟨by simp,_,h⟩⟩
    unfold yY
    simp only[ht,hx]
    cases v<;>simp[qdg]at hb<;>rfl
  ·exact h.elim
theorem Ov{o:Oper}{id:Nat}{sc:List It}{st:aB}{K:List It->aB->Prop}(h:LG P GE A o id sc st K):Ey P GE A o id (fun st'=>∃sc',K sc' st') st:=by
 unfold LG at h
 split at h
 ·rename_i T parts p L sc' ho
  split at h
  ·rename_i d hd
   obtain⟨h1,h2⟩:=rO h
   rw[sC]at h2
   obtain⟨h3,h4,h5⟩:=h2
   simp only[bZ,aV]at h5
   refine .inr (.inl ?_)
   unfold Nr
   simp only[ho,hd]
   exact⟨p,L,h3,h4,h1,sc',h5⟩
  ·exact h.elim
 ·rename_i T x t vs sc' ho
  rw[kC]at h
  split at h
  ·rename_i l hl
   split at h
   ·rename_i hd
    rw[ct]at h
    split at h
    ·rename_i i off hx
     rw[aV]at h
     obtain⟨rfl,h⟩:=h
     obtain⟨B,hB,h⟩:=fb h
     split at h
     ·rename_i cs own
      split at h
      ·rename_i hc
       simp only[bZ,aV]at h
       simp only[vad,vak]at hc
       obtain⟨⟨⟨⟨c1,c2⟩,c3⟩,c4⟩,c5⟩:=hc
       refine .inr (.inl ?_)
       unfold Nr
       simp only[ho,hd]
       have hi:=am hB
       refine⟨i,off,st.boxes.set i (.cells (cs.take off++l++cs.drop (off+l.length)) (own.filter fun y=>y.1<off||off+l.length<=y.1)),_,_,Po t st.own,l,hx,hl,?_,vai hi,fun y hy=>JJ hy,sA c1,sc',?_⟩
       ·simp only[fH,cQ,hB]
        rw[vaq ⟨c2,c3,c4,c5⟩]
       ·rw[vb1];exact h
      ·exact h.elim
     ·exact h.elim
    ·exact h.elim
   ·exact h.elim
  ·exact .inl (Ci h)
 ·rename_i T x l sc' ho
  split at h
  ·rename_i fs hT
   split at h
   ·rename_i d hd
    obtain⟨h1,h⟩:=rO h
    rw[ct]at h
    split at h
    ·rename_i i off hx
     obtain⟨B,hB,h⟩:=fb h
     split at h
     ·rename_i cs own
      obtain⟨h2,h⟩:=h
      rw[aV]at h
      split at h
      ·rename_i hn
       simp only[bZ,aV]at h
       refine .inr (.inl ?_)
       unfold Nr
       simp only[ho,hd]
       have hlen:l.length=P.cellsOf T:=by
        have hp:=h2
        unfold bM at hp
        rw[hT]at hp
        simp only at hp
        split at hp
        ·rename_i hh;cases hp;rw[vbo];omega
        ·cases hp
       exact⟨i,off,cs,own,_,l,⟨fs,hT⟩,hx,hB,h2,fun y hy=>(Fb hy).1,sA hn,fun y hy=>by rw[hlen];exact(Fb hy).2,h1,sc',h⟩
      ·exact h.elim
     ·exact h.elim
    ·exact h.elim
   ·exact h.elim
  ·exact .inl (Ci h)
 ·rename_i T x vs sc' ho
  split at h
  ·rename_i d hd
   obtain⟨h1,h⟩:=rO h
   rw[ct]at h
   obtain⟨h2,h⟩:=h
   simp only[bZ,aV]at h
   refine .inr (.inl ?_)
   unfold Nr
   simp only[ho,hd]
   exact⟨vs,h2,h1,sc',h⟩
  ·exact h.elim
 ·rename_i f args tys c sc' ho
  split at h
  ·rename_i d hd
   obtain⟨h1,h⟩:=rO h
   obtain⟨H',h2,h3⟩:=AO h
   simp only[bZ,aV]at h3
   refine .inr (.inl ?_)
   unfold Nr
   simp only[ho,hd]
   exact⟨c.r,c.ro,H',c.oa,h2,h1,sc',h3⟩
  ·exact h.elim
 ·rename_i f args tys c sc' ho
  split at h
  ·rename_i d hd
   obtain⟨h1,h⟩:=rO h
   refine .inr (.inr (.inr ?_))
   exact Oq ho hd h1 h
  ·exact h.elim
 ·rename_i t y T T' i e n cs sc' ho
  split at h
  ·rename_i d hd
   have hh:=rO h
   clear h
   obtain⟨h1,h⟩:=hh
   rw[kC,ct]at h
   split at h
   ·rename_i ns he hn
    split at h
    ·rename_i hc
     simp only[vad,vak]at hc
     obtain⟨⟨rfl,c2⟩,rfl⟩:=hc
     obtain⟨h2,⟨p,h3⟩,⟨rfl,rfl⟩,h4⟩:=h
     simp only[bZ,aV,Lb,aV]at h4
     refine .inr (.inr (.inl ?_))
     unfold TD
     simp only[ho,hd]
     exact⟨e,ns,p,trivial,h2,he,hn,h3,c2,h1,sc',h4⟩
    ·exact h.elim
   ·exact h.elim
  ·exact h.elim
 ·rename_i f x tys i e n cs sc' ho
  split at h
  ·rename_i d hd
   have hh:=rO h
   clear h
   obtain⟨h1,h⟩:=hh
   rw[ct,ct]at h
   split at h
   ·rename_i g ns hg hn
    split at h
    ·rename_i hc
     simp only[vak]at hc
     subst hc
     obtain⟨h2,⟨h3,h4,h5⟩,⟨rfl,rfl⟩,h6⟩:=h
     simp only[bZ,aV,Lb,aV]at h6
     refine .inr (.inr (.inl ?_))
     unfold TD
     simp only[ho,hd]
     exact⟨g,e,ns,hg,h2,hn,h3,h4,h5,h1,sc',h6⟩
    ·exact h.elim
   ·exact h.elim
  ·exact h.elim
 ·rename_i T x v i0 e n0 cs0 sc' ho
  split at h
  ·rename_i hd hv
   have hv':v=.slice none 0 0:=by
    unfold pn at hv
    split at hv
    ·rfl
    ·cases hv
   subst hv'
   rw[ct,ct]at h
   split at h
   ·rename_i i off vs hx hpc
    obtain⟨B,hB,h⟩:=fb h
    split at h
    ·rename_i cs own
     split at h
     ·rename_i hc
      simp only[bZ,aV]at h
      simp only[vad,vak]at hc
      obtain⟨⟨⟨c2,c3⟩,c4⟩,c5⟩:=hc
      refine .inr (.inr (.inl ?_))
      unfold TD
      simp only[ho,hd]
      have hi:=am hB
      refine⟨i,off,e,st.boxes.set i (.cells (cs.take off++vs++cs.drop (off+vs.length)) (own.filter fun y=>y.1<off||off+vs.length<=y.1)),_,_,trivial,hx,?_,vai hi,sc',?_⟩
      ·simp only[fH,hpc,hB]
       rw[vaq ⟨c2,c3,c4,c5⟩]
      ·rw[vb1];exact h
     ·exact h.elim
    ·exact h.elim
   ·exact h.elim
  ·exact h.elim
 ·exact .inl (Ci h)
theorem wm{o:Oper}{id:Nat}{K K':aB->Prop}{st:aB}(hk:∀st,K st->K' st)(h:Ey P GE A o id K st):Ey P GE A o id K' st:=by
 rcases h with h|h|h|h
 ·exact .inl (TG hk h)
 rotate_left 2
 ·exact .inr (.inr (.inr (Vo hk h)))
 rotate_left
 ·refine .inr (.inr (.inl ?_))
  unfold TD at *
  split at h
  ·obtain⟨e,ns,p,h1,h2,h3,h4,h5,h6,h7,h8⟩:=h;exact⟨e,ns,p,h1,h2,h3,h4,h5,h6,h7,hk _ h8⟩
  ·obtain⟨g,e,ns,h1,h2,h3,h4,h5,h6,h7,h8⟩:=h;exact⟨g,e,ns,h1,h2,h3,h4,h5,h6,h7,hk _ h8⟩
  ·obtain⟨i,off,e,H,cs,own,h1,h2,h3,h4,h5⟩:=h;exact⟨i,off,e,H,cs,own,h1,h2,h3,h4,hk _ h5⟩
  ·exact h
 ·refine .inr (.inl ?_)
  unfold Nr at *
  split at h
  ·obtain⟨p,L,h1,h2,h3,h4⟩:=h;exact⟨p,L,h1,h2,h3,hk _ h4⟩
  ·obtain⟨i,off,H,cs,own,L,l,h1,h2,h3,h4,h5,h6,h7⟩:=h;exact⟨i,off,H,cs,own,L,l,h1,h2,h3,h4,h5,h6,hk _ h7⟩
  ·obtain⟨i,off,cs,own,L,l,h0,h1,h2,h3,h4,h5,h6,h7,h8⟩:=h;exact⟨i,off,cs,own,L,l,h0,h1,h2,h3,h4,h5,h6,h7,hk _ h8⟩
  ·obtain⟨vs,h1,h2,h3⟩:=h;exact⟨vs,h1,h2,hk _ h3⟩
  ·obtain⟨r,ro,H',oa,h1,h2,h3⟩:=h;exact⟨r,ro,H',oa,h1,h2,hk _ h3⟩
  ·exact h
theorem yN{K:List It->aB->Prop}:∀(rest:List Oper) (pos id:Nat) (sc:List It) (st:aB),Ki P GE A ops K rest pos id sc st->dC P GE A ops (fun st=>∃sc,K sc st) rest id st
 |[],_,_,sc,st,h=>⟨sc,h⟩
 | o :: rest,pos,id,sc,st,h => by
  simp only[Ki]at h
  have step:∀sc st,LG P GE A o id sc st (fun sc' st'=>Ki P GE A ops K rest (pos+1) (id+if aP o.op then 1 else 0) sc' st')->Ey P GE A o id (dC P GE A ops (fun st=>∃sc,K sc st) rest (id+if aP o.op then 1 else 0)) st:=
   fun sc st hs=>wm (fun st' hx=>by obtain⟨sc',hx⟩:=hx;exact yN rest _ _ sc' st' hx) (Ov hs)
  unfold dC
  split at h
  ·rename_i hg;simp only[hg];exact step _ _ h
  ·rename_i j want hg
   obtain⟨x,hx,hc⟩:=F5 h
   simp only[hg,hx]
   rcases hc with⟨rfl,sc',hc⟩|⟨hne,sc',hc⟩
   ·exact⟨fun _=>step _ _ hc,fun hn=>absurd rfl hn⟩
   ·refine⟨fun he=>absurd he hne,fun _=>?_⟩
    simp only[xY]at hc
    exact yN rest _ _ sc' _ hc
end
abbrev Rs:=Bool×Nat×Nat
abbrev TQ:=Bool×(Nat×Nat)×TypeId
def eO(τ:TQ):Rs:=match τ.1 with
 |false=>(false,τ.2.1.1,0)
 |true=>(true,τ.2.1.1,τ.2.1.2)
def kD(st:aB)(τ:TQ):Prop:=match τ.1 with
 |false=>(τ.2.1,τ.2.2)∈st.own
 |true=>∃cs own,st.boxes[τ.2.1.1]? =some (.cells cs own)/\(τ.2.1.2,τ.2.2)∈own
def bC:aM->aM
 |.cells cs _=>.cells cs []
 |B=>B
theorem RR{H H2:List aM}(h:H2.map bC=H.map bC)(i:Nat):(H2[i]?).map bC=(H[i]?).map bC:=by
 have:=va9 (fun l=>l[i]?) h
 simpa[vaw]using this
theorem Ck{H H2:List aM}(h:H2.map bC=H.map bC){i:Nat}{cs:List PVal}{own:List (Nat×TypeId)}(hi:H[i]? =some (.cells cs own)):∃own2,H2[i]? =some (.cells cs own2):=by
 have:=RR h i
 rw[hi]at this
 cases hB:H2[i]? with
 |none=>rw[hB]at this;cases this
 |some B=>
  rw[hB]at this
  cases B<;>simp[bC]at this
  subst this
  exact⟨_,rfl⟩
section
variable{P:Program}{GE:List (Nat×List PVal)}
theorem Sn{t:TypeId}{x:PVal}{H H2:List aM}(h:H2.map bC=H.map bC):og P t x H2=og P t x H:=by
 unfold og
 split
 ·rfl
 ·rename_i i off
  have hi:=RR h i
  generalize H2[i]? =o at hi
  generalize H[i]? =o' at hi
  rcases o with _|(_|_|_)<;>rcases o' with _|(_|_|_)<;>simp[bC]at hi ⊢
  subst hi;rfl
 ·rfl
theorem TA{t:TypeId}{x:PVal}{H H2:List aM}(h:H2.map bC=H.map bC):GP P t x H2=GP P t x H:=by
 unfold GP
 split<;>first|rfl|skip
 rename_i i _
 have hi:=RR h i
 generalize H2[i]? =o at hi
 generalize H[i]? =o' at hi
 rcases o with _|(_|_|_)<;>rcases o' with _|(_|_|_)<;>simp[bC]at hi ⊢
 subst hi;rfl
theorem OH{t:TypeId}{m k:PVal}{ok:Bool}{H H2:List aM}(h:H2.map bC=H.map bC):Ah P t m k ok H2=Ah P t m k ok H:=by
 unfold Ah
 split
 ·rename_i kt e i _
  have hi:=RR h i
  generalize H2[i]? =o at hi
  generalize H[i]? =o' at hi
  rcases o with _|(_|_|_)<;>rcases o' with _|(_|_|_)<;>simp[bC]at hi ⊢
  subst hi;rfl
 ·rfl
theorem Zx{op:Op}{id:Nat}{v:Operand->PVal}{H H2:List aM}{p:PVal}(hc:cD P op≠3)(hm:aP op=false)(h:vG P op id v H=some (p,H))(h2:2<=cD P op->H2.map bC=H.map bC):vG P op id v H2=some (p,H2):=by
 by_cases hlt:cD P op<2
 ·exact Yj hlt hm h H2
 ·have hs:=h2 (by omega)
  have key:∀{q q':Option PVal},q'=q->(q.map fun p=>(p,H))=some (p,H)->(q'.map fun p=>(p,H2))=some (p,H2):=by
   intro q q' e hq
   obtain⟨z,hz,he⟩:=fC hq
   cases he
   rw[e,hz];rfl
  unfold vG at h ⊢
  split at h
  all_goals first
   |(cases h;done)
   |(simp[cD]at hlt;done)
   |(simp[cD]at hc;done)
   |(simp[aP]at hm;done)
   |exact key (Sn hs) h
   |exact key (OH hs) h
   |exact key (TA hs) h
def ca(P:Program)(rw:List Nat)(o:Oper):Nat:=match o.op with
 |.call {callee:=.value _,..}=>if(o.dst.any fun d=>rw.contains (8 * d+1))=true then 3 else 0
 |op=>cD P op
theorem HF{rw:List Nat}{o:Oper}(h:∀f args tys,o.op≠.call {callee:=.value f,args,argTypes:=tys}):ca P rw o=cD P o.op:=by
 unfold ca
 split
 ·rename_i hx;exact absurd hx (h _ _ _)
 ·rfl
def Pc:Op->Bool
 |.call {callee:=.value _,..}=>true
 |_=>false
def Aj(i off n:Nat):List Rs:=(List.range n).map fun k=>(true,i,off+k)
def GD(t:Nat):Operand->Bool
 |.tmp t'=>t'==t
 |_=>false
theorem Pb{t:Nat}{x:Operand}(h:GD t x=true):x=.tmp t:=by
 cases x<;>simp[GD]at h
 rw[h]
def Su(GE:List (Nat×List PVal))(tmps:List PVal)(parts:List (Nat×Operand))(t:Nat)(q:PVal):List (Nat×PVal):=parts.map fun x=>(x.1,if GD t x.2=true then q else opv GE tmps x.2)
def qcL(P:Program)(T:TypeId)(F:PVal->List (Nat×PVal))(k:Nat):Prop:=∀(b:Option Addr) (n m:Nat),∃cs,cR P T (F (.val (.slice b n m)))=some (.agg cs)/\cs[k]? =some (.val (.slice b n m))
inductive kz(P:Program)(GE:List (Nat×List PVal))(bi:Option (Nat×aM))(rw:List Nat)(o:Oper)(id:Nat)(s:aB):aB->List Rs->Prop where
 | call (d:Nat) (f:Operand) (args:Array Operand) (tys:Array TypeId) (g:FuncId) (first cap:List PVal) (r:PVal) (ro:List (Nat×TypeId)) (ho:o.op = .call { callee := .value f,args,argTypes:=tys }) (hd:o.dst = some d)
   (hf:opv GE s.tmps f=.func (.func g) first cap) (hcl:mD 0 (first++args.toList.map (opv GE s.tmps)++cap)) (hc:C P GE g (first++args.toList.map (opv GE s.tmps)++cap) [] [] r ro []):
   kz P GE bi rw o id s ⟨s.tmps.set d r,s.boxes,(ro.map fun x=>((d,x.1),x.2))++ce d s.own⟩ [(false,d,0)]
 |alloc (d:Nat) (t:TypeId) (zs:List PVal) (ho:o.op=.alloc t) (hd:o.dst=some d) (hz:gT P t=some zs):kz P GE bi rw o id s ⟨s.tmps.set d (.bptr id 0),s.boxes,ce d s.own⟩ [(false,d,0)]
 |mkmap (d:Nat) (t:TypeId) (ho:o.op=.makeMap t none) (hd:o.dst=some d):kz P GE bi rw o id s ⟨s.tmps.set d (.mapr id),s.boxes,ce d s.own⟩ [(false,d,0)]
 | ev (d:Nat) (p:PVal) (hd:o.dst = some d) (hn:Pc o.op = false) (hm:aP o.op = false) (hc:cD P o.op ≠ 3) (h:vG P o.op id (opv GE s.tmps) s.boxes = some (p,s.boxes)) :
   kz P GE bi rw o id s ⟨s.tmps.set d p,s.boxes,ce d s.own⟩ [(false,d,0)]
 | res (d:Nat) (p:PVal) (L:List (Nat×TypeId)) (hd:o.dst = some d)
   (h:(∃T len parts e,o.op=.buildSlice T len parts/\hX P T len (parts.toList.map fun x=>(x.1,opv GE s.tmps x.2))=some p/\P.underlying T=some (.slice e)/\L=[(0,e)])\/
    (∃T parts,o.op=.build T parts/\cR P T (parts.toList.map fun x=>(x.1,opv GE s.tmps x.2))=some p/\Ih P T (parts.toList.map fun x=>(x.1,opv GE s.tmps x.2)) L)\/
    (∃v e,(o.op=.assign (.const v)\/o.op=.move (.const v))/\xW P o.type v=some e/\p=.slice []/\L=[(0,e)])):
   kz P GE bi rw o id s ⟨s.tmps.set d p,s.boxes,(L.map fun x=>((d,x.1),x.2))++ce d s.own⟩ [(false,d,0)]
 | app (d t:Nat) (T e:TypeId) (y:Operand) (es ns:List (List PVal)) (p:PVal) (hd:o.dst = some d) (ho:o.op = .call { callee := .builtin .append,args:=⟨[.tmp t,y]⟩,argTypes:=⟨[T,T]⟩ })
   (hT:P.underlying T=some (.slice e)) (he:s.tmps.getD t .undef=.slice es) (hn:opv GE s.tmps y=.slice ns) (hp:pQ P T es ns=some p) (hm:((t,0),e)∈s.own):
   kz P GE bi rw o id s ⟨s.tmps.set d p,s.boxes,((d,0),e)::ce d (s.own.filter fun x=>x.1 !=(t,0))⟩ [(false,d,0),(false,t,0)]
 | mv (d t:Nat) (hd:o.dst = some d) (ho:o.op = .assign (.tmp t)∨o.op = .move (.tmp t)) (hdt:d ≠ t) :
   kz P GE bi rw o id s ⟨s.tmps.set d (s.tmps.getD t .undef),s.boxes,lJ d (fun x=>if x.1=t then(d,x.2)else x) s.own⟩ [(false,d,0),(false,t,0)]
 | bmv (d t k:Nat) (T:TypeId) (parts:Array (Nat×Operand)) (p:PVal) (es:List (List PVal)) (hd:o.dst = some d) (ho:o.op = .build T parts) (hdt:d ≠ t) (ht:s.tmps.getD t .undef = .slice es) (hin:(parts.toList.any fun x => GD t x.2) = true)
   (hp:cR P T (parts.toList.map fun x=>(x.1,opv GE s.tmps x.2))=some p) (hm:qcL P T (Su GE s.tmps parts.toList t) k):
   kz P GE bi rw o id s ⟨s.tmps.set d p,s.boxes,lJ d (fun x=>if x=(t,0)then(d,k)else x) s.own⟩ [(false,d,0),(false,t,0)]
 | ld (d:Nat) (T:TypeId) (x:Operand) (i off:Nat) (cs:List PVal) (own L:List (Nat×TypeId)) (p:PVal) (hd:o.dst = some d) (ho:o.op = .load T x) (hx:opv GE s.tmps x = .bptr i off) (hB:s.boxes[i]? = some (.cells cs own))
   (h:(∃e,P.underlying T=some (.slice e)/\cs[off]? =some p/\L=[(0,e)])\/(∃fs l,P.underlying T=some (.struct fs)/\bM P T (cs.drop off)=some (.agg l)/\p=.agg l/\(L.map (·.1)).Nodup/\∀y∈L,y.1<l.length))
   (hm:∀y∈L,(off+y.1,y.2)∈own):
   kz P GE bi rw o id s ⟨s.tmps.set d p,s.boxes.set i (.cells cs (own.filter fun x=>!L.any fun y=>x.1==off+y.1)),(L.map fun y=>((d,y.1),y.2)).reverse++ce d s.own⟩ ((false,d,0)::L.map fun y=>(true,i,off+y.1))
 | st (T:TypeId) (x y:Operand) (i off:Nat) (vs cs:List PVal) (own:List (Nat×TypeId)) (hd:o.dst = none) (ho:o.op = .store T x y) (hx:opv GE s.tmps x = .bptr i off) (hvs:cQ (opv GE s.tmps y) = some vs) (hB:s.boxes[i]? = some (.cells cs own))
   (hp:fH P T (.bptr i off) (opv GE s.tmps y) s.boxes=some (s.boxes.set i (.cells (cs.take off++vs++cs.drop (off+vs.length)) (own.filter fun y=>y.1<off||off+vs.length<=y.1)))):
   kz P GE bi rw o id s ⟨s.tmps,s.boxes.set i (.cells (cs.take off++vs++cs.drop (off+vs.length)) (own.filter fun y=>y.1<off||off+vs.length<=y.1)),s.own⟩ (Aj i off vs.length)
 | sto (T:TypeId) (x:Operand) (t i off:Nat) (vs cs:List PVal) (own L:List (Nat×TypeId)) (hd:o.dst = none) (ho:o.op = .store T x (.tmp t)) (hx:opv GE s.tmps x = .bptr i off) (hvs:cQ (s.tmps.getD t .undef) = some vs) (hB:s.boxes[i]? = some (.cells cs own))
   (hp:fH P T (.bptr i off) (s.tmps.getD t .undef) s.boxes=some (s.boxes.set i (.cells (cs.take off++vs++cs.drop (off+vs.length)) (own.filter fun y=>y.1<off||off+vs.length<=y.1))))
   (hk:(∃l,s.tmps.getD t .undef=.agg l)\/((s.tmps.getD t .undef).one=true/\∃e,L=[(0,e)])) (hm:∀y∈L,((t,y.1),y.2)∈s.own) (hn:(L.map (·.1)).Nodup) (hl:∀y∈L,y.1<vs.length):
   kz P GE bi rw o id s ⟨s.tmps,s.boxes.set i (.cells (cs.take off++vs++cs.drop (off+vs.length)) ((L.map fun y=>(off+y.1,y.2)).reverse++own.filter fun y=>y.1<off||off+vs.length<=y.1)),s.own.filter fun x=>!L.any fun y=>x.1==(t,y.1)⟩
    ((false,t,0)::Aj i off vs.length)
 |mu (t:TypeId) (m k x:Operand) (H:List aM) (hd:o.dst=none) (ho:o.op=.mapUpdate t m k x) (hp:jN P t (opv GE s.tmps m) (opv GE s.tmps k) (opv GE s.tmps x) s.boxes=some H):kz P GE bi rw o id s ⟨s.tmps,H,s.own⟩ []
 | callR (d:Nat) (f:Operand) (args:Array Operand) (tys:Array TypeId) (r:PVal) (ro:List (Nat×TypeId)) (oa:List OA) (ho:o.op = .call { callee := .value f,args,argTypes:=tys }) (hd:o.dst = some d)
   (hg:∀st:aB,(∀x,x=f\/x∈args.toList->opv GE s.tmps x=opv GE st.tmps x)->(∀x∈oa,((x.t,x.k),x.e)∈s.own->((x.t,x.k),x.e)∈st.own)->LS P GE f args.toList st r ro st.boxes oa):
   kz P GE bi rw o id s ⟨s.tmps.set d r,s.boxes,(ro.map fun x=>((d,x.1),x.2))++ce d (s.own.filter fun z=>!oa.any fun x=>z.1==(x.t,x.k))⟩ ((false,d,0)::oa.map fun x=>(false,x.t,0))
 | cl (d i:Nat) (f x:Operand) (tys:Array TypeId) (g:FuncId) (e:TypeId) (es:List (List PVal)) (ho:o.op = .call { callee := .value f,args:=⟨[x]⟩,argTypes:=tys }) (hd:o.dst = some d) (hb:bi = some (i,.cells es.flatten []))
   (hf:opv GE s.tmps f=.func (.func g) [] []) (hx:opv GE s.tmps x=.slice es) (hC:ww P g e) (h0:0<P.cellsOf e) (h1:∀x∈es,x.length=P.cellsOf e/\∀q∈x,q.one=true) (h2:es.length<=fX):
   kz P GE bi rw o id s ⟨s.tmps.set d (.bsl i 0 es.length),s.boxes,ce d s.own⟩ [(false,d,0)]
 | stR (T:TypeId) (x y:Operand) (i off:Nat) (cs cs':List PVal) (hd:o.dst = none) (ho:o.op = .store T x y) (hx:opv GE s.tmps x = .bptr i off) (hB:s.boxes[i]? = some (.cells cs []))
   (hp:fH P T (.bptr 0 off) (opv GE s.tmps y) [.cells cs []]=some [.cells cs' []]) (hi:2 * i∈rw):
   kz P GE bi rw o id s ⟨s.tmps,s.boxes.set i (.cells cs' []),s.own⟩ []
structure qb1(P:Program)(rw:List Nat)(o:Oper)(s s':aB)(rs:List Rs):Prop where
 tm:match o.dst with
  |some d=>∃p,s'.tmps=s.tmps.set d p
  |none=>s'.tmps=s.tmps
 bx:ca P rw o≠3->s'.boxes.map bC=s.boxes.map bC
 back:∀τ,eO τ∉rs->kD s' τ->kD s τ
theorem PK{H:List aM}{i:Nat}{cs:List PVal}{own own':List (Nat×TypeId)}(hB:H[i]? =some (.cells cs own)):(H.set i (.cells cs own')).map bC=H.map bC:=by
 apply va6
 intro j
 simp only[vaw]
 by_cases hj:i=j
 ·subst hj
  rw[vai (am hB),hB];rfl
 ·rw[var hj]
theorem dh{st:aB}{t k:Nat}{e:TypeId}:kD st (false,(t,k),e)↔((t,k),e)∈st.own:=Iff.rfl
theorem fj{st:aB}{i j:Nat}{e:TypeId}:kD st (true,(i,j),e)↔∃cs own,st.boxes[i]? =some (.cells cs own)/\(j,e)∈own:=Iff.rfl
theorem wn{i off n i' j':Nat}:(true,i',j')∈Aj i off n↔i'=i/\off<=j'/\j'<off+n:=by
 unfold Aj
 simp only[vah,vbx,Prod.mk.injEq,vcf]
 constructor
 ·rintro⟨k,hk,rfl,rfl⟩;exact⟨rfl,by omega,by omega⟩
 ·rintro⟨rfl,h1,h2⟩;exact⟨j' - off,by omega,rfl,by omega⟩
theorem gK{d:Nat}{own:List ((Nat×Nat)×TypeId)}{x:(Nat×Nat)×TypeId}(h:x∈own)(hd:x.1.1≠d):x∈ce d own:=by
 unfold ce;exact vaY.2 ⟨h,by simpa using hd⟩
theorem Ev{t:TypeId}{m k v:PVal}{H H':List aM}(h:jN P t m k v H=some H'):∃i es es',H[i]? =some (.map es)/\H'=H.set i (.map es'):=by
 unfold jN at h
 split at h
 ·rename_i kt e i _ _
  split at h
  ·rename_i es kd hB _
   split at h
   ·split at h
    ·cases h;exact⟨_,es,_,hB,rfl⟩
    ·cases h;exact⟨_,es,_,hB,rfl⟩
    ·cases h
   ·cases h
  ·cases h
 ·cases h
theorem jf{st:aB}{tm:List PVal}{ow:List ((Nat×Nat)×TypeId)}{i:Nat}{B:aM}{i' j':Nat}{e:TypeId}(hne:i≠i'):kD ⟨tm,st.boxes.set i B,ow⟩ (true,(i',j'),e)↔kD st (true,(i',j'),e):=by
 simp only[fj,var hne]
theorem kz.eff{bi:Option (Nat×aM)}{rw:List Nat}{o:Oper}{id:Nat}{s s':aB}{rs:List Rs}(h:kz P GE bi rw o id s s' rs):qb1 P rw o s s' rs:=by
 have slot:∀{d:Nat} {p:PVal} {L:List (Nat×TypeId)} {rs:List Rs} {τ:TQ},(false,d,0)∈rs->eO τ∉rs->kD ⟨s.tmps.set d p,s.boxes,(L.map fun x=>((d,x.1),x.2))++ce d s.own⟩ τ->kD s τ:=by
  rintro d p L rs ⟨b,⟨t,k⟩,e⟩ hd hr hh
  cases b with
  |true=>exact hh
  | false =>
   rcases vaO.1 (dh.1 hh)with hh|hh
   ·simp only[vah,Prod.mk.injEq]at hh
    obtain⟨x,_,⟨rfl,_⟩,_⟩:=hh
    exact absurd hd hr
   ·exact(eu hh).1
 have slot0:∀{d:Nat} {p:PVal} {rs:List Rs} {τ:TQ},(false,d,0)∈rs->eO τ∉rs->kD ⟨s.tmps.set d p,s.boxes,ce d s.own⟩ τ->kD s τ:=fun{d p rs τ} hd hr hh=>slot (L:=[]) hd hr hh
 cases h with
 |call d f args tys g first cap r ro ho hd hf hcl hc=>exact⟨by rw[hd];exact⟨r,rfl⟩,fun _=>rfl,fun τ hr hh=>slot (by simp) hr hh⟩
 |alloc d t zs ho hd hz=>exact⟨by rw[hd];exact⟨_,rfl⟩,fun _=>rfl,fun τ hr hh=>slot0 (by simp) hr hh⟩
 |mkmap d t ho hd=>exact⟨by rw[hd];exact⟨_,rfl⟩,fun _=>rfl,fun τ hr hh=>slot0 (by simp) hr hh⟩
 |ev d p hd hn hm hc h=>exact⟨by rw[hd];exact⟨_,rfl⟩,fun _=>rfl,fun τ hr hh=>slot0 (by simp) hr hh⟩
 |res d p L hd h=>exact⟨by rw[hd];exact⟨_,rfl⟩,fun _=>rfl,fun τ hr hh=>slot (by simp) hr hh⟩
 | app d t T e y es ns p hd ho hT he hn hp hm =>
  refine⟨by rw[hd];exact⟨_,rfl⟩,fun _=>rfl,?_⟩
  rintro⟨b,⟨t',k⟩,e'⟩ hr hh
  cases b with
  |true=>exact hh
  | false =>
   rcases vaC.1 (dh.1 hh)with hh|hh
   ·cases hh;exact absurd (by simp[eO]) hr
   ·exact(cF (eu hh).1).1
 | mv d t hd ho hdt =>
  refine⟨by rw[hd];exact⟨_,rfl⟩,fun _=>rfl,?_⟩
  rintro⟨b,⟨t',k⟩,e'⟩ hr hh
  cases b with
  |true=>exact hh
  | false =>
   have hh:=dh.1 hh
   simp only[lJ,vah]at hh
   obtain⟨⟨⟨t2,k2⟩,e2⟩,hx,he⟩:=hh
   simp only[Prod.mk.injEq]at he
   obtain⟨he,rfl⟩:=he
   split at he
   ·cases he;exact absurd (by simp[eO]) hr
   ·cases he;exact(eu hx).1
 | bmv d t k T parts p es hd ho hdt ht hin hp hm =>
  refine⟨by rw[hd];exact⟨_,rfl⟩,fun _=>rfl,?_⟩
  rintro⟨b,⟨t',k'⟩,e'⟩ hr hh
  cases b with
  |true=>exact hh
  | false =>
   have hh:=dh.1 hh
   simp only[lJ,vah]at hh
   obtain⟨⟨⟨t2,k2⟩,e2⟩,hx,he⟩:=hh
   simp only[Prod.mk.injEq]at he
   obtain⟨he,rfl⟩:=he
   split at he
   ·cases he;exact absurd (by simp[eO]) hr
   ·cases he;exact(eu hx).1
 | ld d T x i off cs own L p hd ho hx hB h hm =>
  refine⟨by rw[hd];exact⟨_,rfl⟩,fun _=>PK hB,?_⟩
  rintro⟨b,⟨t',k⟩,e'⟩ hr hh
  cases b with
  | true =>
   by_cases hi:i=t'
   ·subst hi
    obtain⟨cs',own',h1,h2⟩:=fj.1 hh
    simp only[vai (am hB),vat,aM.cells.injEq]at h1
    obtain⟨rfl,rfl⟩:=h1
    exact⟨_,_,hB,(cF h2).1⟩
   ·exact(jf hi).1 hh
  | false =>
   rcases vaO.1 (dh.1 hh)with hh|hh
   ·simp only[vb7,vah,Prod.mk.injEq]at hh
    obtain⟨y,_,⟨rfl,_⟩,_⟩:=hh
    exact absurd (by simp[eO]) hr
   ·exact(eu hh).1
 | st T x y i off vs cs own hd ho hx hvs hB hp =>
  refine⟨by rw[hd],fun hc=>absurd (by simp[ca,cD,ho]) hc,?_⟩
  rintro⟨b,⟨t',k⟩,e'⟩ hr hh
  cases b with
  |false=>exact hh
  | true =>
   by_cases hi:i=t'
   ·subst hi
    obtain⟨cs',own',h1,h2⟩:=fj.1 hh
    simp only[vai (am hB),vat,aM.cells.injEq]at h1
    obtain⟨rfl,rfl⟩:=h1
    exact⟨_,_,hB,(cF h2).1⟩
   ·exact(jf hi).1 hh
 | sto T x t i off vs cs own L hd ho hx hvs hB hp hk hm hn hl =>
  refine⟨by rw[hd],fun hc=>absurd (by simp[ca,cD,ho]) hc,?_⟩
  rintro⟨b,⟨t',k⟩,e'⟩ hr hh
  cases b with
  |false=>exact(cF (dh.1 hh)).1
  | true =>
   by_cases hi:i=t'
   ·subst hi
    obtain⟨cs',own',h1,h2⟩:=fj.1 hh
    simp only[vai (am hB),vat,aM.cells.injEq]at h1
    obtain⟨rfl,rfl⟩:=h1
    rcases vaO.1 h2 with h2|h2
    ·simp only[vb7,vah,Prod.mk.injEq]at h2
     obtain⟨y,hy,rfl,_⟩:=h2
     refine absurd (vaU _ (wn.2 ⟨rfl,?_,?_⟩)) hr
     ·simp
     ·have:=hl y hy;simp;omega
    ·exact⟨_,_,hB,(cF h2).1⟩
   ·exact(jf hi).1 hh
 | mu t m k x H hd ho hp =>
  refine⟨by rw[hd],fun hc=>absurd (by simp[ca,cD,ho]) hc,?_⟩
  obtain⟨i,es,es',hB,rfl⟩:=Ev hp
  rintro⟨b,⟨t',k⟩,e'⟩ hr hh
  cases b with
  |false=>exact hh
  | true =>
   by_cases hi:i=t'
   ·subst hi
    obtain⟨cs',own',h1,h2⟩:=fj.1 hh
    simp only[vai (am hB),vat]at h1
    cases h1
   ·exact(jf hi).1 hh
 | callR d f args tys r ro oa ho hd hg =>
  refine⟨by rw[hd];exact⟨r,rfl⟩,fun _=>rfl,?_⟩
  rintro⟨b,⟨t',k⟩,e'⟩ hr hh
  cases b with
  |true=>exact hh
  | false =>
   rcases vaO.1 (dh.1 hh)with hh|hh
   ·simp only[vah,Prod.mk.injEq]at hh
    obtain⟨x,_,⟨rfl,_⟩,_⟩:=hh
    exact absurd (by simp[eO]) hr
   ·exact(cF (eu hh).1).1
 |cl d i f x tys g e es ho hd hb hf hx hC h0 h1 h2=>exact⟨by rw[hd];exact⟨_,rfl⟩,fun _=>rfl,fun τ hr hh=>slot0 (by simp) hr hh⟩
 | stR T x y i off cs cs' hd ho hx hB hp hi =>
  refine⟨by rw[hd],fun hc=>absurd (by simp[ca,cD,ho]) hc,?_⟩
  rintro⟨b,⟨t',k⟩,e'⟩ hr hh
  cases b with
  |false=>exact hh
  | true =>
   by_cases hi':i=t'
   ·subst hi'
    obtain⟨cs1,uJ,k1,k2⟩:=fj.1 hh
    simp only[vai (am hB),vat,aM.cells.injEq]at k1
    obtain⟨rfl,rfl⟩:=k1
    cases k2
   ·exact(jf hi').1 hh
theorem RS{H H2:List aM}(h:H2.map bC=H.map bC){i:Nat}{es:List (PVal×PVal)}(hi:H[i]? =some (.map es)):H2[i]? =some (.map es):=by
 have:=RR h i
 rw[hi]at this
 cases hB:H2[i]? with
 |none=>rw[hB]at this;cases this
 |some B=>
  rw[hB]at this
  cases B<;>simp[bC]at this
  subst this
  rfl
theorem CE{H H2:List aM}(h:H2.map bC=H.map bC){i:Nat}{B B2:aM}(hB:bC B2=bC B):(H2.set i B2).map bC=(H.set i B).map bC:=by
 rw[List.map_set,List.map_set,h,hB]
theorem OI{t:TypeId}{m k v:PVal}{H H' H2:List aM}(hs:H2.map bC=H.map bC)(h:jN P t m k v H=some H'):∃i es',m=.mapr i/\H'=H.set i (.map es')/\jN P t m k v H2=some (H2.set i (.map es')):=by
 unfold jN at h ⊢
 split at h
 ·split at h
  ·rename_i es kd hB hk
   split at h
   ·rename_i hkk
    split at h
    ·rename_i hf;cases h;refine⟨_,_,rfl,rfl,?_⟩;simp only[RS hs hB,hk,vaq hkk,hf]
    ·rename_i hf;cases h;refine⟨_,_,rfl,rfl,?_⟩;simp only[RS hs hB,hk,vaq hkk,hf]
    ·cases h
   ·cases h
  ·cases h
 ·cases h
structure V1(P:Program)(bs:bQ)(rw:List Nat)(o:Oper)(st st' s s':aB)(rs:List Rs):Prop where
 tm:match o.dst with
  |some d=>∃p,st'.tmps=st.tmps.set d p/\s'.tmps=s.tmps.set d p
  |none=>st'.tmps=st.tmps/\s'.tmps=s.tmps
 b1:ca P rw o≠3->st'.boxes.map bC=st.boxes.map bC
 b2:ca P rw o=3->st'.boxes.map bC=s'.boxes.map bC
 keep:∀τ,eO τ∉rs->(τ.1=true->2 * τ.2.1.1∉rw)->kD st τ->kD st' τ
 got:∀τ,eO τ∈rs->kD s' τ->kD st' τ
 un:∀i:Nat,bs[i]? =some none->st'.boxes[i]? =st.boxes[i]?
theorem Km{st:aB}{tm:List PVal}{d:Nat}{L:List (Nat×TypeId)}{rs:List Rs}{R:TQ->Prop}(hd:(false,d,0)∈rs)(τ:TQ)(hr:eO τ∉rs)(_:R τ)(h:kD st τ):kD ⟨tm,st.boxes,(L.map fun x=>((d,x.1),x.2))++ce d st.own⟩ τ:=by
 obtain⟨b,⟨t,k⟩,e⟩:=τ
 cases b with
 |true=>exact h
 |false=>exact vaR _ (gK (dh.1 h) fun hx=>by simp only at hx;subst hx;exact hr hd)
theorem RU{st s:aB}{tm tm':List PVal}{d:Nat}{L:List (Nat×TypeId)}(τ:TQ)(hr:eO τ∈[(false,d,0)])(h:kD ⟨tm',s.boxes,(L.map fun x=>((d,x.1),x.2))++ce d s.own⟩ τ):kD ⟨tm,st.boxes,(L.map fun x=>((d,x.1),x.2))++ce d st.own⟩ τ:=by
 obtain⟨b,⟨t,k⟩,e⟩:=τ
 cases b with
 |true=>simp[eO]at hr
 | false =>
  rcases vaO.1 (dh.1 h)with h|h
  ·exact va0 _ h
  ·have:=(eu h).2
   simp[eO]at hr
   exact absurd hr this
section
variable{E:uc}{Γ:bv}{bs:bQ}{ow:Nat->Option nQ}{w:World}{a:Act}{st:aB}
theorem Io{T:TypeId}{i off:Nat}{y:PVal}{vs cs:List PVal}{own:List (Nat×TypeId)}{H H':List aM}(hvs:cQ y=some vs)(hB:H[i]? =some (.cells cs own))(hp:fH P T (.bptr i off) y H=some H'){H2:List aM}{own2:List (Nat×TypeId)}(hB2:H2[i]? =some (.cells cs own2)):fH P T (.bptr i off) y H2=some (H2.set i (.cells (cs.take off++vs++cs.drop (off+vs.length)) (own2.filter fun y=>y.1<off||off+vs.length<=y.1))):=by
 simp only[fH,hvs,hB]at hp
 simp only[fH,hvs,hB2]
 split at hp
 ·rename_i hc;rw[vaq hc]
 ·cases hp
theorem TH{T:TypeId}{i off:Nat}{y:PVal}{cs cs':List PVal}{own2:List (Nat×TypeId)}{H:List aM}(hp:fH P T (.bptr 0 off) y [.cells cs []]=some [.cells cs' []])(hB:H[i]? =some (.cells cs own2)):∃own',fH P T (.bptr i off) y H=some (H.set i (.cells cs' own')):=by
 unfold fH at hp ⊢
 split at hp
 ·rename_i i' off' vs h1 h2
  cases h1
  simp only[List.getElem?_cons_zero]at hp
  simp only[h2,hB]
  split at hp
  ·rename_i hc
   rw[vaq hc]
   simp only[List.set_cons_zero,vat,vbB,aM.cells.injEq,vcs]at hp
   obtain⟨rfl,_⟩:=hp
   exact⟨_,rfl⟩
  ·cases hp
 ·cases hp
theorem SR.fillBox{a:Array Value}(h:SR P E Γ bs ow w a st){i:Nat}(hid:bs[i]? =some none){cs:List PVal}(hB:st.boxes[i]? =some (.cells cs []))(xb:Option Nat)
  (hx:∀b,xb=some b->(∃cur t,w.heap[b]? =some (.cells cur t (0,0))/\cs.length<=cur.size/\∀(j:Nat) p v,cs[j]? =some p->cur[j]? =some v->VR Γ bs w p v)/\Γ b=none/\(E.T b\/E.w.heap.size<=b)/\∀i:Nat,bs[i]? ≠some (some b)):
  SR P E Γ (bs.set i xb) ow w a st:=by
 have hs:bs.Sub (bs.set i xb):=fun j b hb=>EA hid hb
 have hlt:i<bs.length:=am hid
 have hcase:∀{j b:Nat},(bs.set i xb)[j]? =some (some b)->(j=i/\xb=some b)\/(j≠i/\bs[j]? =some (some b)):=by
  intro j b hb
  by_cases hj:j=i
  ·subst hj
   rw[vai hlt]at hb
   exact .inl ⟨rfl,by simpa using hb⟩
  ·rw[var (fun e=>hj e.symm)]at hb
   exact .inr ⟨hj,hb⟩
 exact{h with
  tm:=fun t p v hp hv=>(h.tm t p v hp hv).mono (.refl _ _) hs
  bl:=by simp[h.bl]
  bx:=fun j b B hb hB'=>by
   rcases hcase hb with⟨rfl,hb'⟩|⟨hj,hb'⟩
   ·obtain⟨⟨cur,t,k1,k2,k3⟩,k4,k5,k6⟩:=hx b hb'
    rw[hB]at hB'
    cases hB'
    exact⟨k4,(vae.1 k1).1,cur,t,k1,k2,fun j p v hp hv=>(k3 j p v hp hv).mono (.refl _ _) hs⟩
   ·obtain⟨h1,h2,h3⟩:=h.bx j b B hb' hB'
    exact⟨h1,h2,h3.mono (.refl _ _) hs rfl⟩
  inj:=fun j k b hj hk=>by
   rcases hcase hj with⟨rfl,hj'⟩|⟨_,hj'⟩<;>rcases hcase hk with⟨rfl,hk'⟩|⟨_,hk'⟩
   ·rfl
   ·exact absurd hk' ((hx b hj').2.2.2 k)
   ·exact absurd hj' ((hx b hk').2.2.2 j)
   ·exact h.inj j k b hj' hk'
  bn:=fun j b hb=>by
   rcases hcase hb with⟨rfl,hb'⟩|⟨_,hb'⟩
   ·exact(hx b hb').2.2.1
   ·exact h.bn j b hb'
  ob:=fun j k e cs' own b hB' hj hb=>by
   rcases hcase hb with⟨rfl,hb'⟩|⟨_,hb'⟩
   ·rw[hB]at hB'
    cases hB'
    simp at hj
   ·exact h.ob j k e cs' own b hB' hj hb'
  gl:=fun g cs hg=>(h.gl g cs hg).mono (.refl _ _) hs}
theorem S9{a:Array Value}(h:SR P E Γ bs ow w a st){i:Nat}(hid:bs[i]? =some none){ns:List (List PVal)}(hB:st.boxes[i]? =some (.cells ns.flatten [])){f:FuncId}{e:TypeId}{x:Value}(hC:ww P f e)(hx:VR Γ bs w (.slice ns) x)(hsz0:0<P.cellsOf e)(hns1:∀x∈ns,x.length=P.cellsOf e/\∀q∈x,q.one=true)(hlen:ns.length<=fX):Calls P f #[x] w fun r w'=>∃v' xb,r=.returned v'/\SR P E Γ (bs.set i xb) ow w' a st/\VR Γ (bs.set i xb) w' (.bsl i 0 ns.length) v':=by
 obtain⟨news,hnx,hnl,hn1,hnv⟩:=LK hx hsz0 hns1
 refine(hC.2 w x ns.length news hnx hnl hn1 hlen).mono fun r w' hr=>?_
 obtain⟨v',rfl,hown,hb,hbd⟩:=hr
 obtain⟨hle,hS⟩:=Eb h hb hbd
 rcases hown.2 with⟨rfl,hn⟩|⟨g,cap,cur,rfl,hge,hheap,hnc,hcm,hcs,htake⟩
 ·have hns0:ns=[]:=vap hn
  subst hns0
  exact⟨_,none,rfl,hS.fillBox hid hB none (fun b hb=>by cases hb),.bsl _ _ _ _ _ (vaN _) (fun _=>rfl) (.inl rfl)⟩
 ·refine⟨_,some g,rfl,hS.fillBox hid hB (some g) (fun b hb'=>?_),?_⟩
  ·cases hb'
   refine⟨⟨cur,e,hheap,Fj hsz0 (fun x hx=>(hns1 x hx).1) fun i x k q hx hq=>?_⟩,?_,.inr (vay h.step.size hge),fun i hi=>?_⟩
   ·obtain⟨u,k1,k2⟩:=hnv i x k q hx hq
    refine⟨u,?_,k2.mono hle (.refl _)⟩
    have hlt:=am k1
    rw[<-htake,vao (by omega)]at k1
    simpa using k1
   ·cases hg:Γ g with
    |none=>rfl
    |some m=>exact absurd (h.lt_of_ghost hg) (by omega)
   ·have:=(h.bx i g (st.boxes[i]'(by rw[<-h.bl];exact am hi)) hi (by simp)).2.1
    omega
  ·exact .bsl _ _ _ _ _ hnc (fun h=>by cases h) (.inr ⟨g,rfl,vai (am hid)⟩)
theorem Vw{es:List (List PVal)}{u:Value}(h:VR Γ bs w (.slice es) u):∃b n m,u=.slice b n m:=by
 cases h<;>exact⟨_,_,_,rfl⟩
theorem Ol(h:SR P E Γ bs ow w a.tmps st){o:Oper}{id d t k:Nat}{T:TypeId}{parts:Array (Nat×Operand)}{p:PVal}{es:List (List PVal)}{K:aB->Prop}(ho:o.op=.build T parts)(hdst:o.dst=some d)(hd:d<st.tmps.length)(hg:st.tmps.getD t .undef=.slice es)
  (hp:cR P T (parts.toList.map fun x=>(x.1,opv E.GE st.tmps x.2))=some p) (hm:qcL P T (Su E.GE st.tmps parts.toList t) k)
  (hK:K ⟨st.tmps.set d p,st.boxes,lJ d (fun x=>if x=(t,0)then(d,k)else x) st.own⟩) (Q:Exit->Act->World->Prop):
  o.wp P a w (ip P E bs id (aP o.op) a.defers K) Q:=by
 have hρ:∀x,VR Γ bs w (opv E.GE st.tmps x) (a.eval x):=fun x=>h.opv a.defers x
 obtain⟨k1,k2⟩:=BG hρ parts.toList
 obtain⟨v,r1,r2⟩:=Cs k1 k2 hp
 have hu:VR Γ bs w (.slice es) (a.eval (.tmp t)):=by
  have:=hρ (.tmp t)
  rwa[show opv E.GE st.tmps (.tmp t)=st.tmps.getD t .undef from rfl,hg]at this
 obtain⟨b,n,m,hu⟩:=Vw hu
 obtain⟨cs,hcs,hck⟩:=hm b n m
 have hρ2:∀x:Operand,VR Γ bs w (if GD t x=true then .val (.slice b n m)else opv E.GE st.tmps x) (a.eval x):=fun x=>by
  split
  ·rename_i hx
   rw[Pb hx,hu]
   exact .val _
  ·exact hρ x
 obtain⟨l1,l2⟩:=BG (v:=fun x=>if GD t x=true then .val (.slice b n m)else opv E.GE st.tmps x) hρ2 parts.toList
 obtain⟨v2,s1,s2⟩:=Cs l1 l2 hcs
 rw[r1]at s1
 cases s1
 have hrun:(execOp a.eval o).run P w=.ok (.value v) w:=by
  have:(parts.map fun x=>(x.1,a.eval x.2))=(parts.toList.map fun x=>(x.1,a.eval x.2)).toArray:=by apply vbM;simp
  simp only[execOp,ho]
  rw[this]
  simp[r1]
 unfold Oper.wp
 rw[hrun,Oper.upon_value]
 have hpv:mU v k=some (.slice b n m):=by
  cases s2 with
  |agg _ vs hl hv=>
   have hlt:k<vs.size:=by rw[hl];exact am hck
   have:=hv k _ vs[k] hck (by simp[hlt])
   show vs[k]? =_
   rw[vaH hlt]
   generalize vs[k]=q at this
   cases this
   rfl
 have:=h.setRen (d:=d) (p:=p) r2 (fun x=>if x=(t,0)then(d,k)else x) (by rw[h.sz];exact hd) fun t' k' e' _ ht'=>by
  by_cases hx:((t',k'):Nat×Nat)=(t,0)
  ·cases hx
   refine .inr ⟨k,by simp,fun u v' hu' hv' _=>?_⟩
   rw[fJ hu']at hu
   subst hu
   have:v'=.slice b n m:=by
    simp only[mU,if_true,vat]at hv'
    exact hv'.symm
   rw[this];exact hpv
  ·exact .inl (vas hx)
 have hput:∀v,(a.put o.dst v).tmps=a.tmps.setIfInBounds d v:=fun v=>by rw[hdst];rfl
 rw[<-hput]at this
 exact⟨cf _ _ _,Γ,bs,_,_,this,hK,.inl rfl⟩
theorem kz.sound(h:SR P E Γ bs ow w a.tmps st){bi:Option (Nat×aM)}{rw:List Nat}{o:Oper}{id:Nat}{s s':aB}{rs:List Rs}(hs:kz P E.GE bi rw o id s s' rs)(hid:aP o.op=true->bs[id]? =some none/\st.boxes[id]? =qm P o)(hbi:∀i B,bi=some (i,B)->bs[i]? =some none/\st.boxes[i]? =some B)
    (hopv:∀x∈o.op.operands.toList,opv E.GE s.tmps x=opv E.GE st.tmps x) (hbx:2<=ca P rw o->st.boxes.map bC=s.boxes.map bC) (htok:∀τ,eO τ∈rs->kD s τ->kD st τ) (hdd:∀d,o.dst=some d->d<st.tmps.length)
    (Q:Exit->Act->World->Prop):
    o.wp P a w (fun a' w'=>a'.defers=a.defers/\∃Γ' bs' ow' st',SR P E Γ' bs' ow' w' a'.tmps st'/\V1 P bs rw o st st' s s' rs/\(bs'=bs\/(aP o.op=true/\∃b,bs'=bs.set id (some b))\/∃i B x,bi=some (i,B)/\bs'=bs.set i x)) Q:=by
  have fin:∀{st'},V1 P bs rw o st st' s s' rs->o.wp P a w (ip P E bs id (aP o.op) a.defers (·=st')) Q->o.wp P a w (fun a' w'=>a'.defers=a.defers/\∃Γ' bs' ow' st',SR P E Γ' bs' ow' w' a'.tmps st'/\V1 P bs rw o st st' s s' rs/\(bs'=bs\/(aP o.op=true/\∃b,bs'=bs.set id (some b))\/∃i B x,bi=some (i,B)/\bs'=bs.set i x)) Q:=by
    intro st' hD hw
    refine Oper.wp_mono (fun a' w' hA=>?_) hw
    obtain⟨h1,Γ',bs',ow',st2,h2,rfl,h3⟩:=hA
    exact⟨h1,Γ',bs',ow',_,h2,hD,h3.imp_right .inl⟩
  have hid':aP o.op=true->bs[id]? =some none:=fun hm=>(hid hm).1
  have live:∀{x:Operand} {i off:Nat},opv E.GE st.tmps x=.bptr i off->∃b,bs[i]? =some (some b):=by
    intro x i off hx
    have hv:=h.opv a.defers x
    rw[hx]at hv
    generalize (Act.mk a.tmps a.defers).eval x=vx at hv
    cases hv with
    |bptr _ _ b hb=>exact⟨b,hb⟩
  cases hs with
  | call d f args tys g first cap r ro ho hd hf hcl hc =>
    have hop:∀x,x=f\/x∈args.toList->opv E.GE s.tmps x=opv E.GE st.tmps x:=fun x hx=>hopv x (by rw[ho];simp[Op.operands,Call.operands];simpa using hx)
    have hargs:args.toList.map (opv E.GE s.tmps)=args.toList.map (opv E.GE st.tmps):=va8 fun x hx=>hop x (.inr hx)
    rw[hargs]at hcl hc
    rw[hop f (.inl rfl)]at hf
    refine fin (st':=⟨st.tmps.set d r,st.boxes,(ro.map fun x=>((d,x.1),x.2))++ce d st.own⟩) ⟨by rw[hd];exact⟨r,rfl,rfl⟩,fun _=>rfl,fun hc=>hbx (by rw[hc];decide),Km (by simp),RU,fun _ _=>rfl⟩ ?_
    refine ip.of h hid' (by simp[qi,ho,hd,hdd d hd]) ?_ Q
    unfold OG
    rw[ho]
    simp only[GN,hf]
    refine .inl ⟨hcl,r,ro,hc,?_⟩
    rw[hd];rfl
  | alloc d t zs ho hd hz =>
    have hpre:=(hid (by rw[ho];rfl)).2
    simp only[qm,ho,hz]at hpre
    refine fin (st':=⟨st.tmps.set d (.bptr id 0),st.boxes,ce d st.own⟩) ⟨by rw[hd];exact⟨_,rfl,rfl⟩,fun _=>rfl,fun hc=>by simp[ca,cD,ho]at hc,Km (L:=[]) (by simp),RU (L:=[]),fun _ _=>rfl⟩ ?_
    refine ip.of h hid' (by simp[qi,ho]) ?_ Q
    unfold OG
    rw[ho]
    simp only[vG,hz,vag,Iu hpre]
    rw[hd];rfl
  | mkmap d t ho hd =>
    have hpre:=(hid (by rw[ho];rfl)).2
    simp only[qm,ho]at hpre
    refine fin (st':=⟨st.tmps.set d (.mapr id),st.boxes,ce d st.own⟩) ⟨by rw[hd];exact⟨_,rfl,rfl⟩,fun _=>rfl,fun hc=>by simp[ca,cD,ho]at hc,Km (L:=[]) (by simp),RU (L:=[]),fun _ _=>rfl⟩ ?_
    refine ip.of h hid' (by simp[qi,ho]) ?_ Q
    unfold OG
    rw[ho]
    simp only[vG,Iu hpre]
    rw[hd];rfl
  | ev d p hd hn hm hc hp =>
    have hnc:∀f args tys,o.op≠.call {callee:=.value f,args,argTypes:=tys}:=fun f args tys e=>by rw[e]at hn;cases hn
    rw[HF hnc]at hbx
    have hp2:=Zx (H2:=st.boxes) hc hm hp fun h2=>hbx h2
    rw[W6 hopv]at hp2
    refine fin (st':=⟨st.tmps.set d p,st.boxes,ce d st.own⟩) ⟨by rw[hd];exact⟨_,rfl,rfl⟩,fun _=>rfl,fun hc'=>by rw[HF hnc]at hc';exact absurd hc' hc,Km (L:=[]) (by simp),RU (L:=[]),fun _ _=>rfl⟩ ?_
    refine ip.of h hid' ?_ ?_ Q
    · unfold qi
      split
      ·rename_i f args tys ho;exact absurd ho (hnc _ _ _)
      ·rfl
    · unfold OG
      split
      ·rename_i f args tys ho;exact absurd ho (hnc _ _ _)
      · rw [hp2]
        show AW st o.dst p [] st.boxes=_
        rw[hd];rfl
  | res d p L hd hh =>
    have hcl:ca P rw o≠3:=by
      rcases hh with⟨T,len,parts,e,ho,_⟩|⟨T,parts,ho,_⟩|⟨v,e,ho|ho,_⟩<;>simp[ca,cD,ho]
    refine fin (st':=⟨st.tmps.set d p,st.boxes,(L.map fun x=>((d,x.1),x.2))++ce d st.own⟩) ⟨by rw[hd];exact⟨_,rfl,rfl⟩,fun _=>rfl,fun hc=>absurd hc hcl,Km (by simp),RU,fun _ _=>rfl⟩ ?_
    rcases hh with⟨T,len,parts,e,ho,h1,h2,rfl⟩|⟨T,parts,ho,h1,h2⟩|⟨v,e,ho,h1,rfl,rfl⟩
    · have hpt:(parts.toList.map fun x => (x.1,opv E.GE s.tmps x.2)) = parts.toList.map fun x => (x.1,opv E.GE st.tmps x.2):=va8 fun x hx => by rw [hopv x.2 (by rw [ho]; simp only [Op.operands]; exact vah.2 ⟨x,hx,rfl⟩)]
      rw[hpt]at h1
      exact Bj (K:=(·=_)) h ho hd (hdd d hd) h2 h1 rfl Q
    · have hpt:(parts.toList.map fun x => (x.1,opv E.GE s.tmps x.2)) = parts.toList.map fun x => (x.1,opv E.GE st.tmps x.2):=va8 fun x hx => by rw [hopv x.2 (by rw [ho]; simp only [Op.operands]; exact vah.2 ⟨x,hx,rfl⟩)]
      rw[hpt]at h1 h2
      exact D8 (K:=(·=_)) h ho hd (hdd d hd) h1 h2 rfl Q
    ·exact JF (K:=(·=_)) h ho hd (hdd d hd) h1 rfl Q
  | app d t T e y es ns p hd ho hT he hn hp hm =>
    have hop:∀x,x=.tmp t\/x=y->opv E.GE s.tmps x=opv E.GE st.tmps x:=fun x hx=>hopv x (by rw[ho];simp[Op.operands,Call.operands];rcases hx with rfl|rfl<;>simp)
    have he':st.tmps.getD t .undef=.slice es:=(hop (.tmp t) (.inl rfl)).symm.trans he
    rw[hop y (.inr rfl)]at hn
    have hm':((t,0),e)∈st.own:=htok (false,(t,0),e) (by simp[eO]) hm
    refine fin (st':=⟨st.tmps.set d p,st.boxes,((d,0),e)::ce d (st.own.filter fun x=>x.1 !=(t,0))⟩) ⟨by rw[hd];exact⟨_,rfl,rfl⟩,fun _=>rfl,fun hc=>by simp[ca,cD,ho]at hc,?_,?_,fun _ _=>rfl⟩ (HA (K:=(·=_)) h ho hd (hdd d hd) hT he' hn hp hm' rfl Q)
    · rintro ⟨b,⟨t',k⟩,e'⟩ hr _ hh
      cases b with
      |true=>exact hh
      | false =>
        simp[eO]at hr
        refine vaU _ (gK (vaY.2 ⟨dh.1 hh,?_⟩) hr.1)
        simp only[bne_iff_ne,ne_eq,Prod.mk.injEq,not_and]
        exact fun e=>absurd e hr.2
    · rintro ⟨b,⟨t',k⟩,e'⟩ hr hh
      cases b with
      |true=>simp[eO]at hr
      | false =>
        rcases vaC.1 (dh.1 hh)with hh|hh
        ·rw[hh];exact vch
        · obtain ⟨h1,h2⟩:=eu hh
          obtain⟨h3,h4⟩:=cF h1
          have h5:((t',k),e')∈st.own:=htok (false,(t',k),e') hr h3
          exact vaU _ (gK (vaY.2 ⟨h5,h4⟩) h2)
  | mv d t hd ho hdt =>
    have hg:s.tmps.getD t .undef=st.tmps.getD t .undef:=hopv (.tmp t) (by rcases ho with ho|ho<;>rw[ho]<;>simp[Op.operands])
    have hcl:ca P rw o≠3:=by rcases ho with ho|ho<;>simp[ca,cD,ho]
    refine fin (st':=⟨st.tmps.set d (st.tmps.getD t .undef),st.boxes,lJ d (fun x=>if x.1=t then(d,x.2)else x) st.own⟩) ⟨by rw[hd];exact⟨_,rfl,by rw[hg]⟩,fun _=>rfl,fun hc=>absurd hc hcl,?_,?_,fun _ _=>rfl⟩ (GH (K:=(·=_)) h ho hd (hdd d hd) rfl Q)
    · rintro ⟨b,⟨t',k⟩,e'⟩ hr _ hh
      cases b with
      |true=>exact hh
      | false =>
        simp[eO]at hr
        refine vah.2 ⟨((t',k),e'),gK (dh.1 hh) hr.1,?_⟩
        simp only
        rw[vas hr.2]
    · rintro ⟨b,⟨t',k⟩,e'⟩ hr hh
      cases b with
      |true=>simp[eO]at hr
      | false =>
        obtain⟨⟨⟨t2,k2⟩,e2⟩,hx,he⟩:=vah.1 (dh.1 hh)
        simp only[Prod.mk.injEq]at he
        obtain⟨he,rfl⟩:=he
        obtain⟨h1,h2⟩:=eu hx
        by_cases ht:t2=t
        · subst ht
          rw[vaq rfl]at he
          cases he
          have h5:((t2,k),e2)∈st.own:=htok (false,(t2,k),e2) (by simp[eO]) h1
          exact vah.2 ⟨((t2,k),e2),gK h5 h2,by simp⟩
        · rw [vas ht] at he
          cases he
          simp[eO]at hr
          rcases hr with hr|hr
          ·exact absurd hr h2
          ·exact absurd hr ht
  | bmv d t k T parts p es hd ho hdt ht hin hp hm =>
    have hin2:Operand.tmp t∈o.op.operands.toList:=by
      obtain⟨x,hx,hx2⟩:=vb6.1 hin
      rw[ho];simp only[Op.operands]
      exact vah.2 ⟨x,hx,Pb hx2⟩
    have hpar:∀x∈parts.toList,opv E.GE s.tmps x.2=opv E.GE st.tmps x.2:=fun x hx=>hopv x.2 (by rw[ho];simp only[Op.operands];exact vah.2 ⟨x,hx,rfl⟩)
    have hpt:(parts.toList.map fun x=>(x.1,opv E.GE s.tmps x.2))=parts.toList.map fun x=>(x.1,opv E.GE st.tmps x.2):=va8 fun x hx=>by rw[hpar x hx]
    have hpw:Su E.GE s.tmps parts.toList t=Su E.GE st.tmps parts.toList t:=by
      funext q
      exact va8 fun x hx=>by rw[hpar x hx]
    rw[hpt]at hp
    rw[hpw]at hm
    have hg:st.tmps.getD t .undef=.slice es:=(hopv (.tmp t) hin2).symm.trans ht
    have hcl:ca P rw o≠3:=by simp[ca,cD,ho]
    refine fin (st':=⟨st.tmps.set d p,st.boxes,lJ d (fun x=>if x=(t,0)then(d,k)else x) st.own⟩) ⟨by rw[hd];exact⟨_,rfl,rfl⟩,fun _=>rfl,fun hc=>absurd hc hcl,?_,?_,fun _ _=>rfl⟩ (Ol (K:=(·=_)) h ho hd (hdd d hd) hg hp hm rfl Q)
    · rintro ⟨b,⟨t',k'⟩,e'⟩ hr _ hh
      cases b with
      |true=>exact hh
      | false =>
        simp[eO]at hr
        refine vah.2 ⟨((t',k'),e'),gK (dh.1 hh) hr.1,?_⟩
        simp only
        rw[vas (fun e=>hr.2 (va9 Prod.fst e))]
    · rintro ⟨b,⟨t',k'⟩,e'⟩ hr hh
      cases b with
      |true=>simp[eO]at hr
      | false =>
        obtain⟨⟨⟨t2,k2⟩,e2⟩,hx,he⟩:=vah.1 (dh.1 hh)
        have h6:e2=e':=va9 Prod.snd he
        subst h6
        have he1:(if((t2,k2):Nat×Nat)=(t,0)then(d,k)else(t2,k2))=(t',k'):=va9 Prod.fst he
        obtain⟨h1,h2⟩:=eu hx
        by_cases ht2:((t2,k2):Nat×Nat)=(t,0)
        · have h5:((t2,k2),e2) ∈ st.own:=htok (false,(t2,k2),e2) (by cases ht2; simp [eO]) h1
          exact vah.2 ⟨((t2,k2),e2),gK h5 h2,he⟩
        · rw [vas ht2] at he1
          cases he1
          simp[eO]at hr
          rcases hr with hr|hr
          ·exact absurd hr h2
          · subst hr
            have h5:((t',k'),e2)∈st.own:=htok (false,(t',k'),e2) (by simp[eO]) h1
            exact vah.2 ⟨((t',k'),e2),gK h5 h2,he⟩
  | ld d T x i off cs own L p hd ho hx hB hh hm =>
    have hx':opv E.GE st.tmps x=.bptr i off:=(hopv x (by rw[ho];simp[Op.operands])).symm.trans hx
    obtain⟨bb,hbb⟩:=live hx'
    obtain⟨own2,hB2⟩:=Ck (hbx (by simp[ca,cD,ho])) hB
    have hm2:∀y∈L,(off+y.1,y.2)∈own2:=fun y hy=>by
      obtain⟨cs',own',e1,e2⟩:=fj.1 (htok (true,(i,off+y.1),y.2) (vaU _ (vah.2 ⟨y,hy,rfl⟩)) ⟨cs,own,hB,hm y hy⟩)
      rw[hB2]at e1;cases e1;exact e2
    refine fin (st':=⟨st.tmps.set d p,st.boxes.set i (.cells cs (own2.filter fun x=>!L.any fun y=>x.1==off+y.1)),(L.map fun y=>((d,y.1),y.2)).reverse++ce d st.own⟩)
      ⟨by rw[hd];exact⟨_,rfl,rfl⟩,fun _=>PK hB2,fun hc=>by simp[ca,cD,ho]at hc,?_,?_,fun k hk=>by rw[var (fun e=>by subst e;rw[hbb]at hk;cases hk)]⟩ ?_
    · rintro ⟨b,⟨t',k⟩,e'⟩ hr _ hh
      cases b with
      |false=>exact vaR _ (gK (dh.1 hh) fun hx=>hr (by simp only at hx;subst hx;simp[eO]))
      | true =>
        by_cases hi:i=t'
        · subst hi
          obtain⟨cs',own',e1,e2⟩:=fj.1 hh
          rw[hB2]at e1;cases e1
          refine⟨_,_,vai (am hB2),vaY.2 ⟨e2,?_⟩⟩
          simp only[vaJ,vbd,vaW]
          intro y hy e
          exact hr (vaU _ (vah.2 ⟨y,hy,by simp[eO,e]⟩))
        ·exact(jf hi).2 hh
    · rintro ⟨b,⟨t',k⟩,e'⟩ hr hh
      cases b with
      | false =>
        rcases vaO.1 (dh.1 hh)with hh|hh
        ·exact va0 _ hh
        · have h2:=(eu hh).2
          simp[eO]at hr
          exact absurd hr h2
      | true =>
        exfalso
        have hr2:(true,t',k)∈L.map fun y=>(true,i,off+y.1):=by simpa[eO]using hr
        obtain⟨y,hy,e⟩:=vah.1 hr2
        simp only[Prod.mk.injEq,vcf]at e
        obtain⟨rfl,rfl⟩:=e
        obtain⟨cs',own',e1,e2⟩:=fj.1 hh
        simp only[vai (am hB),vat,aM.cells.injEq]at e1
        obtain⟨rfl,rfl⟩:=e1
        have:=(cF e2).2
        simp only[vaJ,vbd,vaW]at this
        exact this y hy rfl
    · rcases hh with ⟨e,hT,hp,rfl⟩ | ⟨fs,l,hT,hp,rfl,hn,hl⟩
      · refine Gb (K:=(· = _)) h ho hd (hdd d hd) hT hx' hB2 hp (hm2 _ (vct _)) ?_ Q
        simp only[vaB,vb3,vcU,List.reverse_nil,vbl,List.singleton_append,aB.mk.injEq,vcf,vcs]
        congr 3
        funext z
        simp[bne]
      · refine GQ h (K:=(· = _)) ?_ Q
        unfold Nr
        simp only[ho,hd]
        exact⟨i,off,cs,own2,L,l,⟨fs,hT⟩,hx',hB2,hp,hm2,hn,hl,hdd d hd,rfl⟩
  | st T x y i off vs cs own hd ho hx hvs hB hp =>
    have hx':opv E.GE st.tmps x=.bptr i off:=(hopv x (by rw[ho];simp[Op.operands])).symm.trans hx
    have hy':opv E.GE s.tmps y=opv E.GE st.tmps y:=hopv y (by rw[ho];simp[Op.operands])
    rw[hy']at hvs hp
    obtain⟨bb,hbb⟩:=live hx'
    have hst:=hbx (by simp[ca,cD,ho])
    obtain⟨own2,hB2⟩:=Ck hst hB
    have hp2:=Io hvs hB hp hB2
    refine fin (st':=⟨st.tmps,st.boxes.set i (.cells (cs.take off++vs++cs.drop (off+vs.length)) (own2.filter fun y=>y.1<off||off+vs.length<=y.1)),st.own⟩)
      ⟨by rw[hd];exact⟨rfl,rfl⟩,fun hc=>absurd (by simp[ca,cD,ho]) hc,fun _=>CE hst rfl,?_,?_,fun k hk=>by rw[var (fun e=>by subst e;rw[hbb]at hk;cases hk)]⟩ ?_
    · rintro ⟨b,⟨t',k⟩,e'⟩ hr _ hh
      cases b with
      |false=>exact hh
      | true =>
        by_cases hi:i=t'
        · subst hi
          obtain⟨cs',own',e1,e2⟩:=fj.1 hh
          rw[hB2]at e1;cases e1
          refine⟨_,_,vai (am hB2),vaY.2 ⟨e2,?_⟩⟩
          simp only[vaZ,vak]
          by_cases h1:k<off
          ·exact .inl h1
          ·exact .inr (vb5 fun h2=>hr (wn.2 ⟨rfl,by simp only;omega,by simp only;omega⟩))
        ·exact(jf hi).2 hh
    · rintro ⟨b,⟨t',k⟩,e'⟩ hr hh
      cases b with
      |false=>simp[eO,Aj]at hr
      | true =>
        exfalso
        obtain⟨rfl,h1,h2⟩:=wn.1 hr
        obtain⟨cs',own',e1,e2⟩:=fj.1 hh
        simp only[vai (am hB),vat,aM.cells.injEq]at e1
        obtain⟨rfl,rfl⟩:=e1
        have:=(cF e2).2
        simp only[vaZ,vak]at this
        simp only at h1 h2
        omega
    · refine ip.of h hid' (by simp [qi,ho]) ?_ Q
      unfold OG
      rw[ho]
      simp only[vG,hx',hp2,vag]
      rw[hd];rfl
  | sto T x t i off vs cs own L hd ho hx hvs hB hp hk hm hn hl =>
    have hx':opv E.GE st.tmps x=.bptr i off:=(hopv x (by rw[ho];simp[Op.operands])).symm.trans hx
    have hy':s.tmps.getD t .undef=st.tmps.getD t .undef:=hopv (.tmp t) (by rw[ho];simp[Op.operands])
    rw[hy']at hvs hp hk
    obtain⟨bb,hbb⟩:=live hx'
    have hst:=hbx (by simp[ca,cD,ho])
    obtain⟨own2,hB2⟩:=Ck hst hB
    have hp2:=Io hvs hB hp hB2
    have hm2:∀y∈L,((t,y.1),y.2)∈st.own:=fun y hy=>htok (false,(t,y.1),y.2) (by simp[eO]) (hm y hy)
    have hset:=vai (a:=aM.cells (cs.take off++vs++cs.drop (off+vs.length)) (own2.filter fun y=>y.1<off||off+vs.length<=y.1)) (am hB2)
    refine fin (st':=⟨st.tmps,st.boxes.set i (.cells (cs.take off++vs++cs.drop (off+vs.length)) ((L.map fun y=>(off+y.1,y.2)).reverse++own2.filter fun y=>y.1<off||off+vs.length<=y.1)),st.own.filter fun x=>!L.any fun y=>x.1==(t,y.1)⟩)
      ⟨by rw[hd];exact⟨rfl,rfl⟩,fun hc=>absurd (by simp[ca,cD,ho]) hc,fun _=>CE hst rfl,?_,?_,fun k hk=>by rw[var (fun e=>by subst e;rw[hbb]at hk;cases hk)]⟩ ?_
    · rintro ⟨b,⟨t',k⟩,e'⟩ hr _ hh
      cases b with
      | false =>
        refine vaY.2 ⟨dh.1 hh,?_⟩
        simp only[vaJ,vbd,vaW,Prod.mk.injEq,not_and]
        intro y hy e
        exact absurd (by simp[eO,e]) hr
      | true =>
        by_cases hi:i=t'
        · subst hi
          obtain⟨cs',own',e1,e2⟩:=fj.1 hh
          rw[hB2]at e1;cases e1
          refine⟨_,_,vai (am hB2),vaR _ (vaY.2 ⟨e2,?_⟩)⟩
          simp only[vaZ,vak]
          by_cases h1:k<off
          ·exact .inl h1
          ·exact .inr (vb5 fun h2=>hr (vaU _ (wn.2 ⟨rfl,by simp only;omega,by simp only;omega⟩)))
        ·exact(jf hi).2 hh
    · rintro ⟨b,⟨t',k⟩,e'⟩ hr hh
      cases b with
      | false =>
        obtain⟨h1,h2⟩:=cF (dh.1 hh)
        exact vaY.2 ⟨htok (false,(t',k),e') hr h1,h2⟩
      | true =>
        have hr2:(true,t',k)∈Aj i off vs.length:=by simpa[eO]using hr
        obtain⟨rfl,h1,h2⟩:=wn.1 hr2
        obtain⟨cs',own',e1,e2⟩:=fj.1 hh
        simp only[vai (am hB),vat,aM.cells.injEq]at e1
        obtain⟨rfl,rfl⟩:=e1
        rcases vaO.1 e2 with e2|e2
        ·exact⟨_,_,vai (am hB2),va0 _ e2⟩
        · exfalso
          have:=(cF e2).2
          simp only[vaZ,vak]at this
          omega
    · rcases hk with ⟨l,hl⟩ | ⟨hone,e,rfl⟩
      · refine GQ h (K:=(· = _)) ?_ Q
        unfold Nr
        simp only[ho,hd]
        refine⟨i,off,_,_,_,L,l,hx',hl,by rw[<-hl];exact hp2,hset,hm2,hn,?_⟩
        rw[vb1]
      · refine ED (K:=(· = _)) h ho hx' (by rw [hx']; exact hp2) hset hone (hm2 _ (vct _)) ?_ Q
        rw[hd,vb1]
        simp only[AW,vaB,vb3,vcU,List.reverse_nil,vbl,List.singleton_append,aB.mk.injEq,vcf,Nat.add_zero]
        congr 1
        funext z
        simp[bne]
  | mu t m k x H hd ho hp =>
    have hst:=hbx (by simp[ca,cD,ho])
    have o1:opv E.GE s.tmps m=opv E.GE st.tmps m:=hopv m (by rw[ho];simp[Op.operands])
    have o2:opv E.GE s.tmps k=opv E.GE st.tmps k:=hopv k (by rw[ho];simp[Op.operands])
    have o3:opv E.GE s.tmps x=opv E.GE st.tmps x:=hopv x (by rw[ho];simp[Op.operands])
    rw[o1,o2,o3]at hp
    obtain⟨i,es',hmi,rfl,hp2⟩:=OI hst hp
    have hlive:∃b,bs[i]? =some (some b):=by
      have hv:=h.opv a.defers m
      rw[hmi]at hv
      generalize (Act.mk a.tmps a.defers).eval m=vx at hv
      cases hv with
      |mapr _ b hb=>exact⟨b,hb⟩
    obtain⟨bb,hbb⟩:=hlive
    obtain⟨i2,es,es2,hB,he2⟩:=Ev hp2
    refine fin (st':=⟨st.tmps,st.boxes.set i (.map es'),st.own⟩) ⟨by rw[hd];exact⟨rfl,rfl⟩,fun hc=>absurd (by simp[ca,cD,ho]) hc,fun _=>CE hst rfl,?_,?_,fun k hk=>by rw[var (fun e=>by subst e;rw[hbb]at hk;cases hk)]⟩ ?_
    · rintro ⟨b,⟨t',k'⟩,e'⟩ hr _ hh
      cases b with
      |false=>exact hh
      | true =>
        obtain⟨cs',own',e1,e2⟩:=fj.1 hh
        have hne:i2≠t':=fun e=>by subst e;rw[hB]at e1;cases e1
        rw[he2]
        exact(jf hne).2 hh
    · intro τ hr
      simp at hr
    · refine ip.of h hid' (by simp [qi,ho]) ?_ Q
      unfold OG
      rw[ho]
      simp only[vG,hp2,vag]
      rw[hd];rfl
  | callR d f args tys r ro oa ho hd hg =>
    have hop:∀x,x=f\/x∈args.toList->opv E.GE s.tmps x=opv E.GE st.tmps x:=fun x hx=>hopv x (by rw[ho];simp[Op.operands,Call.operands];simpa using hx)
    have hown:∀x∈oa,((x.t,x.k),x.e)∈s.own->((x.t,x.k),x.e)∈st.own:=fun x hx hm=>htok (false,(x.t,x.k),x.e) (vaU _ (vah.2 ⟨x,hx,rfl⟩)) hm
    refine fin (st':=⟨st.tmps.set d r,st.boxes,(ro.map fun x=>((d,x.1),x.2))++ce d (st.own.filter fun z=>!oa.any fun x=>z.1==(x.t,x.k))⟩) ⟨by rw[hd];exact⟨_,rfl,rfl⟩,fun _=>rfl,fun hc=>hbx (by rw[hc];decide),?_,?_,fun _ _=>rfl⟩ (Ef (K:=(·=_)) h ho hd (hdd d hd) (hg st hop hown) rfl Q)
    · rintro ⟨b,⟨t',k⟩,e'⟩ hr _ hh
      cases b with
      |true=>exact hh
      | false =>
        simp only[eO,vaC,Prod.mk.injEq,vcf,vcs,vah,not_or,not_exists,not_and]at hr
        refine vaR _ (gK (vaY.2 ⟨dh.1 hh,?_⟩) hr.1)
        simp only[vaJ,vbd,vaW,Prod.mk.injEq,not_and]
        exact fun x hx e=>absurd e.symm (hr.2 x hx)
    · rintro ⟨b,⟨t',k⟩,e'⟩ hr hh
      cases b with
      |true=>simp[eO]at hr
      | false =>
        rcases vaO.1 (dh.1 hh)with hh|hh
        ·exact va0 _ hh
        · obtain ⟨h1,h2⟩:=eu hh
          obtain⟨h3,h4⟩:=cF h1
          have h5:((t',k),e')∈st.own:=htok (false,(t',k),e') hr h3
          exact vaR _ (gK (vaY.2 ⟨h5,h4⟩) h2)
  | cl d i f x tys g e es ho hd hb hf hx hC h0 h1 h2 =>
    have hop:∀y,y=f\/y=x->opv E.GE s.tmps y=opv E.GE st.tmps y:=fun y hy=>hopv y (by rw[ho];simp[Op.operands,Call.operands];exact hy)
    rw[hop f (.inl rfl)]at hf
    rw[hop x (.inr rfl)]at hx
    obtain⟨hbs,hBx⟩:=hbi i _ hb
    have hvf:=h.opv a.defers f
    have hvx:=h.opv a.defers x
    rw[hf]at hvf
    rw[hx]at hvx
    change VR Γ bs w _ (a.eval f)at hvf
    change VR Γ bs w _ (a.eval x)at hvx
    generalize hev:a.eval f=vf at hvf
    cases hvf with
    |func _ _ _ fs cs hl hl' k1 k2=>
    have hfs:fs=#[]:=vaX (by simpa using hl)
    have hcs:cs=#[]:=vaX (by simpa using hl')
    subst hfs;subst hcs
    have hrun:(execOp a.eval o).run P w=.ok (.enter g #[a.eval x]) w:=by
      simp[execOp,ho,resolve,hev,Deferred.ofValue,invoke,hC.1]
    unfold Oper.wp
    rw[hrun,Oper.upon_enter]
    refine(S9 h hbs hBx hC hvx h0 h1 h2).mono fun r w' hr=>?_
    obtain⟨v',xb,rfl,hS,hv'⟩:=hr
    have g1:=hS.set (d:=d) hv'
    have hput:(a.put o.dst v').tmps=a.tmps.setIfInBounds d v':=by rw[hd];rfl
    rw[<-hput]at g1
    refine⟨cf _ _ _,Γ,_,ow,⟨st.tmps.set d (.bsl i 0 es.length),st.boxes,ce d st.own⟩,g1,⟨by rw[hd];exact⟨_,rfl,rfl⟩,fun _=>rfl,fun hc=>hbx (by rw[hc];decide),Km (L:=[]) (by simp),RU (L:=[]),fun _ _=>rfl⟩,.inr (.inr ⟨i,_,xb,hb,rfl⟩)⟩
  | stR T x y i off cs cs' hd ho hx hB hp hi =>
    have hx':opv E.GE st.tmps x=.bptr i off:=(hopv x (by rw[ho];simp[Op.operands])).symm.trans hx
    have hy':opv E.GE s.tmps y=opv E.GE st.tmps y:=hopv y (by rw[ho];simp[Op.operands])
    rw[hy']at hp
    obtain⟨bb,hbb⟩:=live hx'
    have hst:=hbx (by simp[ca,cD,ho])
    obtain⟨own2,hB2⟩:=Ck hst hB
    obtain⟨own',hp2⟩:=TH hp hB2
    refine fin (st':=⟨st.tmps,st.boxes.set i (.cells cs' own'),st.own⟩)
      ⟨by rw[hd];exact⟨rfl,rfl⟩,fun hc=>absurd (by simp[ca,cD,ho]) hc,fun _=>CE hst rfl,?_,fun τ hr=>by simp at hr,fun k hk=>by rw[var (fun e=>by subst e;rw[hbb]at hk;cases hk)]⟩ ?_
    · rintro ⟨b,⟨t',k⟩,e'⟩ hr hn hh
      cases b with
      |false=>exact hh
      |true=>exact(jf (fun e=>hn rfl (by subst e;exact hi))).2 hh
    · refine ip.of h hid' (by simp [qi,ho]) ?_ Q
      unfold OG
      rw[ho]
      simp only[vG,hx',hp2,vag]
      rw[hd];rfl
end
end
end Go.Proofs.YtkdahfeiedaahaaGreatDoor
