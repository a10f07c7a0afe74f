/- PROVED: a part of the proof. Conditions: none. -/
import Derived.Test.YtkdahfeiedaahaaGreatDoorPkD4
import Derived.Test.YtkdahfeiedaahaaGreatDoorPkD3
noncomputable section
namespace Go.Proofs.YtkdahfeiedaahaaGreatDoor
open Go
def Nh(st:aB)(dst:Option Tmp)(p:PVal)(ro:List (Nat×TypeId))(H:List aC)(K:aB->Prop):Prop:=
 match dst with
 |some d=>gW st.tmps d p fun tm=>bI ((ro.map fun x=>((d,x.1),x.2))++bT d st.own) fun ow=>K ⟨tm,H,ow⟩
 |none=>K ⟨st.tmps,H,st.own⟩
theorem vG(st:aB)(dst:Option Tmp)(p:PVal)(ro:List (Nat×TypeId))(H:List aC)(K:aB->Prop):Nh st dst p ro H K=K (yO st dst p ro H):=by
 cases dst with
 |none=>rfl
 |some d=>simp only[Nh,bL,aP,yO]
def RA(P:Program)(GE:List (Nat×List PVal))(f:Operand)(args:List Operand)(tmps:List PVal)(sc:List It)(K:PVal->List (Nat×TypeId)->List It->Prop):Prop:=
 pQ GE tmps f fun vf=>match vf with
  |.func (.func g) first cap=>LU GE tmps args fun as=>match sc with
   |.c r ro::sc'=>CC P GE g (first++as++cap) r ro/\K r ro sc'
   |_=>False
  |_=>False
def xP(P:Program)(GE:List (Nat×List PVal))(o:Oper)(id:Nat)(sc:List It)(st:aB)(K:List It->aB->Prop):Prop:=
 match oc o st.tmps.length with
 |false=>False
 | true => match o.op with
  |.call {callee:=.value f,args,..}=>RA P GE f args.toList st.tmps sc fun r ro sc'=>Nh st o.dst r ro st.boxes fun st'=>K sc' st'
  |.alloc t=>match sc with
   |.x zs::sc'=>fM P t=some zs/\bI (QR P t) fun ow=>gW st.boxes id (.cells zs ow) fun H=>Nh st o.dst (.bptr id 0) [] H fun st'=>K sc' st'
   |_=>False
  |.box _ x=>pQ GE st.tmps x fun vx=>match sc with
   |.x cs::sc'=>ct vx=some cs/\gW st.boxes id (.cells cs []) fun H=>Nh st o.dst (.bptr id 0) [] H fun st'=>K sc' st'
   |_=>False
  |.makeMap _ none=>gW st.boxes id (.map []) fun H=>Nh st o.dst (.mapr id) [] H fun st'=>K sc st'
  |op=>Sp P GE op st.tmps st.boxes sc fun p H sc'=>Nh st o.dst p [] H fun st'=>K sc' st'
def Qe(n d:Nat)(K:Prop):Prop:=match decide (d<n)with
 |true=>K
 |false=>False
theorem pE{n d:Nat}{K:Prop}(h:Qe n d K):d<n/\K:=by
 unfold Qe at h
 split at h
 ·rename_i hd;exact⟨by simpa using hd,h⟩
 ·exact h.elim
def Lm(P:Program)(st:aB)(T e:TypeId)(t:Nat)(dst:Option Tmp)(vx vt:PVal)(sc:List It)(K:List It->aB->Prop):Prop:=
 match vx with
 | .bptr i off => match fo P T (.bptr i off) vt st.boxes with
  | some H => mz H i fun B => match B with
   |.cells cs own=>match vt.one with
    |true=>bI cs fun cs'=>gW H i (.cells cs' ((off,e)::own)) fun H'=>Nh {st with own:=st.own.filter fun x=>x.1 !=(t,0)} dst (.val undef) [] H' fun st'=>K sc st'
    |false=>False
   |_=>False
  |none=>False
 |_=>False
def Ln(P:Program)(GE:List (Nat×List PVal))(A:List Nat)(o:Oper)(id:Nat)(sc:List It)(st:aB)(K:List It->aB->Prop):Prop:=
 match o.op,o.dst with
 |.assign (.tmp t),some d=>Qe st.tmps.length d (yJ st.tmps t fun p=>gW st.tmps d p fun tm=>bI (kG d (fun x=>if x.1=t then(d,x.2)else x) st.own) fun ow=>K sc ⟨tm,st.boxes,ow⟩)
 |.move (.tmp t),some d=>match decide (d∈A)with
  |true=>Qe st.tmps.length d (yJ st.tmps t fun p=>gW st.tmps d p fun tm=>bI (kG d (fun x=>if x.1=t then(d,x.2)else x) st.own) fun ow=>K sc ⟨tm,st.boxes,ow⟩)
  |false=>xP P GE o id sc st K
 |.assign (.const v),some d=>match vD P o.type v with
  |some e=>Qe st.tmps.length d (gW st.tmps d (.slice []) fun tm=>bI (((d,0),e)::bT d st.own) fun ow=>K sc ⟨tm,st.boxes,ow⟩)
  |none=>xP P GE o id sc st K
 |.move (.const v),some d=>match vD P o.type v with
  |some e=>Qe st.tmps.length d (gW st.tmps d (.slice []) fun tm=>bI (((d,0),e)::bT d st.own) fun ow=>K sc ⟨tm,st.boxes,ow⟩)
  |none=>xP P GE o id sc st K
 |.extract (.tmp t) i,some d=>Qe st.tmps.length d (yJ st.tmps t fun vt=>M4 (wK vt i) fun p=>gW st.tmps d p fun tm=>bI (kG d (fun x=>if x=(t,i)then(d,0)else x) st.own) fun ow=>K sc ⟨tm,st.boxes,ow⟩)
 |.buildSlice T len parts,some d=>Qe st.tmps.length d (yN GE st.tmps parts.toList fun ps=>match sc,P.underlying T with
  |.v p::sc',some (.slice e)=>gV P T len ps=some p/\gW st.tmps d p fun tm=>bI (((d,0),e)::bT d st.own) fun ow=>K sc' ⟨tm,st.boxes,ow⟩
  |_,_=>False)
 | .call { callee := .builtin .append,args:=⟨[.tmp t,y]⟩,argTypes:=⟨[T,T']⟩ },some d => Qe st.tmps.length d (yJ st.tmps t fun ve => pQ GE st.tmps y fun vn => match ve,vn,sc,P.underlying T with
  |.slice es,.slice ns,.v p::sc',some (.slice e)=>match decide (T=T')&&decide (((t,0),e)∈st.own)with
   |true=>nD P T es ns=some p/\gW st.tmps d p fun tm=>bI (((d,0),e)::bT d (st.own.filter fun x=>x.1 !=(t,0))) fun ow=>K sc' ⟨tm,st.boxes,ow⟩
   |false=>False
  |_,_,_,_=>False)
 | .load T x,some d => match decide (d ∈ A) with
  | true => Qe st.tmps.length d (pQ GE st.tmps x fun vx => match vx,P.underlying T with
   | .bptr i off,some (.slice e) => mz st.boxes i fun B => match B with
    |.cells cs own=>match decide ((off,e)∈own)&&decide (off<cs.length)with
     |true=>yJ cs off fun p=>gW st.tmps d p fun tm=>bI (own.filter fun x=>x.1 !=off) fun own'=>gW st.boxes i (.cells cs own') fun H=>bI (((d,0),e)::bT d st.own) fun ow=>K sc ⟨tm,H,ow⟩
     |false=>False
    |_=>False
   |_,_=>False)
  |false=>xP P GE o id sc st K
 |.store T x (.tmp t),_=>match st.own.find? (fun y=>y.1==(t,0))with
  |some (_,e)=>pQ GE st.tmps x fun vx=>yJ st.tmps t fun vt=>Lm P st T e t o.dst vx vt sc K
  |none=>xP P GE o id sc st K
 |_,_=>xP P GE o id sc st K
def qbJ:Value->Bool
 |.bool _=>true
 |_=>false
def Ko(ops:Array Oper)(j:Nat)(want:Bool)(pos:Nat)(sc:List It)(st:aB)(go:Bool->List It->aB->Prop):Prop:=
 match(ops[j]?).bind (·.dst)with
 |none=>False
 | some t => yJ st.tmps t fun p => match p with
  | .bool x => match sc with
   |.g pos' b::sc'=>match pos'==pos with
    |true=>x=b/\gW st.tmps t (.bool b) fun tm=>go (b==want) sc' ⟨tm,st.boxes,st.own⟩
    |false=>go (x==want) sc st
   |_=>go (x==want) sc st
  |.val v=>match qbJ v with
   |true=>False
   |false=>go false sc st
  |_=>False
def ug:List Nat->Bool
 |[]=>true
 |x::r=>!(r.contains x)&&ug r
theorem pP:∀{l:List Nat},ug l=true->l.Nodup
 |[],_=>.nil
 |x::r,h=>by
  simp only[ug,vad,vaT,vcw,vbD]at h
  exact vbA.2 ⟨h.1,pP h.2⟩
def NS(t:Nat)(own:List ((Nat×Nat)×TypeId)):List (Nat×TypeId):=own.filterMap fun x=>if x.1.1==t then some (x.1.2,x.2)else none
theorem Ih{t:Nat}{own:List ((Nat×Nat)×TypeId)}{y:Nat×TypeId}(h:y∈NS t own):((t,y.1),y.2)∈own:=by
 unfold NS at h
 obtain⟨⟨⟨t',k⟩,e⟩,hx,he⟩:=vbP.1 h
 split at he
 ·rename_i ht
  simp only[vaZ]at ht
  cases he;subst ht;exact hx
 ·cases he
def SF(off n:Nat)(own:List (Nat×TypeId)):List (Nat×TypeId):=own.filterMap fun x=>if decide (off<=x.1)&&decide (x.1<off+n)then some (x.1 - off,x.2)else none
theorem Dw{off n:Nat}{own:List (Nat×TypeId)}{y:Nat×TypeId}(h:y∈SF off n own):(off+y.1,y.2)∈own/\y.1<n:=by
 unfold SF at h
 obtain⟨⟨k,e⟩,hx,he⟩:=vbP.1 h
 split at he
 ·rename_i ht
  simp only[vad,vai]at ht
  cases he
  have:off+(k - off)=k:=by omega
  exact⟨by rw[this];exact hx,by simp only;omega⟩
 ·cases he
def JU(ρ:List Nat):List PVal->List PVal->Prop
 |[],[]=>True
 |p::ps,q::qs=>B6 ρ p q/\JU ρ ps qs
 |_,_=>False
theorem JU.len{ρ:List Nat}:∀{l r:List PVal},JU ρ l r->l.length=r.length
 |[],[],_=>rfl
 |[],_::_,h=>h.elim
 |_::_,[],h=>h.elim
 |_::_,_::_,h=>by simp[JU.len h.2]
theorem JU.get{ρ:List Nat}:∀{l r:List PVal},JU ρ l r->∀(i:Nat) p q,l[i]? =some p->r[i]? =some q->B6 ρ p q
 |[],[],_,i,p,q,hp,_=>by simp at hp
 |[],_::_,h,_,_,_,_,_=>h.elim
 |_::_,[],h,_,_,_,_,_=>h.elim
 |_::_,_::_,h,0,p,q,hp,hq=>by simp at hp hq;subst hp;subst hq;exact h.1
 |_::_,_::_,h,i+1,p,q,hp,hq=>JU.get h.2 i p q (by simpa using hp) (by simpa using hq)
def Ur(ρ:List Nat):aC->aC->Prop
 |.cells cs own,.cells cs' own'=>own=own'/\JU ρ cs cs'
 |.map es,.map es'=>es=es'/\∀x∈es,x.1.cl 0/\x.2.cl 0
 |_,_=>False
theorem Ur.to{ρ:List Nat}{B B':aC}(h:Ur ρ B B'):jw ρ B B':=by
 cases B<;>cases B'<;>simp only[Ur]at h
 ·exact⟨h.1,h.2.len,h.2.get⟩
 ·obtain⟨rfl,h⟩:=h
  refine⟨rfl,fun i k u k' u' h1 h2=>?_⟩
  rw[h1]at h2;cases h2
  obtain⟨q1,q2⟩:=h _ (vaC h1)
  exact⟨.refl _ q1,.refl _ q2⟩
def vB(ρ:List Nat)(H:List aC):List Nat->List aC->List aC->Prop
 |[],[],[]=>True
 |j::js,B::Bs,Bc::Hc=>(mz H j fun B0=>Cj B0 B=B/\Ur ρ B Bc)/\vB ρ H js Bs Hc
 |_,_,_=>False
def Gq(ρ:List Nat):List aC->List aC->Prop
 |[],[]=>True
 |B::Bs,Bc::Hc=>Ur ρ B Bc/\Gq ρ Bs Hc
 |_,_=>False
def rX(H:List aC):List Nat->List aC->List aC
 |j::js,B::Bs=>rX (H.set j B) js Bs
 |_,_=>H
def Pv(H:List aC):List Nat->List aC->(List aC->Prop)->Prop
 |j::js,B::Bs,K=>gW H j B fun H'=>Pv H' js Bs K
 |_,_,K=>K H
theorem vV:∀(H:List aC) (js:List Nat) (Bs:List aC) (K:List aC->Prop),Pv H js Bs K=K (rX H js Bs)
 |H,[],_,K=>by cases ‹List aC›<;>rfl
 |H,_::_,[],K=>rfl
 |H,j::js,B::Bs,K=>by simp only[Pv,bL,vV,rX]
theorem Is:∀(H:List aC) (js:List Nat) (Bs:List aC),(rX H js Bs).length=H.length
 |H,[],_=>by cases ‹List aC›<;>rfl
 |H,_::_,[]=>rfl
 |H,j::js,B::Bs=>by simp only[rX,Is,vcu]
theorem pU:∀(H:List aC) (js:List Nat) (Bs:List aC) {j:Nat},j∉js->(rX H js Bs)[j]? =H[j]?
 |H,[],Bs,_,_=>by cases Bs<;>rfl
 |H,_::_,[],_,_=>rfl
 |H,k::js,B::Bs,j,h=>by
  simp only[vay,not_or]at h
  simp only[rX]
  rw[pU _ js Bs h.2,vap (Ne.symm h.1)]
theorem G1:∀(H:List aC) (js:List Nat) (Bs:List aC),js.Nodup->js.length=Bs.length->(∀j∈js,j<H.length)->∀(i j:Nat) B,js[i]? =some j->Bs[i]? =some B->(rX H js Bs)[j]? =some B
 |H,[],Bs,_,_,_,i,j,B,hj,_=>by simp at hj
 |H,_::_,[],_,hl,_,_,_,_,_,_=>by simp at hl
 | H,k :: js,B0 :: Bs,hn,hl,hlt,i,j,B,hj,hB => by
  obtain⟨hn1,hn2⟩:=vbA.1 hn
  simp only[rX]
  cases i with
  |zero=>
   simp at hj hB;subst hj;subst hB
   rw[pU _ js Bs hn1,vaj (hlt _ (by simp))]
  |succ i=>exact G1 _ js Bs hn2 (by simpa using hl) (fun x hx=>by rw[vcu];exact hlt x (by simp[hx])) i j B (by simpa using hj) (by simpa using hB)
theorem Lu{ρ:List Nat}{H:List aC}:∀{js:List Nat} {Bs Hc:List aC},vB ρ H js Bs Hc->js.length=Bs.length/\Hc.length=js.length/\(∀j∈js,j<H.length)/\
  ∀(i j:Nat) B Bc,js[i]? =some j->Bs[i]? =some B->Hc[i]? =some Bc->(∃B0,H[j]? =some B0/\Cj B0 B=B)/\jw ρ B Bc
 |[],[],[],_=>⟨rfl,rfl,by simp,by simp⟩
 |[],_::_,_,h=>by simp[vB]at h
 |[],[],_::_,h=>by simp[vB]at h
 |_::_,[],_,h=>by simp[vB]at h
 |_::_,_::_,[],h=>by simp[vB]at h
 | k :: js,B :: Bs,Bc :: Hc,h => by
  obtain⟨h1,h2⟩:=h
  obtain⟨B0,hB0,h3,h4⟩:=eO h1
  obtain⟨k1,k2,k3,k4⟩:=Lu h2
  refine⟨by simp[k1],by simp[k2],fun j hj=>?_,fun i j b bc hj hb hbc=>?_⟩
  ·rcases vay.1 hj with rfl|hj
   ·exact aq hB0
   ·exact k3 j hj
  ·cases i with
   |zero=>simp at hj hb hbc;subst hj;subst hb;subst hbc;exact⟨⟨B0,hB0,h3⟩,h4.to⟩
   |succ i=>exact k4 i j b bc (by simpa using hj) (by simpa using hb) (by simpa using hbc)
theorem Cl{ρ:List Nat}:∀{Bs Hc:List aC},Gq ρ Bs Hc->Bs.length=Hc.length/\∀(i:Nat) B Bc,Bs[i]? =some B->Hc[i]? =some Bc->jw ρ B Bc
 |[],[],_=>⟨rfl,by simp⟩
 |[],_::_,h=>h.elim
 |_::_,[],h=>h.elim
 |B::Bs,Bc::Hc,h=>by
  obtain⟨k1,k2⟩:=Cl h.2
  refine⟨by simp[k1],fun i b bc hb hbc=>?_⟩
  cases i with
  |zero=>simp at hb hbc;subst hb;subst hbc;exact h.1.to
  |succ i=>exact k2 i b bc (by simpa using hb) (by simpa using hbc)
def W7(t:Nat):Option Operand->Bool
 |some (.tmp u)=>u==t
 |_=>false
def UV:Option Operand->Bool
 |some (.const v)=>na v
 |_=>false
def RP(n:Nat)(args:List Operand)(own:List ((Nat×Nat)×TypeId))(oa:List OA):Bool:=
 oa.all (fun x=>decide (n<=x.i)&&((UV args[x.i - n]? &&x.k==0)||(decide (((x.t,x.k),x.e)∈own)&&W7 x.t args[x.i - n]?)))&&oa.all fun x=>oa.all fun y=>!(x.t==y.t&&x.k==y.k)||x.i==y.i
def Pb:aC->Bool
 |.dead=>false
 |_=>true
def nx(P:Program)(GE:List (Nat×List PVal))(f:Operand)(args:List Operand)(c:GC)(st:aB)(K:List aC->Prop):Prop:=
 pQ GE st.tmps f fun vf=>match vf with
 | .func (.func g) first cap => LU GE st.tmps args fun as => match ug c.ρ && RP first.length args st.own c.oa && c.Bs.all Pb && decide (c.Bs'.length = c.ρ.length) with
  | true => C P GE g c.argsC (c.oa.map fun x => ((x.i,x.k),x.e)) c.Hc c.rc c.ro c.Hc'∧JU c.ρ (first ++ as ++ cap) c.argsC∧vB c.ρ st.boxes c.ρ c.Bs c.Hc∧Gq c.ρ c.Bs' c.Hc'∧B6 c.ρ c.r c.rc ∧
    Pv st.boxes c.ρ c.Bs' K
  |false=>False
 |_=>False
theorem yI{P:Program}{GE:List (Nat×List PVal)}{f:Operand}{args:List Operand}{c:GC}{st:aB}{K:List aC->Prop}(h:nx P GE f args c st K):∃H',KD P GE f args st c.r c.ro H' c.oa/\K H':=by
 unfold nx at h
 rw[b7]at h
 split at h
 ·rename_i g first cap hf
  rw[pl]at h
  split at h
  ·rename_i hb
   simp only[vad,vai]at hb
   obtain⟨⟨⟨b1,b2⟩,b3⟩,b4⟩:=hb
   obtain⟨h1,h2,h3,h4,h5,h6⟩:=h
   rw[vV]at h6
   have hn:=pP b1
   obtain⟨i1,i2,i3,i4⟩:=Lu h3
   obtain⟨o1,o2⟩:=Cl h4
   unfold RP at b2
   rw[vad]at b2
   obtain⟨c1,c2⟩:=b2
   have hgetB:∀{i j:Nat},c.ρ[i]? =some j->∃B,c.Bs[i]? =some B:=fun{i j} hj=>⟨_,vaa (by rw[<-i1];exact aq hj)⟩
   have hgetH:∀{i j:Nat},c.ρ[i]? =some j->∃B,c.Hc[i]? =some B:=fun{i j} hj=>⟨_,vaa (by rw[i2];exact aq hj)⟩
   refine⟨_,⟨g,first,cap,c.argsC,c.ρ,rX st.boxes c.ρ c.Bs,c.Hc,c.Hc',c.rc,hf,hn,h1,⟨Is _ _ _,fun i B hB=>?_⟩,⟨i2,fun i j hj=>?_⟩,⟨by rw[<-o1];exact b4,fun i j hj=>?_⟩,Is _ _ _,fun j hj=>by rw[pU _ _ _ hj,pU _ _ _ hj],h5,h2.len,h2.get,fun x hx=>?_,fun x hx y hy e1 e2=>?_⟩,h6⟩
   ·by_cases hi:i∈c.ρ
    ·obtain⟨k,hk⟩:=vbd.1 hi
     obtain⟨B1,hB1⟩:=hgetB hk
     obtain⟨Bc,hBc⟩:=hgetH hk
     obtain⟨⟨B0,hB0,hfg⟩,_⟩:=i4 k i B1 Bc hk hB1 hBc
     rw[G1 _ _ _ hn i1 i3 k i B1 hk hB1]at hB
     cases hB
     refine⟨B0,hB0,?_⟩
     rcases Sr B0 B with hx|hx|hx
     ·rw[hfg]at hx
      have:=vau.1 b3 B (vaC hB1)
      rw[hx]at this;cases this
     ·rw[hfg]at hx;exact .inl hx
     ·rw[hfg]at hx;exact .inr hx
    ·rw[pU _ _ _ hi]at hB
     exact⟨B,hB,.inl rfl⟩
   ·obtain⟨B1,hB1⟩:=hgetB hj
    obtain⟨Bc,hBc⟩:=hgetH hj
    exact⟨B1,Bc,G1 _ _ _ hn i1 i3 i j B1 hj hB1,hBc,(i4 i j B1 Bc hj hB1 hBc).2⟩
   ·have hi:=aq hj
    have e1:=vaa (l:=c.Bs') (i:=i) (by omega)
    have e2:=vaa (l:=c.Hc') (i:=i) (by omega)
    exact⟨_,_,G1 _ _ _ hn b4.symm i3 i j _ hj e1,e2,o2 i _ _ e1 e2⟩
   ·have:=vau.1 c1 x hx
    simp only[vad,va4,vai,vaZ]at this
    refine⟨x.i - first.length,by omega,?_⟩
    rcases this.2 with⟨h2,h3⟩|⟨h2,h3⟩
    ·left
     unfold UV at h2
     split at h2
     ·rename_i v hv
      unfold na at h2
      split at h2
      ·exact⟨hv,h3⟩
      ·cases h2
     ·cases h2
    ·right
     unfold W7 at h3
     split at h3
     ·rename_i u hu
      simp only[vaZ]at h3
      subst h3;exact⟨h2,hu⟩
     ·cases h3
   ·have:=vau.1 (vau.1 c2 x hx) y hy
    simp only[va4,vaT,Bool.and_eq_false_iff,beq_eq_false_iff_ne,ne_eq,vaZ]at this
    rcases this with(hx|hx)|hx
    ·exact absurd e1 hx
    ·exact absurd e2 hx
    ·exact hx
  ·exact h.elim
 ·exact h.elim
def OK(P:Program)(GE:List (Nat×List PVal))(f:Operand)(args:List Operand)(c:GC)(d:Nat)(st:aB)(K:List PVal->List aC->List ((Nat×Nat)×TypeId)->Prop):Prop:=
 pQ GE st.tmps f fun vf=>LU GE st.tmps args fun vs=>match vf with
  |.func (.func g) [] []=>match decide (c.ρ=List.range' st.boxes.length c.Hc'.length)with
   |true=>CN P GE g vs c.rc c.ro c.Hc'/\jl 0 vs/\Gq c.ρ c.Bs' c.Hc'/\B6 c.ρ c.r c.rc/\gW st.tmps d c.r fun tm=>bI ((c.ro.map fun x=>((d,x.1),x.2))++bT d st.own) fun ow=>JW st.boxes c.Bs' fun H=>K tm H ow
   |false=>False
  |_=>False
theorem MX{P:Program}{GE:List (Nat×List PVal)}{o:Oper}{f:Operand}{args:Array Operand}{tys:Array TypeId}{c:GC}{d:Nat}{st:aB}{K:List It->aB->Prop}{sc:List It}(ho:o.op=.call {callee:=.value f,args,argTypes:=tys})(hd:o.dst=some d)(h1:d<st.tmps.length)
  (h:OK P GE f args.toList c d st fun tm H ow=>K sc ⟨tm,H,ow⟩):QO P GE o (fun st'=>∃sc',K sc' st') st:=by
 unfold OK at h
 rw[b7,pl]at h
 split at h
 ·rename_i g hf
  split at h
  ·rename_i hc
   simp only[vai]at hc
   obtain⟨h2,h3,h4,h5,h6⟩:=h
   simp only[bL,aP,JW]at h6
   obtain⟨k1,k2⟩:=Cl h4
   unfold QO
   simp only[ho,hd]
   rw[hc]at h5 k2
   exact⟨g,c.rc,c.ro,c.Bs',c.Hc',c.r,hf,h2,h3,k1,k2,h5,h1,sc,h6⟩
  ·exact h.elim
 ·exact h.elim
def Kq (P:Program) (GE:List (Nat×List PVal)) (A:List Nat) (o:Oper) (id:Nat) (sc:List It) (st:aB) (K:List It→aB→Prop):Prop :=
 match o.op,sc with
 |.build T parts,.b p L::sc'=>match o.dst with
  |some d=>Qe st.tmps.length d (yN GE st.tmps parts.toList fun ps=>dG P T ps=some p/\Fp P T ps L/\gW st.tmps d p fun tm=>bI ((L.map fun x=>((d,x.1),x.2))++bT d st.own) fun ow=>K sc' ⟨tm,st.boxes,ow⟩)
  |none=>False
 | .store T x (.tmp t),.y vs :: sc' => yJ st.tmps t fun vt => match vt with
  | .agg l => match o.dst with
   | none => pQ GE st.tmps x fun vx => match vx with
    | .bptr i off => bI (NS t st.own) fun L => l = vs∧mz st.boxes i fun B => match B with
     | .cells cs own => match ug (L.map (·.1)) && decide (vs.length = P.cellsOf T) && (P.info? T).isSome && decide (off + vs.length ≤ cs.length) && vs.all PVal.one with
      | true => bI (cs.take off ++ vs ++ cs.drop (off + vs.length)) fun cs' => bI ((L.map fun y => (off + y.1,y.2)).reverse ++ own.filter fun y => y.1 < off || off + vs.length ≤ y.1) fun own' =>
        gW st.boxes i (.cells cs' own') fun H=>bI (st.own.filter fun x=>!L.any fun y=>x.1==(t,y.1)) fun ow=>K sc' ⟨st.tmps,H,ow⟩
      |false=>False
     |_=>False
    |_=>False
   |some _=>False
  |_=>Ln P GE A o id sc st K
 | .load T x,.z l :: sc' => match P.underlying T with
  | some (.struct _) => match o.dst with
   | some d => Qe st.tmps.length d (pQ GE st.tmps x fun vx => match vx with
    | .bptr i off => mz st.boxes i fun B => match B with
     | .cells cs own => bo P T (cs.drop off) = some (.agg l)∧bI (SF off (P.cellsOf T) own) fun L => match ug (L.map (·.1)) with
      | true => gW st.tmps d (.agg l) fun tm => bI (own.filter fun x => !L.any fun y => x.1 == off + y.1) fun own' => gW st.boxes i (.cells cs own') fun H =>
        bI ((L.map fun y=>((d,y.1),y.2)).reverse++bT d st.own) fun ow=>K sc' ⟨tm,H,ow⟩
      |false=>False
     |_=>False
    |_=>False)
   |none=>False
  |_=>Ln P GE A o id sc st K
 |.box _ x,.e vs::sc'=>match o.dst with
  |some d=>Qe st.tmps.length d (pQ GE st.tmps x fun vx=>ct vx=some vs/\gW st.tmps d (.eptr vs) fun tm=>bI (bT d st.own) fun ow=>K sc' ⟨tm,st.boxes,ow⟩)
  |none=>False
 |.call {callee:=.value f,args,..},.cg c::sc'=>match o.dst with
  |some d=>Qe st.tmps.length d (nx P GE f args.toList c st fun H=>gW st.tmps d c.r fun tm=>bI ((c.ro.map fun x=>((d,x.1),x.2))++bT d (st.own.filter fun z=>!c.oa.any fun x=>z.1==(x.t,x.k))) fun ow=>K sc' ⟨tm,H,ow⟩)
  |none=>False
 |.call {callee:=.value f,args,..},.cn c::sc'=>match o.dst with
  |some d=>Qe st.tmps.length d (OK P GE f args.toList c d st fun tm H ow=>K sc' ⟨tm,H,ow⟩)
  |none=>False
 | .call { callee := .builtin .append,args:=⟨[.tmp t,y]⟩,argTypes:=⟨[T,T']⟩ },.ar i e n cs :: sc' => match o.dst with
  | some d => Qe st.tmps.length d (yJ st.tmps t fun ve => pQ GE st.tmps y fun vn => match ve,vn with
   | .slice [],.slice ns => match decide (T = T') && decide (((t,0),e) ∈ st.own) && decide (i = st.boxes.length) with
    | true => P.underlying T = some (.slice e)∧(∃ p,nD P T [] ns = some p)∧(n = ns.length∧cs = ns.flatten) ∧
      gW st.tmps d (.bsl i 0 n) fun tm=>bI (bT d (st.own.filter fun x=>x.1 !=(t,0))) fun ow=>JW st.boxes [.cells cs []] fun H=>K sc' ⟨tm,H,ow⟩
    |false=>False
   |_,_=>False)
  |none=>False
 | .call { callee := .value f,args:=⟨[x]⟩,.. },.ar i e n cs :: sc' => match o.dst with
  | some d => Qe st.tmps.length d (pQ GE st.tmps f fun vf => pQ GE st.tmps x fun vn => match vf,vn with
   | .func (.func g) [] [],.slice ns => match decide (i = st.boxes.length) with
    | true => tZ P g e∧(0 < P.cellsOf e∧(∀ x ∈ ns,x.length = P.cellsOf e∧∀ q ∈ x,q.one = true)∧ns.length ≤ dw)∧(n = ns.length∧cs = ns.flatten) ∧
      gW st.tmps d (.bsl i 0 n) fun tm=>bI (bT d st.own) fun ow=>JW st.boxes [.cells cs []] fun H=>K sc' ⟨tm,H,ow⟩
    |false=>False
   |_,_=>False)
  |none=>False
 | .store T x (.const v),.ar _ e _ _ :: sc' => match o.dst,na v with
  | none,true => pQ GE st.tmps x fun vx => pQ GE st.tmps (.const v) fun vy => match vx,ct vy with
   | .bptr i off,some vs => mz st.boxes i fun B => match B with
    |.cells cs own=>match decide (vs.length=P.cellsOf T)&&(P.info? T).isSome&&decide (off+vs.length<=cs.length)&&vs.all PVal.one with
     |true=>bI (cs.take off++vs++cs.drop (off+vs.length)) fun cs'=>bI ((off,e)::own.filter fun y=>y.1<off||off+vs.length<=y.1) fun own'=>gW st.boxes i (.cells cs' own') fun H=>K sc' ⟨st.tmps,H,st.own⟩
     |false=>False
    |_=>False
   |_,_=>False
  |_,_=>False
 |_,_=>Ln P GE A o id sc st K
def I1(P:Program)(GE:List (Nat×List PVal))(A:List Nat)(ops:Array Oper)(K:List It->aB->Prop):List Oper->Nat->Nat->List It->aB->Prop
 |[],_,_,sc,st=>K sc st
 | o :: rest,pos,id,sc,st =>
  let step (sc:List It) (st:aB):Prop:=Kq P GE A o id sc st fun sc' st'=>I1 P GE A ops K rest (pos+1) (id+if aK o.op then 1 else 0) sc' st'
  match o.guard with
  |none=>step sc st
  |some (j,want)=>Ko ops j want pos sc st fun b sc' st'=>match b with
   |true=>step sc' st'
   |false=>Nh st' o.dst (.val undef) [] st'.boxes fun st''=>I1 P GE A ops K rest (pos+1) (id+if aK o.op then 1 else 0) sc' st''
section
variable{P:Program}{GE:List (Nat×List PVal)}{A:List Nat}{ops:Array Oper}
theorem OI{f:Operand}{args:List Operand}{tmps:List PVal}{H:List aC}{sc:List It}{K:PVal->List (Nat×TypeId)->List It->Prop}(h:RA P GE f args tmps sc K):Fl P GE (opv GE tmps f) (args.map (opv GE tmps)) H fun r ro H'=>H'=H/\∃sc',K r ro sc':=by
 unfold RA at h
 rw[b7]at h
 split at h
 ·rename_i g first cap hf
  rw[pl]at h
  split at h
  ·rename_i r ro sc'
   rw[hf]
   exact .inl ⟨h.1.1,r,ro,h.1.2,rfl,sc',h.2⟩
  ·exact h.elim
 ·exact h.elim
theorem Dy{op:Op}{id:Nat}{v:Operand->PVal}{H H':List aC}{p:PVal}{K:PVal->List (Nat×TypeId)->List aC->Prop}(hn:∀f args tys,op≠.call {callee:=.value f,args,argTypes:=tys})
  (h:tz P op id v H=some (p,H')) (hk:K p [] H'):Na P GE op id v H K:=by
 unfold Na
 split
 ·rename_i f args tys;exact absurd rfl (hn _ _ _)
 ·rw[h];exact hk
theorem mh{o:Oper}{id:Nat}{sc:List It}{st:aB}{K:List It->aB->Prop}(h:xP P GE o id sc st K):oc o st.tmps.length=true/\Na P GE o.op id (opv GE st.tmps) st.boxes fun p ro H=>(fun st'=>∃sc',K sc' st') (yO st o.dst p ro H):=by
 unfold xP at h
 split at h
 ·exact h.elim
 ·rename_i hc
  refine⟨hc,?_⟩
  split at h
  ·rename_i f args tys ho
   have:=OI (H:=st.boxes) h
   unfold Na
   simp only[ho]
   unfold Fl at this ⊢
   split at this
   ·rcases this with⟨k1,r,ro,k2,_,sc',k3⟩|⟨ρ,argsC,Hc,rc,ro,Hc',H',r,k1,k2,k3,k4,k5,k6,k7,k8,k9,rfl,sc',k10⟩
    ·rw[vG]at k3;exact .inl ⟨k1,r,ro,k2,sc',k3⟩
    ·rw[vG]at k10;exact .inr ⟨ρ,argsC,Hc,rc,ro,Hc',_,r,k1,k2,k3,k4,k5,k6,k7,k8,k9,sc',k10⟩
   ·exact this.elim
  ·rename_i t ho
   split at h
   ·rename_i zs sc'
    obtain⟨h1,h2⟩:=h
    simp only[aP,bL,vG]at h2
    rw[ho]
    exact Dy (by simp) (by simp only[tz,h1,vag]) ⟨sc',h2⟩
   ·exact h.elim
  ·rename_i t x ho
   rw[b7]at h
   split at h
   ·rename_i cs sc'
    obtain⟨h1,h2⟩:=h
    simp only[bL,vG]at h2
    rw[ho]
    exact Dy (by simp) (by simp only[tz,h1,vag]) ⟨sc',h2⟩
   ·exact h.elim
  ·rename_i t ho
   simp only[bL,vG]at h
   rw[ho]
   exact Dy (by simp) (by simp only[tz]) ⟨_,h⟩
  ·rename_i n1 n2 n3 n4
   obtain⟨p,H',sc',k1,k2,_⟩:=I3 (id:=id) h
   rw[vG]at k2
   exact Dy (fun f args tys e=>n1 f args tys e) k1 ⟨sc',k2⟩
theorem Ap{o:Oper}{id:Nat}{sc:List It}{st:aB}{K:List It->aB->Prop}(h:Ln P GE A o id sc st K):Jg P GE A o id (fun st'=>∃sc',K sc' st') st:=by
 unfold Ln at h
 unfold Jg
 split at h
 case h_1 t d ho hd=>
  obtain⟨h1,h2⟩:=pE h
  simp only[jS,bL,aP]at h2
  simp only[ho,hd]
  exact⟨h1,_,h2⟩
 case h_2 t d ho hd=>
  simp only[ho,hd]
  split at h
  ·rename_i hA
   obtain⟨h1,h2⟩:=pE h
   simp only[jS,bL,aP]at h2
   rw[vax (by simpa using hA)]
   exact⟨h1,_,h2⟩
  ·rename_i hA
   rw[vaz (by simpa using hA)]
   have:=mh h
   rw[ho,hd]at this
   exact this
 case h_3 v d ho hd=>
  simp only[ho,hd]
  split at h
  ·rename_i e he
   obtain⟨h1,h2⟩:=pE h
   simp only[bL,aP]at h2
   simp only[he]
   exact⟨h1,_,h2⟩
  ·rename_i he
   simp only[he]
   have:=mh h
   rw[ho,hd]at this
   exact this
 case h_4 v d ho hd=>
  simp only[ho,hd]
  split at h
  ·rename_i e he
   obtain⟨h1,h2⟩:=pE h
   simp only[bL,aP]at h2
   simp only[he]
   exact⟨h1,_,h2⟩
  ·rename_i he
   simp only[he]
   have:=mh h
   rw[ho,hd]at this
   exact this
 case h_5 t i d ho hd=>
  obtain⟨h1,h2⟩:=pE h
  rw[jS]at h2
  obtain⟨p,h3,h4⟩:=xS h2
  simp only[bL,aP]at h4
  simp only[ho,hd,h3]
  exact⟨h1,_,h4⟩
 case h_6 T len parts d ho hd=>
  obtain⟨h1,h2⟩:=pE h
  rw[pR]at h2
  split at h2
  ·rename_i p sc' e hu
   obtain⟨h3,h4⟩:=h2
   simp only[bL,aP]at h4
   simp only[ho,hd,h3,hu]
   exact⟨h1,_,h4⟩
  ·exact h2.elim
 case h_7 t y T T' d ho hd=>
  obtain⟨h1,h2⟩:=pE h
  rw[jS,b7]at h2
  split at h2
  ·rename_i es ns p sc' e he hn hu
   split at h2
   ·rename_i hc
    simp only[vad,vai]at hc
    obtain⟨h3,h4⟩:=h2
    simp only[bL,aP]at h4
    simp only[ho,hd,hu,he,hn,h3]
    exact⟨hc.1,h1,hc.2,_,h4⟩
   ·exact h2.elim
  ·exact h2.elim
 case h_8 T x d ho hd=>
  simp only[ho,hd]
  split at h
  ·rename_i hA
   obtain⟨h1,h2⟩:=pE h
   rw[b7]at h2
   rw[vax (by simpa using hA)]
   split at h2
   ·rename_i i off e hx hu
    obtain⟨B,hB,h2⟩:=eO h2
    split at h2
    ·rename_i cs own
     split at h2
     ·rename_i hc
      simp only[vad,vai]at hc
      simp only[jS,bL,aP]at h2
      have hget:cs[off]? =some (cs.getD off .undef):=by
       rw[van,vaa hc.2];rfl
      simp only[hx,hu,hB,hget]
      exact⟨h1,hc.1,_,h2⟩
     ·exact h2.elim
    ·exact h2.elim
   ·exact h2.elim
  ·rename_i hA
   rw[vaz (by simpa using hA)]
   have:=mh h
   rw[ho,hd]at this
   exact this
 case h_9 T x t ho=>
  simp only[ho]
  split at h
  ·rename_i y e hf
   rw[b7,jS]at h
   simp only[hf]
   unfold Lm at h
   split at h
   ·rename_i i off hx
    split at h
    ·rename_i H hst
     obtain⟨B,hB,h⟩:=eO h
     split at h
     ·rename_i cs own
      split at h
      ·rename_i hone
       simp only[bL,aP,vG]at h
       simp only[hx,hst,hB,hone]
       exact⟨_,h⟩
      ·exact h.elim
     ·exact h.elim
    ·exact h.elim
   ·exact h.elim
  ·rename_i hf
   simp only[hf]
   have:=mh h
   rw[ho]at this
   exact this
 case h_10=>
  have:=mh h
  split
  all_goals first
   |exact this
   |(exfalso;simp_all;done)
   |(exfalso;simp_all;rename_i hx h1 h2;exact hx _ _ _ _ rfl rfl rfl rfl)
   |(exfalso;simp_all;rename_i hx h1 h2;exact hx _ _ _ _ _ rfl rfl rfl rfl rfl)
   |(exfalso;simp_all;rename_i hx h1 h2;exact hx _ _ _ rfl rfl rfl)
theorem Ej{j:Nat}{want:Bool}{pos:Nat}{sc:List It}{st:aB}{go:Bool->List It->aB->Prop}(h:Ko ops j want pos sc st go):∃x,wL ops st.tmps j=some x/\((x=some want/\∃sc',go true sc' st)\/(x≠some want/\∃sc',go false sc' st)):=by
 unfold Ko at h
 split at h
 ·exact h.elim
 ·rename_i t ht
  rw[jS]at h
  have hget:∀{p},st.tmps.getD t .undef=p->p≠.undef->st.tmps[t]? =some p:=by
   intro p hp hne
   rw[van]at hp
   cases hx:st.tmps[t]? with
   |none=>rw[hx]at hp;exact absurd hp.symm hne
   |some q=>rw[hx]at hp;exact va6 some hp
  have hfin:∀(x:Bool) sc',go (x==want) sc' st->(some x=some want/\∃sc',go true sc' st)\/(some x≠some want/\∃sc',go false sc' st):=by
   intro x sc' hg
   cases x<;>cases want<;>simp at hg ⊢<;>exact⟨sc',hg⟩
  split at h
  ·rename_i x hp
   have hx:=hget hp (by simp)
   have hg:wL ops st.tmps j=some (some x):=by unfold wL;simp only[ht,hx]
   refine⟨_,hg,?_⟩
   split at h
   ·rename_i pos' b sc'
    split at h
    ·obtain⟨rfl,h⟩:=h
     rw[bL,G2 hx]at h
     exact hfin x sc' h
    ·exact hfin x _ h
   ·exact hfin x _ h
  ·rename_i v hp
   have hx:=hget hp (by simp)
   split at h
   ·exact h.elim
   ·rename_i hb
    refine⟨none,?_,.inr ⟨by simp,_,h⟩⟩
    unfold wL
    simp only[ht,hx]
    cases v<;>simp[qbJ]at hb<;>rfl
  ·exact h.elim
theorem M0{o:Oper}{id:Nat}{sc:List It}{st:aB}{K:List It->aB->Prop}(h:Kq P GE A o id sc st K):CG P GE A o id (fun st'=>∃sc',K sc' st') st:=by
 unfold Kq at h
 split at h
 ·rename_i T parts p L sc' ho
  split at h
  ·rename_i d hd
   obtain⟨h1,h2⟩:=pE h
   rw[pR]at h2
   obtain⟨h3,h4,h5⟩:=h2
   simp only[bL,aP]at h5
   refine .inr (.inl ?_)
   unfold L4
   simp only[ho,hd]
   exact⟨p,L,h3,h4,h1,sc',h5⟩
  ·exact h.elim
 ·rename_i T x t vs sc' ho
  rw[jS]at h
  split at h
  ·rename_i l hl
   split at h
   ·rename_i hd
    rw[b7]at h
    split at h
    ·rename_i i off hx
     rw[aP]at h
     obtain⟨rfl,h⟩:=h
     obtain⟨B,hB,h⟩:=eO h
     split at h
     ·rename_i cs own
      split at h
      ·rename_i hc
       simp only[bL,aP]at h
       simp only[vad,vai]at hc
       obtain⟨⟨⟨⟨c1,c2⟩,c3⟩,c4⟩,c5⟩:=hc
       refine .inr (.inl ?_)
       unfold L4
       simp only[ho,hd]
       have hi:=aq hB
       refine⟨i,off,st.boxes.set i (.cells (cs.take off++l++cs.drop (off+l.length)) (own.filter fun y=>y.1<off||off+l.length<=y.1)),_,_,NS t st.own,l,hx,hl,?_,vaj hi,fun y hy=>Ih hy,pP c1,sc',?_⟩
       ·simp only[fo,ct,hB]
        rw[vax ⟨c2,c3,c4,c5⟩]
       ·rw[vbX];exact h
      ·exact h.elim
     ·exact h.elim
    ·exact h.elim
   ·exact h.elim
  ·exact .inl (Ap h)
 ·rename_i T x l sc' ho
  split at h
  ·rename_i fs hT
   split at h
   ·rename_i d hd
    obtain⟨h1,h⟩:=pE h
    rw[b7]at h
    split at h
    ·rename_i i off hx
     obtain⟨B,hB,h⟩:=eO h
     split at h
     ·rename_i cs own
      obtain⟨h2,h⟩:=h
      rw[aP]at h
      split at h
      ·rename_i hn
       simp only[bL,aP]at h
       refine .inr (.inl ?_)
       unfold L4
       simp only[ho,hd]
       have hlen:l.length=P.cellsOf T:=by
        have hp:=h2
        unfold bo at hp
        rw[hT]at hp
        simp only at hp
        split at hp
        ·rename_i hh;cases hp;rw[vbk];omega
        ·cases hp
       exact⟨i,off,cs,own,_,l,⟨fs,hT⟩,hx,hB,h2,fun y hy=>(Dw hy).1,pP hn,fun y hy=>by rw[hlen];exact(Dw hy).2,h1,sc',h⟩
      ·exact h.elim
     ·exact h.elim
    ·exact h.elim
   ·exact h.elim
  ·exact .inl (Ap h)
 ·rename_i T x vs sc' ho
  split at h
  ·rename_i d hd
   obtain⟨h1,h⟩:=pE h
   rw[b7]at h
   obtain⟨h2,h⟩:=h
   simp only[bL,aP]at h
   refine .inr (.inl ?_)
   unfold L4
   simp only[ho,hd]
   exact⟨vs,h2,h1,sc',h⟩
  ·exact h.elim
 ·rename_i f args tys c sc' ho
  split at h
  ·rename_i d hd
   obtain⟨h1,h⟩:=pE h
   obtain⟨H',h2,h3⟩:=yI h
   simp only[bL,aP]at h3
   refine .inr (.inl ?_)
   unfold L4
   simp only[ho,hd]
   exact⟨c.r,c.ro,H',c.oa,h2,h1,sc',h3⟩
  ·exact h.elim
 ·rename_i f args tys c sc' ho
  split at h
  ·rename_i d hd
   obtain⟨h1,h⟩:=pE h
   refine .inr (.inr (.inr ?_))
   exact MX ho hd h1 h
  ·exact h.elim
 ·rename_i t y T T' i e n cs sc' ho
  split at h
  ·rename_i d hd
   have hh:=pE h
   clear h
   obtain⟨h1,h⟩:=hh
   rw[jS,b7]at h
   split at h
   ·rename_i ns he hn
    split at h
    ·rename_i hc
     simp only[vad,vai]at hc
     obtain⟨⟨rfl,c2⟩,rfl⟩:=hc
     obtain⟨h2,⟨p,h3⟩,⟨rfl,rfl⟩,h4⟩:=h
     simp only[bL,aP,JW,aP]at h4
     refine .inr (.inr (.inl ?_))
     unfold RX
     simp only[ho,hd]
     exact⟨e,ns,p,trivial,h2,he,hn,h3,c2,h1,sc',h4⟩
    ·exact h.elim
   ·exact h.elim
  ·exact h.elim
 ·rename_i f x tys i e n cs sc' ho
  split at h
  ·rename_i d hd
   have hh:=pE h
   clear h
   obtain⟨h1,h⟩:=hh
   rw[b7,b7]at h
   split at h
   ·rename_i g ns hg hn
    split at h
    ·rename_i hc
     simp only[vai]at hc
     subst hc
     obtain⟨h2,⟨h3,h4,h5⟩,⟨rfl,rfl⟩,h6⟩:=h
     simp only[bL,aP,JW,aP]at h6
     refine .inr (.inr (.inl ?_))
     unfold RX
     simp only[ho,hd]
     exact⟨g,e,ns,hg,h2,hn,h3,h4,h5,h1,sc',h6⟩
    ·exact h.elim
   ·exact h.elim
  ·exact h.elim
 ·rename_i T x v i0 e n0 cs0 sc' ho
  split at h
  ·rename_i hd hv
   have hv':v=.slice none 0 0:=by
    unfold na at hv
    split at hv
    ·rfl
    ·cases hv
   subst hv'
   rw[b7,b7]at h
   split at h
   ·rename_i i off vs hx hpc
    obtain⟨B,hB,h⟩:=eO h
    split at h
    ·rename_i cs own
     split at h
     ·rename_i hc
      simp only[bL,aP]at h
      simp only[vad,vai]at hc
      obtain⟨⟨⟨c2,c3⟩,c4⟩,c5⟩:=hc
      refine .inr (.inr (.inl ?_))
      unfold RX
      simp only[ho,hd]
      have hi:=aq hB
      refine⟨i,off,e,st.boxes.set i (.cells (cs.take off++vs++cs.drop (off+vs.length)) (own.filter fun y=>y.1<off||off+vs.length<=y.1)),_,_,trivial,hx,?_,vaj hi,sc',?_⟩
      ·simp only[fo,hpc,hB]
       rw[vax ⟨c2,c3,c4,c5⟩]
      ·rw[vbX];exact h
     ·exact h.elim
    ·exact h.elim
   ·exact h.elim
  ·exact h.elim
 ·exact .inl (Ap h)
theorem tR{o:Oper}{id:Nat}{K K':aB->Prop}{st:aB}(hk:∀st,K st->K' st)(h:CG P GE A o id K st):CG P GE A o id K' st:=by
 rcases h with h|h|h|h
 ·exact .inl (R0 hk h)
 rotate_left 2
 ·exact .inr (.inr (.inr (TS hk h)))
 rotate_left
 ·refine .inr (.inr (.inl ?_))
  unfold RX at *
  split at h
  ·obtain⟨e,ns,p,h1,h2,h3,h4,h5,h6,h7,h8⟩:=h;exact⟨e,ns,p,h1,h2,h3,h4,h5,h6,h7,hk _ h8⟩
  ·obtain⟨g,e,ns,h1,h2,h3,h4,h5,h6,h7,h8⟩:=h;exact⟨g,e,ns,h1,h2,h3,h4,h5,h6,h7,hk _ h8⟩
  ·obtain⟨i,off,e,H,cs,own,h1,h2,h3,h4,h5⟩:=h;exact⟨i,off,e,H,cs,own,h1,h2,h3,h4,hk _ h5⟩
  ·exact h
 ·refine .inr (.inl ?_)
  unfold L4 at *
  split at h
  ·obtain⟨p,L,h1,h2,h3,h4⟩:=h;exact⟨p,L,h1,h2,h3,hk _ h4⟩
  ·obtain⟨i,off,H,cs,own,L,l,h1,h2,h3,h4,h5,h6,h7⟩:=h;exact⟨i,off,H,cs,own,L,l,h1,h2,h3,h4,h5,h6,hk _ h7⟩
  ·obtain⟨i,off,cs,own,L,l,h0,h1,h2,h3,h4,h5,h6,h7,h8⟩:=h;exact⟨i,off,cs,own,L,l,h0,h1,h2,h3,h4,h5,h6,h7,hk _ h8⟩
  ·obtain⟨vs,h1,h2,h3⟩:=h;exact⟨vs,h1,h2,hk _ h3⟩
  ·obtain⟨r,ro,H',oa,h1,h2,h3⟩:=h;exact⟨r,ro,H',oa,h1,h2,hk _ h3⟩
  ·exact h
theorem wB{K:List It->aB->Prop}:∀(rest:List Oper) (pos id:Nat) (sc:List It) (st:aB),I1 P GE A ops K rest pos id sc st->dn P GE A ops (fun st=>∃sc,K sc st) rest id st
 |[],_,_,sc,st,h=>⟨sc,h⟩
 | o :: rest,pos,id,sc,st,h => by
  simp only[I1]at h
  have step:∀sc st,Kq P GE A o id sc st (fun sc' st'=>I1 P GE A ops K rest (pos+1) (id+if aK o.op then 1 else 0) sc' st')->CG P GE A o id (dn P GE A ops (fun st=>∃sc,K sc st) rest (id+if aK o.op then 1 else 0)) st:=
   fun sc st hs=>tR (fun st' hx=>by obtain⟨sc',hx⟩:=hx;exact wB rest _ _ sc' st' hx) (M0 hs)
  unfold dn
  split at h
  ·rename_i hg;simp only[hg];exact step _ _ h
  ·rename_i j want hg
   obtain⟨x,hx,hc⟩:=Ej h
   simp only[hg,hx]
   rcases hc with⟨rfl,sc',hc⟩|⟨hne,sc',hc⟩
   ·exact⟨fun _=>step _ _ hc,fun hn=>absurd rfl hn⟩
   ·refine⟨fun he=>absurd he hne,fun _=>?_⟩
    simp only[vG]at hc
    exact wB rest _ _ sc' _ hc
end
abbrev Rs:=Bool×Nat×Nat
abbrev Si:=Bool×(Nat×Nat)×TypeId
def eh(τ:Si):Rs:=match τ.1 with
 |false=>(false,τ.2.1.1,0)
 |true=>(true,τ.2.1.1,τ.2.1.2)
def jT(st:aB)(τ:Si):Prop:=match τ.1 with
 |false=>(τ.2.1,τ.2.2)∈st.own
 |true=>∃cs own,st.boxes[τ.2.1.1]? =some (.cells cs own)/\(τ.2.1.2,τ.2.2)∈own
def bh:aC->aC
 |.cells cs _=>.cells cs []
 |B=>B
theorem P9{H H2:List aC}(h:H2.map bh=H.map bh)(i:Nat):(H2[i]?).map bh=(H[i]?).map bh:=by
 have:=va6 (fun l=>l[i]?) h
 simpa[var]using this
theorem Au{H H2:List aC}(h:H2.map bh=H.map bh){i:Nat}{cs:List PVal}{own:List (Nat×TypeId)}(hi:H[i]? =some (.cells cs own)):∃own2,H2[i]? =some (.cells cs own2):=by
 have:=P9 h i
 rw[hi]at this
 cases hB:H2[i]? with
 |none=>rw[hB]at this;cases this
 |some B=>
  rw[hB]at this
  cases B<;>simp[bh]at this
  subst this
  exact⟨_,rfl⟩
section
variable{P:Program}{GE:List (Nat×List PVal)}
theorem QF{t:TypeId}{x:PVal}{H H2:List aC}(h:H2.map bh=H.map bh):kV P t x H2=kV P t x H:=by
 unfold kV
 split
 ·rfl
 ·rename_i i off
  have hi:=P9 h i
  generalize H2[i]? =o at hi
  generalize H[i]? =o' at hi
  rcases o with _|(_|_|_)<;>rcases o' with _|(_|_|_)<;>simp[bh]at hi ⊢
  subst hi;rfl
 ·rfl
theorem RV{t:TypeId}{x:PVal}{H H2:List aC}(h:H2.map bh=H.map bh):Fo P t x H2=Fo P t x H:=by
 unfold Fo
 split<;>first|rfl|skip
 rename_i i _
 have hi:=P9 h i
 generalize H2[i]? =o at hi
 generalize H[i]? =o' at hi
 rcases o with _|(_|_|_)<;>rcases o' with _|(_|_|_)<;>simp[bh]at hi ⊢
 subst hi;rfl
theorem Nb{t:TypeId}{m k:PVal}{ok:Bool}{H H2:List aC}(h:H2.map bh=H.map bh):ya P t m k ok H2=ya P t m k ok H:=by
 unfold ya
 split
 ·rename_i kt e i _
  have hi:=P9 h i
  generalize H2[i]? =o at hi
  generalize H[i]? =o' at hi
  rcases o with _|(_|_|_)<;>rcases o' with _|(_|_|_)<;>simp[bh]at hi ⊢
  subst hi;rfl
 ·rfl
theorem X3{op:Op}{id:Nat}{v:Operand->PVal}{H H2:List aC}{p:PVal}(hc:ce P op≠3)(hm:aK op=false)(h:tz P op id v H=some (p,H))(h2:2<=ce P op->H2.map bh=H.map bh):tz P op id v H2=some (p,H2):=by
 by_cases hlt:ce P op<2
 ·exact WO hlt hm h H2
 ·have hs:=h2 (by omega)
  have key:∀{q q':Option PVal},q'=q->(q.map fun p=>(p,H))=some (p,H)->(q'.map fun p=>(p,H2))=some (p,H2):=by
   intro q q' e hq
   obtain⟨z,hz,he⟩:=ff hq
   cases he
   rw[e,hz];rfl
  unfold tz at h ⊢
  split at h
  all_goals first
   |(cases h;done)
   |(simp[ce]at hlt;done)
   |(simp[ce]at hc;done)
   |(simp[aK]at hm;done)
   |exact key (QF hs) h
   |exact key (Nb hs) h
   |exact key (RV hs) h
def bO(P:Program)(rw:List Nat)(o:Oper):Nat:=match o.op with
 |.call {callee:=.value _,..}=>if(o.dst.any fun d=>rw.contains (8 * d+1))=true then 3 else 0
 |op=>ce P op
theorem Gd{rw:List Nat}{o:Oper}(h:∀f args tys,o.op≠.call {callee:=.value f,args,argTypes:=tys}):bO P rw o=ce P o.op:=by
 unfold bO
 split
 ·rename_i hx;exact absurd hx (h _ _ _)
 ·rfl
def NK:Op->Bool
 |.call {callee:=.value _,..}=>true
 |_=>false
def yb(i off n:Nat):List Rs:=(List.range n).map fun k=>(true,i,off+k)
def Fb(t:Nat):Operand->Bool
 |.tmp t'=>t'==t
 |_=>false
theorem NJ{t:Nat}{x:Operand}(h:Fb t x=true):x=.tmp t:=by
 cases x<;>simp[Fb]at h
 rw[h]
def QQ(GE:List (Nat×List PVal))(tmps:List PVal)(parts:List (Nat×Operand))(t:Nat)(q:PVal):List (Nat×PVal):=parts.map fun x=>(x.1,if Fb t x.2=true then q else opv GE tmps x.2)
def qbn(P:Program)(T:TypeId)(F:PVal->List (Nat×PVal))(k:Nat):Prop:=∀(b:Option Addr) (n m:Nat),∃cs,dG P T (F (.val (.slice b n m)))=some (.agg cs)/\cs[k]? =some (.val (.slice b n m))
inductive jR(P:Program)(GE:List (Nat×List PVal))(bi:Option (Nat×aC))(rw:List Nat)(o:Oper)(id:Nat)(s:aB):aB->List Rs->Prop where
 | call (d:Nat) (f:Operand) (args:Array Operand) (tys:Array TypeId) (g:FuncId) (first cap:List PVal) (r:PVal) (ro:List (Nat×TypeId)) (ho:o.op = .call { callee := .value f,args,argTypes:=tys }) (hd:o.dst = some d)
   (hf:opv GE s.tmps f=.func (.func g) first cap) (hcl:jl 0 (first++args.toList.map (opv GE s.tmps)++cap)) (hc:C P GE g (first++args.toList.map (opv GE s.tmps)++cap) [] [] r ro []):
   jR P GE bi rw o id s ⟨s.tmps.set d r,s.boxes,(ro.map fun x=>((d,x.1),x.2))++bT d s.own⟩ [(false,d,0)]
 |alloc (d:Nat) (t:TypeId) (zs:List PVal) (ho:o.op=.alloc t) (hd:o.dst=some d) (hz:fM P t=some zs):jR P GE bi rw o id s ⟨s.tmps.set d (.bptr id 0),s.boxes,bT d s.own⟩ [(false,d,0)]
 |mkmap (d:Nat) (t:TypeId) (ho:o.op=.makeMap t none) (hd:o.dst=some d):jR P GE bi rw o id s ⟨s.tmps.set d (.mapr id),s.boxes,bT d s.own⟩ [(false,d,0)]
 | ev (d:Nat) (p:PVal) (hd:o.dst = some d) (hn:NK o.op = false) (hm:aK o.op = false) (hc:ce P o.op ≠ 3) (h:tz P o.op id (opv GE s.tmps) s.boxes = some (p,s.boxes)) :
   jR P GE bi rw o id s ⟨s.tmps.set d p,s.boxes,bT d s.own⟩ [(false,d,0)]
 | res (d:Nat) (p:PVal) (L:List (Nat×TypeId)) (hd:o.dst = some d)
   (h:(∃T len parts e,o.op=.buildSlice T len parts/\gV P T len (parts.toList.map fun x=>(x.1,opv GE s.tmps x.2))=some p/\P.underlying T=some (.slice e)/\L=[(0,e)])\/
    (∃T parts,o.op=.build T parts/\dG P T (parts.toList.map fun x=>(x.1,opv GE s.tmps x.2))=some p/\Fp P T (parts.toList.map fun x=>(x.1,opv GE s.tmps x.2)) L)\/
    (∃v e,(o.op=.assign (.const v)\/o.op=.move (.const v))/\vD P o.type v=some e/\p=.slice []/\L=[(0,e)])):
   jR P GE bi rw o id s ⟨s.tmps.set d p,s.boxes,(L.map fun x=>((d,x.1),x.2))++bT d s.own⟩ [(false,d,0)]
 | app (d t:Nat) (T e:TypeId) (y:Operand) (es ns:List (List PVal)) (p:PVal) (hd:o.dst = some d) (ho:o.op = .call { callee := .builtin .append,args:=⟨[.tmp t,y]⟩,argTypes:=⟨[T,T]⟩ })
   (hT:P.underlying T=some (.slice e)) (he:s.tmps.getD t .undef=.slice es) (hn:opv GE s.tmps y=.slice ns) (hp:nD P T es ns=some p) (hm:((t,0),e)∈s.own):
   jR P GE bi rw o id s ⟨s.tmps.set d p,s.boxes,((d,0),e)::bT d (s.own.filter fun x=>x.1 !=(t,0))⟩ [(false,d,0),(false,t,0)]
 | mv (d t:Nat) (hd:o.dst = some d) (ho:o.op = .assign (.tmp t)∨o.op = .move (.tmp t)) (hdt:d ≠ t) :
   jR P GE bi rw o id s ⟨s.tmps.set d (s.tmps.getD t .undef),s.boxes,kG d (fun x=>if x.1=t then(d,x.2)else x) s.own⟩ [(false,d,0),(false,t,0)]
 | bmv (d t k:Nat) (T:TypeId) (parts:Array (Nat×Operand)) (p:PVal) (es:List (List PVal)) (hd:o.dst = some d) (ho:o.op = .build T parts) (hdt:d ≠ t) (ht:s.tmps.getD t .undef = .slice es) (hin:(parts.toList.any fun x => Fb t x.2) = true)
   (hp:dG P T (parts.toList.map fun x=>(x.1,opv GE s.tmps x.2))=some p) (hm:qbn P T (QQ GE s.tmps parts.toList t) k):
   jR P GE bi rw o id s ⟨s.tmps.set d p,s.boxes,kG d (fun x=>if x=(t,0)then(d,k)else x) s.own⟩ [(false,d,0),(false,t,0)]
 | ld (d:Nat) (T:TypeId) (x:Operand) (i off:Nat) (cs:List PVal) (own L:List (Nat×TypeId)) (p:PVal) (hd:o.dst = some d) (ho:o.op = .load T x) (hx:opv GE s.tmps x = .bptr i off) (hB:s.boxes[i]? = some (.cells cs own))
   (h:(∃e,P.underlying T=some (.slice e)/\cs[off]? =some p/\L=[(0,e)])\/(∃fs l,P.underlying T=some (.struct fs)/\bo P T (cs.drop off)=some (.agg l)/\p=.agg l/\(L.map (·.1)).Nodup/\∀y∈L,y.1<l.length))
   (hm:∀y∈L,(off+y.1,y.2)∈own):
   jR P GE bi rw o id s ⟨s.tmps.set d p,s.boxes.set i (.cells cs (own.filter fun x=>!L.any fun y=>x.1==off+y.1)),(L.map fun y=>((d,y.1),y.2)).reverse++bT d s.own⟩ ((false,d,0)::L.map fun y=>(true,i,off+y.1))
 | st (T:TypeId) (x y:Operand) (i off:Nat) (vs cs:List PVal) (own:List (Nat×TypeId)) (hd:o.dst = none) (ho:o.op = .store T x y) (hx:opv GE s.tmps x = .bptr i off) (hvs:ct (opv GE s.tmps y) = some vs) (hB:s.boxes[i]? = some (.cells cs own))
   (hp:fo P T (.bptr i off) (opv GE s.tmps y) s.boxes=some (s.boxes.set i (.cells (cs.take off++vs++cs.drop (off+vs.length)) (own.filter fun y=>y.1<off||off+vs.length<=y.1)))):
   jR P GE bi rw o id s ⟨s.tmps,s.boxes.set i (.cells (cs.take off++vs++cs.drop (off+vs.length)) (own.filter fun y=>y.1<off||off+vs.length<=y.1)),s.own⟩ (yb i off vs.length)
 | sto (T:TypeId) (x:Operand) (t i off:Nat) (vs cs:List PVal) (own L:List (Nat×TypeId)) (hd:o.dst = none) (ho:o.op = .store T x (.tmp t)) (hx:opv GE s.tmps x = .bptr i off) (hvs:ct (s.tmps.getD t .undef) = some vs) (hB:s.boxes[i]? = some (.cells cs own))
   (hp:fo P T (.bptr i off) (s.tmps.getD t .undef) s.boxes=some (s.boxes.set i (.cells (cs.take off++vs++cs.drop (off+vs.length)) (own.filter fun y=>y.1<off||off+vs.length<=y.1))))
   (hk:(∃l,s.tmps.getD t .undef=.agg l)\/((s.tmps.getD t .undef).one=true/\∃e,L=[(0,e)])) (hm:∀y∈L,((t,y.1),y.2)∈s.own) (hn:(L.map (·.1)).Nodup) (hl:∀y∈L,y.1<vs.length):
   jR P GE bi rw o id s ⟨s.tmps,s.boxes.set i (.cells (cs.take off++vs++cs.drop (off+vs.length)) ((L.map fun y=>(off+y.1,y.2)).reverse++own.filter fun y=>y.1<off||off+vs.length<=y.1)),s.own.filter fun x=>!L.any fun y=>x.1==(t,y.1)⟩
    ((false,t,0)::yb i off vs.length)
 |mu (t:TypeId) (m k x:Operand) (H:List aC) (hd:o.dst=none) (ho:o.op=.mapUpdate t m k x) (hp:i8 P t (opv GE s.tmps m) (opv GE s.tmps k) (opv GE s.tmps x) s.boxes=some H):jR P GE bi rw o id s ⟨s.tmps,H,s.own⟩ []
 | callR (d:Nat) (f:Operand) (args:Array Operand) (tys:Array TypeId) (r:PVal) (ro:List (Nat×TypeId)) (oa:List OA) (ho:o.op = .call { callee := .value f,args,argTypes:=tys }) (hd:o.dst = some d)
   (hg:∀st:aB,(∀x,x=f\/x∈args.toList->opv GE s.tmps x=opv GE st.tmps x)->(∀x∈oa,((x.t,x.k),x.e)∈s.own->((x.t,x.k),x.e)∈st.own)->KD P GE f args.toList st r ro st.boxes oa):
   jR P GE bi rw o id s ⟨s.tmps.set d r,s.boxes,(ro.map fun x=>((d,x.1),x.2))++bT d (s.own.filter fun z=>!oa.any fun x=>z.1==(x.t,x.k))⟩ ((false,d,0)::oa.map fun x=>(false,x.t,0))
 | cl (d i:Nat) (f x:Operand) (tys:Array TypeId) (g:FuncId) (e:TypeId) (es:List (List PVal)) (ho:o.op = .call { callee := .value f,args:=⟨[x]⟩,argTypes:=tys }) (hd:o.dst = some d) (hb:bi = some (i,.cells es.flatten []))
   (hf:opv GE s.tmps f=.func (.func g) [] []) (hx:opv GE s.tmps x=.slice es) (hC:tZ P g e) (h0:0<P.cellsOf e) (h1:∀x∈es,x.length=P.cellsOf e/\∀q∈x,q.one=true) (h2:es.length<=dw):
   jR P GE bi rw o id s ⟨s.tmps.set d (.bsl i 0 es.length),s.boxes,bT d s.own⟩ [(false,d,0)]
 | stR (T:TypeId) (x y:Operand) (i off:Nat) (cs cs':List PVal) (hd:o.dst = none) (ho:o.op = .store T x y) (hx:opv GE s.tmps x = .bptr i off) (hB:s.boxes[i]? = some (.cells cs []))
   (hp:fo P T (.bptr 0 off) (opv GE s.tmps y) [.cells cs []]=some [.cells cs' []]) (hi:2 * i∈rw):
   jR P GE bi rw o id s ⟨s.tmps,s.boxes.set i (.cells cs' []),s.own⟩ []
structure qar(P:Program)(rw:List Nat)(o:Oper)(s s':aB)(rs:List Rs):Prop where
 tm:match o.dst with
  |some d=>∃p,s'.tmps=s.tmps.set d p
  |none=>s'.tmps=s.tmps
 bx:bO P rw o≠3->s'.boxes.map bh=s.boxes.map bh
 back:∀τ,eh τ∉rs->jT s' τ->jT s τ
theorem N4{H:List aC}{i:Nat}{cs:List PVal}{own own':List (Nat×TypeId)}(hB:H[i]? =some (.cells cs own)):(H.set i (.cells cs own')).map bh=H.map bh:=by
 apply va2
 intro j
 simp only[var]
 by_cases hj:i=j
 ·subst hj
  rw[vaj (aq hB),hB];rfl
 ·rw[vap hj]
theorem de{st:aB}{t k:Nat}{e:TypeId}:jT st (false,(t,k),e)↔((t,k),e)∈st.own:=Iff.rfl
theorem fa{st:aB}{i j:Nat}{e:TypeId}:jT st (true,(i,j),e)↔∃cs own,st.boxes[i]? =some (.cells cs own)/\(j,e)∈own:=Iff.rfl
theorem tS{i off n i' j':Nat}:(true,i',j')∈yb i off n↔i'=i/\off<=j'/\j'<off+n:=by
 unfold yb
 simp only[vah,vbu,Prod.mk.injEq,vb7]
 constructor
 ·rintro⟨k,hk,rfl,rfl⟩;exact⟨rfl,by omega,by omega⟩
 ·rintro⟨rfl,h1,h2⟩;exact⟨j' - off,by omega,rfl,by omega⟩
theorem gp{d:Nat}{own:List ((Nat×Nat)×TypeId)}{x:(Nat×Nat)×TypeId}(h:x∈own)(hd:x.1.1≠d):x∈bT d own:=by
 unfold bT;exact vaJ.2 ⟨h,by simpa using hd⟩
theorem CE{t:TypeId}{m k v:PVal}{H H':List aC}(h:i8 P t m k v H=some H'):∃i es es',H[i]? =some (.map es)/\H'=H.set i (.map es'):=by
 unfold i8 at h
 split at h
 ·rename_i kt e i _ _
  split at h
  ·rename_i es kd hB _
   split at h
   ·split at h
    ·cases h;exact⟨_,es,_,hB,rfl⟩
    ·cases h;exact⟨_,es,_,hB,rfl⟩
    ·cases h
   ·cases h
  ·cases h
 ·cases h
theorem iP{st:aB}{tm:List PVal}{ow:List ((Nat×Nat)×TypeId)}{i:Nat}{B:aC}{i' j':Nat}{e:TypeId}(hne:i≠i'):jT ⟨tm,st.boxes.set i B,ow⟩ (true,(i',j'),e)↔jT st (true,(i',j'),e):=by
 simp only[fa,vap hne]
theorem jR.eff{bi:Option (Nat×aC)}{rw:List Nat}{o:Oper}{id:Nat}{s s':aB}{rs:List Rs}(h:jR P GE bi rw o id s s' rs):qar P rw o s s' rs:=by
 have slot:∀{d:Nat} {p:PVal} {L:List (Nat×TypeId)} {rs:List Rs} {τ:Si},(false,d,0)∈rs->eh τ∉rs->jT ⟨s.tmps.set d p,s.boxes,(L.map fun x=>((d,x.1),x.2))++bT d s.own⟩ τ->jT s τ:=by
  rintro d p L rs ⟨b,⟨t,k⟩,e⟩ hd hr hh
  cases b with
  |true=>exact hh
  | false =>
   rcases vaw.1 (de.1 hh)with hh|hh
   ·simp only[vah,Prod.mk.injEq]at hh
    obtain⟨x,_,⟨rfl,_⟩,_⟩:=hh
    exact absurd hd hr
   ·exact(dS hh).1
 have slot0:∀{d:Nat} {p:PVal} {rs:List Rs} {τ:Si},(false,d,0)∈rs->eh τ∉rs->jT ⟨s.tmps.set d p,s.boxes,bT d s.own⟩ τ->jT s τ:=fun{d p rs τ} hd hr hh=>slot (L:=[]) hd hr hh
 cases h with
 |call d f args tys g first cap r ro ho hd hf hcl hc=>exact⟨by rw[hd];exact⟨r,rfl⟩,fun _=>rfl,fun τ hr hh=>slot (by simp) hr hh⟩
 |alloc d t zs ho hd hz=>exact⟨by rw[hd];exact⟨_,rfl⟩,fun _=>rfl,fun τ hr hh=>slot0 (by simp) hr hh⟩
 |mkmap d t ho hd=>exact⟨by rw[hd];exact⟨_,rfl⟩,fun _=>rfl,fun τ hr hh=>slot0 (by simp) hr hh⟩
 |ev d p hd hn hm hc h=>exact⟨by rw[hd];exact⟨_,rfl⟩,fun _=>rfl,fun τ hr hh=>slot0 (by simp) hr hh⟩
 |res d p L hd h=>exact⟨by rw[hd];exact⟨_,rfl⟩,fun _=>rfl,fun τ hr hh=>slot (by simp) hr hh⟩
 | app d t T e y es ns p hd ho hT he hn hp hm =>
  refine⟨by rw[hd];exact⟨_,rfl⟩,fun _=>rfl,?_⟩
  rintro⟨b,⟨t',k⟩,e'⟩ hr hh
  cases b with
  |true=>exact hh
  | false =>
   rcases vay.1 (de.1 hh)with hh|hh
   ·cases hh;exact absurd (by simp[eh]) hr
   ·exact(ch (dS hh).1).1
 | mv d t hd ho hdt =>
  refine⟨by rw[hd];exact⟨_,rfl⟩,fun _=>rfl,?_⟩
  rintro⟨b,⟨t',k⟩,e'⟩ hr hh
  cases b with
  |true=>exact hh
  | false =>
   have hh:=de.1 hh
   simp only[kG,vah]at hh
   obtain⟨⟨⟨t2,k2⟩,e2⟩,hx,he⟩:=hh
   simp only[Prod.mk.injEq]at he
   obtain⟨he,rfl⟩:=he
   split at he
   ·cases he;exact absurd (by simp[eh]) hr
   ·cases he;exact(dS hx).1
 | bmv d t k T parts p es hd ho hdt ht hin hp hm =>
  refine⟨by rw[hd];exact⟨_,rfl⟩,fun _=>rfl,?_⟩
  rintro⟨b,⟨t',k'⟩,e'⟩ hr hh
  cases b with
  |true=>exact hh
  | false =>
   have hh:=de.1 hh
   simp only[kG,vah]at hh
   obtain⟨⟨⟨t2,k2⟩,e2⟩,hx,he⟩:=hh
   simp only[Prod.mk.injEq]at he
   obtain⟨he,rfl⟩:=he
   split at he
   ·cases he;exact absurd (by simp[eh]) hr
   ·cases he;exact(dS hx).1
 | ld d T x i off cs own L p hd ho hx hB h hm =>
  refine⟨by rw[hd];exact⟨_,rfl⟩,fun _=>N4 hB,?_⟩
  rintro⟨b,⟨t',k⟩,e'⟩ hr hh
  cases b with
  | true =>
   by_cases hi:i=t'
   ·subst hi
    obtain⟨cs',own',h1,h2⟩:=fa.1 hh
    simp only[vaj (aq hB),vat,aC.cells.injEq]at h1
    obtain⟨rfl,rfl⟩:=h1
    exact⟨_,_,hB,(ch h2).1⟩
   ·exact(iP hi).1 hh
  | false =>
   rcases vaw.1 (de.1 hh)with hh|hh
   ·simp only[vb2,vah,Prod.mk.injEq]at hh
    obtain⟨y,_,⟨rfl,_⟩,_⟩:=hh
    exact absurd (by simp[eh]) hr
   ·exact(dS hh).1
 | st T x y i off vs cs own hd ho hx hvs hB hp =>
  refine⟨by rw[hd],fun hc=>absurd (by simp[bO,ce,ho]) hc,?_⟩
  rintro⟨b,⟨t',k⟩,e'⟩ hr hh
  cases b with
  |false=>exact hh
  | true =>
   by_cases hi:i=t'
   ·subst hi
    obtain⟨cs',own',h1,h2⟩:=fa.1 hh
    simp only[vaj (aq hB),vat,aC.cells.injEq]at h1
    obtain⟨rfl,rfl⟩:=h1
    exact⟨_,_,hB,(ch h2).1⟩
   ·exact(iP hi).1 hh
 | sto T x t i off vs cs own L hd ho hx hvs hB hp hk hm hn hl =>
  refine⟨by rw[hd],fun hc=>absurd (by simp[bO,ce,ho]) hc,?_⟩
  rintro⟨b,⟨t',k⟩,e'⟩ hr hh
  cases b with
  |false=>exact(ch (de.1 hh)).1
  | true =>
   by_cases hi:i=t'
   ·subst hi
    obtain⟨cs',own',h1,h2⟩:=fa.1 hh
    simp only[vaj (aq hB),vat,aC.cells.injEq]at h1
    obtain⟨rfl,rfl⟩:=h1
    rcases vaw.1 h2 with h2|h2
    ·simp only[vb2,vah,Prod.mk.injEq]at h2
     obtain⟨y,hy,rfl,_⟩:=h2
     refine absurd (vaU _ (tS.2 ⟨rfl,?_,?_⟩)) hr
     ·simp
     ·have:=hl y hy;simp;omega
    ·exact⟨_,_,hB,(ch h2).1⟩
   ·exact(iP hi).1 hh
 | mu t m k x H hd ho hp =>
  refine⟨by rw[hd],fun hc=>absurd (by simp[bO,ce,ho]) hc,?_⟩
  obtain⟨i,es,es',hB,rfl⟩:=CE hp
  rintro⟨b,⟨t',k⟩,e'⟩ hr hh
  cases b with
  |false=>exact hh
  | true =>
   by_cases hi:i=t'
   ·subst hi
    obtain⟨cs',own',h1,h2⟩:=fa.1 hh
    simp only[vaj (aq hB),vat]at h1
    cases h1
   ·exact(iP hi).1 hh
 | callR d f args tys r ro oa ho hd hg =>
  refine⟨by rw[hd];exact⟨r,rfl⟩,fun _=>rfl,?_⟩
  rintro⟨b,⟨t',k⟩,e'⟩ hr hh
  cases b with
  |true=>exact hh
  | false =>
   rcases vaw.1 (de.1 hh)with hh|hh
   ·simp only[vah,Prod.mk.injEq]at hh
    obtain⟨x,_,⟨rfl,_⟩,_⟩:=hh
    exact absurd (by simp[eh]) hr
   ·exact(ch (dS hh).1).1
 |cl d i f x tys g e es ho hd hb hf hx hC h0 h1 h2=>exact⟨by rw[hd];exact⟨_,rfl⟩,fun _=>rfl,fun τ hr hh=>slot0 (by simp) hr hh⟩
 | stR T x y i off cs cs' hd ho hx hB hp hi =>
  refine⟨by rw[hd],fun hc=>absurd (by simp[bO,ce,ho]) hc,?_⟩
  rintro⟨b,⟨t',k⟩,e'⟩ hr hh
  cases b with
  |false=>exact hh
  | true =>
   by_cases hi':i=t'
   ·subst hi'
    obtain⟨cs1,sG,k1,k2⟩:=fa.1 hh
    simp only[vaj (aq hB),vat,aC.cells.injEq]at k1
    obtain⟨rfl,rfl⟩:=k1
    cases k2
   ·exact(iP hi').1 hh
theorem Qa{H H2:List aC}(h:H2.map bh=H.map bh){i:Nat}{es:List (PVal×PVal)}(hi:H[i]? =some (.map es)):H2[i]? =some (.map es):=by
 have:=P9 h i
 rw[hi]at this
 cases hB:H2[i]? with
 |none=>rw[hB]at this;cases this
 |some B=>
  rw[hB]at this
  cases B<;>simp[bh]at this
  subst this
  rfl
theorem AJ{H H2:List aC}(h:H2.map bh=H.map bh){i:Nat}{B B2:aC}(hB:bh B2=bh B):(H2.set i B2).map bh=(H.set i B).map bh:=by
 rw[List.map_set,List.map_set,h,hB]
theorem Nc{t:TypeId}{m k v:PVal}{H H' H2:List aC}(hs:H2.map bh=H.map bh)(h:i8 P t m k v H=some H'):∃i es',m=.mapr i/\H'=H.set i (.map es')/\i8 P t m k v H2=some (H2.set i (.map es')):=by
 unfold i8 at h ⊢
 split at h
 ·split at h
  ·rename_i es kd hB hk
   split at h
   ·rename_i hkk
    split at h
    ·rename_i hf;cases h;refine⟨_,_,rfl,rfl,?_⟩;simp only[Qa hs hB,hk,vax hkk,hf]
    ·rename_i hf;cases h;refine⟨_,_,rfl,rfl,?_⟩;simp only[Qa hs hB,hk,vax hkk,hf]
    ·cases h
   ·cases h
  ·cases h
 ·cases h
structure Um(P:Program)(bs:bD)(rw:List Nat)(o:Oper)(st st' s s':aB)(rs:List Rs):Prop where
 tm:match o.dst with
  |some d=>∃p,st'.tmps=st.tmps.set d p/\s'.tmps=s.tmps.set d p
  |none=>st'.tmps=st.tmps/\s'.tmps=s.tmps
 b1:bO P rw o≠3->st'.boxes.map bh=st.boxes.map bh
 b2:bO P rw o=3->st'.boxes.map bh=s'.boxes.map bh
 keep:∀τ,eh τ∉rs->(τ.1=true->2 * τ.2.1.1∉rw)->jT st τ->jT st' τ
 got:∀τ,eh τ∈rs->jT s' τ->jT st' τ
 un:∀i:Nat,bs[i]? =some none->st'.boxes[i]? =st.boxes[i]?
theorem I7{st:aB}{tm:List PVal}{d:Nat}{L:List (Nat×TypeId)}{rs:List Rs}{R:Si->Prop}(hd:(false,d,0)∈rs)(τ:Si)(hr:eh τ∉rs)(_:R τ)(h:jT st τ):jT ⟨tm,st.boxes,(L.map fun x=>((d,x.1),x.2))++bT d st.own⟩ τ:=by
 obtain⟨b,⟨t,k⟩,e⟩:=τ
 cases b with
 |true=>exact h
 |false=>exact vaV _ (gp (de.1 h) fun hx=>by simp only at hx;subst hx;exact hr hd)
theorem Qc{st s:aB}{tm tm':List PVal}{d:Nat}{L:List (Nat×TypeId)}(τ:Si)(hr:eh τ∈[(false,d,0)])(h:jT ⟨tm',s.boxes,(L.map fun x=>((d,x.1),x.2))++bT d s.own⟩ τ):jT ⟨tm,st.boxes,(L.map fun x=>((d,x.1),x.2))++bT d st.own⟩ τ:=by
 obtain⟨b,⟨t,k⟩,e⟩:=τ
 cases b with
 |true=>simp[eh]at hr
 | false =>
  rcases vaw.1 (de.1 h)with h|h
  ·exact va0 _ h
  ·have:=(dS h).2
   simp[eh]at hr
   exact absurd hr this
section
variable{E:rD}{Γ:aU}{bs:bD}{ow:Nat->Option lX}{w:World}{a:Act}{st:aB}
theorem GW{T:TypeId}{i off:Nat}{y:PVal}{vs cs:List PVal}{own:List (Nat×TypeId)}{H H':List aC}(hvs:ct y=some vs)(hB:H[i]? =some (.cells cs own))(hp:fo P T (.bptr i off) y H=some H'){H2:List aC}{own2:List (Nat×TypeId)}(hB2:H2[i]? =some (.cells cs own2)):fo P T (.bptr i off) y H2=some (H2.set i (.cells (cs.take off++vs++cs.drop (off+vs.length)) (own2.filter fun y=>y.1<off||off+vs.length<=y.1))):=by
 simp only[fo,hvs,hB]at hp
 simp only[fo,hvs,hB2]
 split at hp
 ·rename_i hc;rw[vax hc]
 ·cases hp
theorem R1{T:TypeId}{i off:Nat}{y:PVal}{cs cs':List PVal}{own2:List (Nat×TypeId)}{H:List aC}(hp:fo P T (.bptr 0 off) y [.cells cs []]=some [.cells cs' []])(hB:H[i]? =some (.cells cs own2)):∃own',fo P T (.bptr i off) y H=some (H.set i (.cells cs' own')):=by
 unfold fo at hp ⊢
 split at hp
 ·rename_i i' off' vs h1 h2
  cases h1
  simp only[List.getElem?_cons_zero]at hp
  simp only[h2,hB]
  split at hp
  ·rename_i hc
   rw[vax hc]
   simp only[List.set_cons_zero,vat,vbH,aC.cells.injEq,vcj]at hp
   obtain⟨rfl,_⟩:=hp
   exact⟨_,rfl⟩
  ·cases hp
 ·cases hp
theorem SR.fillBox{a:Array Value}(h:SR P E Γ bs ow w a st){i:Nat}(hid:bs[i]? =some none){cs:List PVal}(hB:st.boxes[i]? =some (.cells cs []))(xb:Option Nat)
  (hx:∀b,xb=some b->(∃cur t,w.heap[b]? =some (.cells cur t (0,0))/\cs.length<=cur.size/\∀(j:Nat) p v,cs[j]? =some p->cur[j]? =some v->VR Γ bs w p v)/\Γ b=none/\(E.T b\/E.w.heap.size<=b)/\∀i:Nat,bs[i]? ≠some (some b)):
  SR P E Γ (bs.set i xb) ow w a st:=by
 have hs:bs.Sub (bs.set i xb):=fun j b hb=>CK hid hb
 have hlt:i<bs.length:=aq hid
 have hcase:∀{j b:Nat},(bs.set i xb)[j]? =some (some b)->(j=i/\xb=some b)\/(j≠i/\bs[j]? =some (some b)):=by
  intro j b hb
  by_cases hj:j=i
  ·subst hj
   rw[vaj hlt]at hb
   exact .inl ⟨rfl,by simpa using hb⟩
  ·rw[vap (fun e=>hj e.symm)]at hb
   exact .inr ⟨hj,hb⟩
 exact{h with
  tm:=fun t p v hp hv=>(h.tm t p v hp hv).mono (.refl _ _) hs
  bl:=by simp[h.bl]
  bx:=fun j b B hb hB'=>by
   rcases hcase hb with⟨rfl,hb'⟩|⟨hj,hb'⟩
   ·obtain⟨⟨cur,t,k1,k2,k3⟩,k4,k5,k6⟩:=hx b hb'
    rw[hB]at hB'
    cases hB'
    exact⟨k4,(vae.1 k1).1,cur,t,k1,k2,fun j p v hp hv=>(k3 j p v hp hv).mono (.refl _ _) hs⟩
   ·obtain⟨h1,h2,h3⟩:=h.bx j b B hb' hB'
    exact⟨h1,h2,h3.mono (.refl _ _) hs rfl⟩
  inj:=fun j k b hj hk=>by
   rcases hcase hj with⟨rfl,hj'⟩|⟨_,hj'⟩<;>rcases hcase hk with⟨rfl,hk'⟩|⟨_,hk'⟩
   ·rfl
   ·exact absurd hk' ((hx b hj').2.2.2 k)
   ·exact absurd hj' ((hx b hk').2.2.2 j)
   ·exact h.inj j k b hj' hk'
  bn:=fun j b hb=>by
   rcases hcase hb with⟨rfl,hb'⟩|⟨_,hb'⟩
   ·exact(hx b hb').2.2.1
   ·exact h.bn j b hb'
  ob:=fun j k e cs' own b hB' hj hb=>by
   rcases hcase hb with⟨rfl,hb'⟩|⟨_,hb'⟩
   ·rw[hB]at hB'
    cases hB'
    simp at hj
   ·exact h.ob j k e cs' own b hB' hj hb'
  gl:=fun g cs hg=>(h.gl g cs hg).mono (.refl _ _) hs}
theorem Rv{a:Array Value}(h:SR P E Γ bs ow w a st){i:Nat}(hid:bs[i]? =some none){ns:List (List PVal)}(hB:st.boxes[i]? =some (.cells ns.flatten [])){f:FuncId}{e:TypeId}{x:Value}(hC:tZ P f e)(hx:VR Γ bs w (.slice ns) x)(hsz0:0<P.cellsOf e)(hns1:∀x∈ns,x.length=P.cellsOf e/\∀q∈x,q.one=true)(hlen:ns.length<=dw):Calls P f #[x] w fun r w'=>∃v' xb,r=.returned v'/\SR P E Γ (bs.set i xb) ow w' a st/\VR Γ (bs.set i xb) w' (.bsl i 0 ns.length) v':=by
 obtain⟨news,hnx,hnl,hn1,hnv⟩:=Kv hx hsz0 hns1
 refine(hC.2 w x ns.length news hnx hnl hn1 hlen).mono fun r w' hr=>?_
 obtain⟨v',rfl,hown,hb,hbd⟩:=hr
 obtain⟨hle,hS⟩:=Cg h hb hbd
 rcases hown.2 with⟨rfl,hn⟩|⟨g,cap,cur,rfl,hge,hheap,hnc,hcm,hcs,htake⟩
 ·have hns0:ns=[]:=vao hn
  subst hns0
  exact⟨_,none,rfl,hS.fillBox hid hB none (fun b hb=>by cases hb),.bsl _ _ _ _ _ (va1 _) (fun _=>rfl) (.inl rfl)⟩
 ·refine⟨_,some g,rfl,hS.fillBox hid hB (some g) (fun b hb'=>?_),?_⟩
  ·cases hb'
   refine⟨⟨cur,e,hheap,DC hsz0 (fun x hx=>(hns1 x hx).1) fun i x k q hx hq=>?_⟩,?_,.inr (vaB h.step.size hge),fun i hi=>?_⟩
   ·obtain⟨u,k1,k2⟩:=hnv i x k q hx hq
    refine⟨u,?_,k2.mono hle (.refl _)⟩
    have hlt:=aq k1
    rw[<-htake,vak (by omega)]at k1
    simpa using k1
   ·cases hg:Γ g with
    |none=>rfl
    |some m=>exact absurd (h.lt_of_ghost hg) (by omega)
   ·have:=(h.bx i g (st.boxes[i]'(by rw[<-h.bl];exact aq hi)) hi (by simp)).2.1
    omega
  ·exact .bsl _ _ _ _ _ hnc (fun h=>by cases h) (.inr ⟨g,rfl,vaj (aq hid)⟩)
theorem T6{es:List (List PVal)}{u:Value}(h:VR Γ bs w (.slice es) u):∃b n m,u=.slice b n m:=by
 cases h<;>exact⟨_,_,_,rfl⟩
theorem MS(h:SR P E Γ bs ow w a.tmps st){o:Oper}{id d t k:Nat}{T:TypeId}{parts:Array (Nat×Operand)}{p:PVal}{es:List (List PVal)}{K:aB->Prop}(ho:o.op=.build T parts)(hdst:o.dst=some d)(hd:d<st.tmps.length)(hg:st.tmps.getD t .undef=.slice es)
  (hp:dG P T (parts.toList.map fun x=>(x.1,opv E.GE st.tmps x.2))=some p) (hm:qbn P T (QQ E.GE st.tmps parts.toList t) k)
  (hK:K ⟨st.tmps.set d p,st.boxes,kG d (fun x=>if x=(t,0)then(d,k)else x) st.own⟩) (Q:Exit->Act->World->Prop):
  o.wp P a w (ib P E bs id (aK o.op) a.defers K) Q:=by
 have hρ:∀x,VR Γ bs w (opv E.GE st.tmps x) (a.eval x):=fun x=>h.opv a.defers x
 obtain⟨k1,k2⟩:=zo hρ parts.toList
 obtain⟨v,r1,r2⟩:=Az k1 k2 hp
 have hu:VR Γ bs w (.slice es) (a.eval (.tmp t)):=by
  have:=hρ (.tmp t)
  rwa[show opv E.GE st.tmps (.tmp t)=st.tmps.getD t .undef from rfl,hg]at this
 obtain⟨b,n,m,hu⟩:=T6 hu
 obtain⟨cs,hcs,hck⟩:=hm b n m
 have hρ2:∀x:Operand,VR Γ bs w (if Fb t x=true then .val (.slice b n m)else opv E.GE st.tmps x) (a.eval x):=fun x=>by
  split
  ·rename_i hx
   rw[NJ hx,hu]
   exact .val _
  ·exact hρ x
 obtain⟨l1,l2⟩:=zo (v:=fun x=>if Fb t x=true then .val (.slice b n m)else opv E.GE st.tmps x) hρ2 parts.toList
 obtain⟨v2,s1,s2⟩:=Az l1 l2 hcs
 rw[r1]at s1
 cases s1
 have hrun:(execOp a.eval o).run P w=.ok (.value v) w:=by
  have:(parts.map fun x=>(x.1,a.eval x.2))=(parts.toList.map fun x=>(x.1,a.eval x.2)).toArray:=by apply vbL;simp
  simp only[execOp,ho]
  rw[this]
  simp[r1]
 unfold Oper.wp
 rw[hrun,Oper.upon_value]
 have hpv:lG v k=some (.slice b n m):=by
  cases s2 with
  |agg _ vs hl hv=>
   have hlt:k<vs.size:=by rw[hl];exact aq hck
   have:=hv k _ vs[k] hck (by simp[hlt])
   show vs[k]? =_
   rw[vaM hlt]
   generalize vs[k]=q at this
   cases this
   rfl
 have:=h.setRen (d:=d) (p:=p) r2 (fun x=>if x=(t,0)then(d,k)else x) (by rw[h.sz];exact hd) fun t' k' e' _ ht'=>by
  by_cases hx:((t',k'):Nat×Nat)=(t,0)
  ·cases hx
   refine .inr ⟨k,by simp,fun u v' hu' hv' _=>?_⟩
   rw[bU hu']at hu
   subst hu
   have:v'=.slice b n m:=by
    simp only[lG,if_true,vat]at hv'
    exact hv'.symm
   rw[this];exact hpv
  ·exact .inl (vaz hx)
 have hput:∀v,(a.put o.dst v).tmps=a.tmps.setIfInBounds d v:=fun v=>by rw[hdst];rfl
 rw[<-hput]at this
 exact⟨bu _ _ _,Γ,bs,_,_,this,hK,.inl rfl⟩
theorem jR.sound(h:SR P E Γ bs ow w a.tmps st){bi:Option (Nat×aC)}{rw:List Nat}{o:Oper}{id:Nat}{s s':aB}{rs:List Rs}(hs:jR P E.GE bi rw o id s s' rs)(hid:aK o.op=true->bs[id]? =some none/\st.boxes[id]? =og P o)(hbi:∀i B,bi=some (i,B)->bs[i]? =some none/\st.boxes[i]? =some B)
    (hopv:∀x∈o.op.operands.toList,opv E.GE s.tmps x=opv E.GE st.tmps x) (hbx:2<=bO P rw o->st.boxes.map bh=s.boxes.map bh) (htok:∀τ,eh τ∈rs->jT s τ->jT st τ) (hdd:∀d,o.dst=some d->d<st.tmps.length)
    (Q:Exit->Act->World->Prop):
    o.wp P a w (fun a' w'=>a'.defers=a.defers/\∃Γ' bs' ow' st',SR P E Γ' bs' ow' w' a'.tmps st'/\Um P bs rw o st st' s s' rs/\(bs'=bs\/(aK o.op=true/\∃b,bs'=bs.set id (some b))\/∃i B x,bi=some (i,B)/\bs'=bs.set i x)) Q:=by
  have fin:∀{st'},Um P bs rw o st st' s s' rs->o.wp P a w (ib P E bs id (aK o.op) a.defers (·=st')) Q->o.wp P a w (fun a' w'=>a'.defers=a.defers/\∃Γ' bs' ow' st',SR P E Γ' bs' ow' w' a'.tmps st'/\Um P bs rw o st st' s s' rs/\(bs'=bs\/(aK o.op=true/\∃b,bs'=bs.set id (some b))\/∃i B x,bi=some (i,B)/\bs'=bs.set i x)) Q:=by
    intro st' hD hw
    refine Oper.wp_mono (fun a' w' hA=>?_) hw
    obtain⟨h1,Γ',bs',ow',st2,h2,rfl,h3⟩:=hA
    exact⟨h1,Γ',bs',ow',_,h2,hD,h3.imp_right .inl⟩
  have hid':aK o.op=true->bs[id]? =some none:=fun hm=>(hid hm).1
  have live:∀{x:Operand} {i off:Nat},opv E.GE st.tmps x=.bptr i off->∃b,bs[i]? =some (some b):=by
    intro x i off hx
    have hv:=h.opv a.defers x
    rw[hx]at hv
    generalize (Act.mk a.tmps a.defers).eval x=vx at hv
    cases hv with
    |bptr _ _ b hb=>exact⟨b,hb⟩
  cases hs with
  | call d f args tys g first cap r ro ho hd hf hcl hc =>
    have hop:∀x,x=f\/x∈args.toList->opv E.GE s.tmps x=opv E.GE st.tmps x:=fun x hx=>hopv x (by rw[ho];simp[Op.operands,Call.operands];simpa using hx)
    have hargs:args.toList.map (opv E.GE s.tmps)=args.toList.map (opv E.GE st.tmps):=va8 fun x hx=>hop x (.inr hx)
    rw[hargs]at hcl hc
    rw[hop f (.inl rfl)]at hf
    refine fin (st':=⟨st.tmps.set d r,st.boxes,(ro.map fun x=>((d,x.1),x.2))++bT d st.own⟩) ⟨by rw[hd];exact⟨r,rfl,rfl⟩,fun _=>rfl,fun hc=>hbx (by rw[hc];decide),I7 (by simp),Qc,fun _ _=>rfl⟩ ?_
    refine ib.of h hid' (by simp[oc,ho,hd,hdd d hd]) ?_ Q
    unfold Na
    rw[ho]
    simp only[Fl,hf]
    refine .inl ⟨hcl,r,ro,hc,?_⟩
    rw[hd];rfl
  | alloc d t zs ho hd hz =>
    have hpre:=(hid (by rw[ho];rfl)).2
    simp only[og,ho,hz]at hpre
    refine fin (st':=⟨st.tmps.set d (.bptr id 0),st.boxes,bT d st.own⟩) ⟨by rw[hd];exact⟨_,rfl,rfl⟩,fun _=>rfl,fun hc=>by simp[bO,ce,ho]at hc,I7 (L:=[]) (by simp),Qc (L:=[]),fun _ _=>rfl⟩ ?_
    refine ib.of h hid' (by simp[oc,ho]) ?_ Q
    unfold Na
    rw[ho]
    simp only[tz,hz,vag,G2 hpre]
    rw[hd];rfl
  | mkmap d t ho hd =>
    have hpre:=(hid (by rw[ho];rfl)).2
    simp only[og,ho]at hpre
    refine fin (st':=⟨st.tmps.set d (.mapr id),st.boxes,bT d st.own⟩) ⟨by rw[hd];exact⟨_,rfl,rfl⟩,fun _=>rfl,fun hc=>by simp[bO,ce,ho]at hc,I7 (L:=[]) (by simp),Qc (L:=[]),fun _ _=>rfl⟩ ?_
    refine ib.of h hid' (by simp[oc,ho]) ?_ Q
    unfold Na
    rw[ho]
    simp only[tz,G2 hpre]
    rw[hd];rfl
  | ev d p hd hn hm hc hp =>
    have hnc:∀f args tys,o.op≠.call {callee:=.value f,args,argTypes:=tys}:=fun f args tys e=>by rw[e]at hn;cases hn
    rw[Gd hnc]at hbx
    have hp2:=X3 (H2:=st.boxes) hc hm hp fun h2=>hbx h2
    rw[Vn hopv]at hp2
    refine fin (st':=⟨st.tmps.set d p,st.boxes,bT d st.own⟩) ⟨by rw[hd];exact⟨_,rfl,rfl⟩,fun _=>rfl,fun hc'=>by rw[Gd hnc]at hc';exact absurd hc' hc,I7 (L:=[]) (by simp),Qc (L:=[]),fun _ _=>rfl⟩ ?_
    refine ib.of h hid' ?_ ?_ Q
    · unfold oc
      split
      ·rename_i f args tys ho;exact absurd ho (hnc _ _ _)
      ·rfl
    · unfold Na
      split
      ·rename_i f args tys ho;exact absurd ho (hnc _ _ _)
      · rw [hp2]
        show yO st o.dst p [] st.boxes=_
        rw[hd];rfl
  | res d p L hd hh =>
    have hcl:bO P rw o≠3:=by
      rcases hh with⟨T,len,parts,e,ho,_⟩|⟨T,parts,ho,_⟩|⟨v,e,ho|ho,_⟩<;>simp[bO,ce,ho]
    refine fin (st':=⟨st.tmps.set d p,st.boxes,(L.map fun x=>((d,x.1),x.2))++bT d st.own⟩) ⟨by rw[hd];exact⟨_,rfl,rfl⟩,fun _=>rfl,fun hc=>absurd hc hcl,I7 (by simp),Qc,fun _ _=>rfl⟩ ?_
    rcases hh with⟨T,len,parts,e,ho,h1,h2,rfl⟩|⟨T,parts,ho,h1,h2⟩|⟨v,e,ho,h1,rfl,rfl⟩
    · have hpt:(parts.toList.map fun x => (x.1,opv E.GE s.tmps x.2)) = parts.toList.map fun x => (x.1,opv E.GE st.tmps x.2):=va8 fun x hx => by rw [hopv x.2 (by rw [ho]; simp only [Op.operands]; exact vah.2 ⟨x,hx,rfl⟩)]
      rw[hpt]at h1
      exact yY (K:=(·=_)) h ho hd (hdd d hd) h2 h1 rfl Q
    · have hpt:(parts.toList.map fun x => (x.1,opv E.GE s.tmps x.2)) = parts.toList.map fun x => (x.1,opv E.GE st.tmps x.2):=va8 fun x hx => by rw [hopv x.2 (by rw [ho]; simp only [Op.operands]; exact vah.2 ⟨x,hx,rfl⟩)]
      rw[hpt]at h1 h2
      exact Ce (K:=(·=_)) h ho hd (hdd d hd) h1 h2 rfl Q
    ·exact Ib (K:=(·=_)) h ho hd (hdd d hd) h1 rfl Q
  | app d t T e y es ns p hd ho hT he hn hp hm =>
    have hop:∀x,x=.tmp t\/x=y->opv E.GE s.tmps x=opv E.GE st.tmps x:=fun x hx=>hopv x (by rw[ho];simp[Op.operands,Call.operands];rcases hx with rfl|rfl<;>simp)
    have he':st.tmps.getD t .undef=.slice es:=(hop (.tmp t) (.inl rfl)).symm.trans he
    rw[hop y (.inr rfl)]at hn
    have hm':((t,0),e)∈st.own:=htok (false,(t,0),e) (by simp[eh]) hm
    refine fin (st':=⟨st.tmps.set d p,st.boxes,((d,0),e)::bT d (st.own.filter fun x=>x.1 !=(t,0))⟩) ⟨by rw[hd];exact⟨_,rfl,rfl⟩,fun _=>rfl,fun hc=>by simp[bO,ce,ho]at hc,?_,?_,fun _ _=>rfl⟩ (Gb (K:=(·=_)) h ho hd (hdd d hd) hT he' hn hp hm' rfl Q)
    · rintro ⟨b,⟨t',k⟩,e'⟩ hr _ hh
      cases b with
      |true=>exact hh
      | false =>
        simp[eh]at hr
        refine vaU _ (gp (vaJ.2 ⟨de.1 hh,?_⟩) hr.1)
        simp only[bne_iff_ne,ne_eq,Prod.mk.injEq,not_and]
        exact fun e=>absurd e hr.2
    · rintro ⟨b,⟨t',k⟩,e'⟩ hr hh
      cases b with
      |true=>simp[eh]at hr
      | false =>
        rcases vay.1 (de.1 hh)with hh|hh
        ·rw[hh];exact vb9
        · obtain ⟨h1,h2⟩:=dS hh
          obtain⟨h3,h4⟩:=ch h1
          have h5:((t',k),e')∈st.own:=htok (false,(t',k),e') hr h3
          exact vaU _ (gp (vaJ.2 ⟨h5,h4⟩) h2)
  | mv d t hd ho hdt =>
    have hg:s.tmps.getD t .undef=st.tmps.getD t .undef:=hopv (.tmp t) (by rcases ho with ho|ho<;>rw[ho]<;>simp[Op.operands])
    have hcl:bO P rw o≠3:=by rcases ho with ho|ho<;>simp[bO,ce,ho]
    refine fin (st':=⟨st.tmps.set d (st.tmps.getD t .undef),st.boxes,kG d (fun x=>if x.1=t then(d,x.2)else x) st.own⟩) ⟨by rw[hd];exact⟨_,rfl,by rw[hg]⟩,fun _=>rfl,fun hc=>absurd hc hcl,?_,?_,fun _ _=>rfl⟩ (Ff (K:=(·=_)) h ho hd (hdd d hd) rfl Q)
    · rintro ⟨b,⟨t',k⟩,e'⟩ hr _ hh
      cases b with
      |true=>exact hh
      | false =>
        simp[eh]at hr
        refine vah.2 ⟨((t',k),e'),gp (de.1 hh) hr.1,?_⟩
        simp only
        rw[vaz hr.2]
    · rintro ⟨b,⟨t',k⟩,e'⟩ hr hh
      cases b with
      |true=>simp[eh]at hr
      | false =>
        obtain⟨⟨⟨t2,k2⟩,e2⟩,hx,he⟩:=vah.1 (de.1 hh)
        simp only[Prod.mk.injEq]at he
        obtain⟨he,rfl⟩:=he
        obtain⟨h1,h2⟩:=dS hx
        by_cases ht:t2=t
        · subst ht
          rw[vax rfl]at he
          cases he
          have h5:((t2,k),e2)∈st.own:=htok (false,(t2,k),e2) (by simp[eh]) h1
          exact vah.2 ⟨((t2,k),e2),gp h5 h2,by simp⟩
        · rw [vaz ht] at he
          cases he
          simp[eh]at hr
          rcases hr with hr|hr
          ·exact absurd hr h2
          ·exact absurd hr ht
  | bmv d t k T parts p es hd ho hdt ht hin hp hm =>
    have hin2:Operand.tmp t∈o.op.operands.toList:=by
      obtain⟨x,hx,hx2⟩:=vcK.1 hin
      rw[ho];simp only[Op.operands]
      exact vah.2 ⟨x,hx,NJ hx2⟩
    have hpar:∀x∈parts.toList,opv E.GE s.tmps x.2=opv E.GE st.tmps x.2:=fun x hx=>hopv x.2 (by rw[ho];simp only[Op.operands];exact vah.2 ⟨x,hx,rfl⟩)
    have hpt:(parts.toList.map fun x=>(x.1,opv E.GE s.tmps x.2))=parts.toList.map fun x=>(x.1,opv E.GE st.tmps x.2):=va8 fun x hx=>by rw[hpar x hx]
    have hpw:QQ E.GE s.tmps parts.toList t=QQ E.GE st.tmps parts.toList t:=by
      funext q
      exact va8 fun x hx=>by rw[hpar x hx]
    rw[hpt]at hp
    rw[hpw]at hm
    have hg:st.tmps.getD t .undef=.slice es:=(hopv (.tmp t) hin2).symm.trans ht
    have hcl:bO P rw o≠3:=by simp[bO,ce,ho]
    refine fin (st':=⟨st.tmps.set d p,st.boxes,kG d (fun x=>if x=(t,0)then(d,k)else x) st.own⟩) ⟨by rw[hd];exact⟨_,rfl,rfl⟩,fun _=>rfl,fun hc=>absurd hc hcl,?_,?_,fun _ _=>rfl⟩ (MS (K:=(·=_)) h ho hd (hdd d hd) hg hp hm rfl Q)
    · rintro ⟨b,⟨t',k'⟩,e'⟩ hr _ hh
      cases b with
      |true=>exact hh
      | false =>
        simp[eh]at hr
        refine vah.2 ⟨((t',k'),e'),gp (de.1 hh) hr.1,?_⟩
        simp only
        rw[vaz (fun e=>hr.2 (va6 Prod.fst e))]
    · rintro ⟨b,⟨t',k'⟩,e'⟩ hr hh
      cases b with
      |true=>simp[eh]at hr
      | false =>
        obtain⟨⟨⟨t2,k2⟩,e2⟩,hx,he⟩:=vah.1 (de.1 hh)
        have h6:e2=e':=va6 Prod.snd he
        subst h6
        have he1:(if((t2,k2):Nat×Nat)=(t,0)then(d,k)else(t2,k2))=(t',k'):=va6 Prod.fst he
        obtain⟨h1,h2⟩:=dS hx
        by_cases ht2:((t2,k2):Nat×Nat)=(t,0)
        · have h5:((t2,k2),e2) ∈ st.own:=htok (false,(t2,k2),e2) (by cases ht2; simp [eh]) h1
          exact vah.2 ⟨((t2,k2),e2),gp h5 h2,he⟩
        · rw [vaz ht2] at he1
          cases he1
          simp[eh]at hr
          rcases hr with hr|hr
          ·exact absurd hr h2
          · subst hr
            have h5:((t',k'),e2)∈st.own:=htok (false,(t',k'),e2) (by simp[eh]) h1
            exact vah.2 ⟨((t',k'),e2),gp h5 h2,he⟩
  | ld d T x i off cs own L p hd ho hx hB hh hm =>
    have hx':opv E.GE st.tmps x=.bptr i off:=(hopv x (by rw[ho];simp[Op.operands])).symm.trans hx
    obtain⟨bb,hbb⟩:=live hx'
    obtain⟨own2,hB2⟩:=Au (hbx (by simp[bO,ce,ho])) hB
    have hm2:∀y∈L,(off+y.1,y.2)∈own2:=fun y hy=>by
      obtain⟨cs',own',e1,e2⟩:=fa.1 (htok (true,(i,off+y.1),y.2) (vaU _ (vah.2 ⟨y,hy,rfl⟩)) ⟨cs,own,hB,hm y hy⟩)
      rw[hB2]at e1;cases e1;exact e2
    refine fin (st':=⟨st.tmps.set d p,st.boxes.set i (.cells cs (own2.filter fun x=>!L.any fun y=>x.1==off+y.1)),(L.map fun y=>((d,y.1),y.2)).reverse++bT d st.own⟩)
      ⟨by rw[hd];exact⟨_,rfl,rfl⟩,fun _=>N4 hB2,fun hc=>by simp[bO,ce,ho]at hc,?_,?_,fun k hk=>by rw[vap (fun e=>by subst e;rw[hbb]at hk;cases hk)]⟩ ?_
    · rintro ⟨b,⟨t',k⟩,e'⟩ hr _ hh
      cases b with
      |false=>exact vaV _ (gp (de.1 hh) fun hx=>hr (by simp only at hx;subst hx;simp[eh]))
      | true =>
        by_cases hi:i=t'
        · subst hi
          obtain⟨cs',own',e1,e2⟩:=fa.1 hh
          rw[hB2]at e1;cases e1
          refine⟨_,_,vaj (aq hB2),vaJ.2 ⟨e2,?_⟩⟩
          simp only[vaT,vbn,vaZ]
          intro y hy e
          exact hr (vaU _ (vah.2 ⟨y,hy,by simp[eh,e]⟩))
        ·exact(iP hi).2 hh
    · rintro ⟨b,⟨t',k⟩,e'⟩ hr hh
      cases b with
      | false =>
        rcases vaw.1 (de.1 hh)with hh|hh
        ·exact va0 _ hh
        · have h2:=(dS hh).2
          simp[eh]at hr
          exact absurd hr h2
      | true =>
        exfalso
        have hr2:(true,t',k)∈L.map fun y=>(true,i,off+y.1):=by simpa[eh]using hr
        obtain⟨y,hy,e⟩:=vah.1 hr2
        simp only[Prod.mk.injEq,vb7]at e
        obtain⟨rfl,rfl⟩:=e
        obtain⟨cs',own',e1,e2⟩:=fa.1 hh
        simp only[vaj (aq hB),vat,aC.cells.injEq]at e1
        obtain⟨rfl,rfl⟩:=e1
        have:=(ch e2).2
        simp only[vaT,vbn,vaZ]at this
        exact this y hy rfl
    · rcases hh with ⟨e,hT,hp,rfl⟩ | ⟨fs,l,hT,hp,rfl,hn,hl⟩
      · refine Em (K:=(· = _)) h ho hd (hdd d hd) hT hx' hB2 hp (hm2 _ (vck _)) ?_ Q
        simp only[vaD,vbK,vcG,List.reverse_nil,vaL,List.singleton_append,aB.mk.injEq,vb7,vcj]
        congr 3
        funext z
        simp[bne]
      · refine Fq h (K:=(· = _)) ?_ Q
        unfold L4
        simp only[ho,hd]
        exact⟨i,off,cs,own2,L,l,⟨fs,hT⟩,hx',hB2,hp,hm2,hn,hl,hdd d hd,rfl⟩
  | st T x y i off vs cs own hd ho hx hvs hB hp =>
    have hx':opv E.GE st.tmps x=.bptr i off:=(hopv x (by rw[ho];simp[Op.operands])).symm.trans hx
    have hy':opv E.GE s.tmps y=opv E.GE st.tmps y:=hopv y (by rw[ho];simp[Op.operands])
    rw[hy']at hvs hp
    obtain⟨bb,hbb⟩:=live hx'
    have hst:=hbx (by simp[bO,ce,ho])
    obtain⟨own2,hB2⟩:=Au hst hB
    have hp2:=GW hvs hB hp hB2
    refine fin (st':=⟨st.tmps,st.boxes.set i (.cells (cs.take off++vs++cs.drop (off+vs.length)) (own2.filter fun y=>y.1<off||off+vs.length<=y.1)),st.own⟩)
      ⟨by rw[hd];exact⟨rfl,rfl⟩,fun hc=>absurd (by simp[bO,ce,ho]) hc,fun _=>AJ hst rfl,?_,?_,fun k hk=>by rw[vap (fun e=>by subst e;rw[hbb]at hk;cases hk)]⟩ ?_
    · rintro ⟨b,⟨t',k⟩,e'⟩ hr _ hh
      cases b with
      |false=>exact hh
      | true =>
        by_cases hi:i=t'
        · subst hi
          obtain⟨cs',own',e1,e2⟩:=fa.1 hh
          rw[hB2]at e1;cases e1
          refine⟨_,_,vaj (aq hB2),vaJ.2 ⟨e2,?_⟩⟩
          simp only[va4,vai]
          by_cases h1:k<off
          ·exact .inl h1
          ·exact .inr (vb0 fun h2=>hr (tS.2 ⟨rfl,by simp only;omega,by simp only;omega⟩))
        ·exact(iP hi).2 hh
    · rintro ⟨b,⟨t',k⟩,e'⟩ hr hh
      cases b with
      |false=>simp[eh,yb]at hr
      | true =>
        exfalso
        obtain⟨rfl,h1,h2⟩:=tS.1 hr
        obtain⟨cs',own',e1,e2⟩:=fa.1 hh
        simp only[vaj (aq hB),vat,aC.cells.injEq]at e1
        obtain⟨rfl,rfl⟩:=e1
        have:=(ch e2).2
        simp only[va4,vai]at this
        simp only at h1 h2
        omega
    · refine ib.of h hid' (by simp [oc,ho]) ?_ Q
      unfold Na
      rw[ho]
      simp only[tz,hx',hp2,vag]
      rw[hd];rfl
  | sto T x t i off vs cs own L hd ho hx hvs hB hp hk hm hn hl =>
    have hx':opv E.GE st.tmps x=.bptr i off:=(hopv x (by rw[ho];simp[Op.operands])).symm.trans hx
    have hy':s.tmps.getD t .undef=st.tmps.getD t .undef:=hopv (.tmp t) (by rw[ho];simp[Op.operands])
    rw[hy']at hvs hp hk
    obtain⟨bb,hbb⟩:=live hx'
    have hst:=hbx (by simp[bO,ce,ho])
    obtain⟨own2,hB2⟩:=Au hst hB
    have hp2:=GW hvs hB hp hB2
    have hm2:∀y∈L,((t,y.1),y.2)∈st.own:=fun y hy=>htok (false,(t,y.1),y.2) (by simp[eh]) (hm y hy)
    have hset:=vaj (a:=aC.cells (cs.take off++vs++cs.drop (off+vs.length)) (own2.filter fun y=>y.1<off||off+vs.length<=y.1)) (aq hB2)
    refine fin (st':=⟨st.tmps,st.boxes.set i (.cells (cs.take off++vs++cs.drop (off+vs.length)) ((L.map fun y=>(off+y.1,y.2)).reverse++own2.filter fun y=>y.1<off||off+vs.length<=y.1)),st.own.filter fun x=>!L.any fun y=>x.1==(t,y.1)⟩)
      ⟨by rw[hd];exact⟨rfl,rfl⟩,fun hc=>absurd (by simp[bO,ce,ho]) hc,fun _=>AJ hst rfl,?_,?_,fun k hk=>by rw[vap (fun e=>by subst e;rw[hbb]at hk;cases hk)]⟩ ?_
    · rintro ⟨b,⟨t',k⟩,e'⟩ hr _ hh
      cases b with
      | false =>
        refine vaJ.2 ⟨de.1 hh,?_⟩
        simp only[vaT,vbn,vaZ,Prod.mk.injEq,not_and]
        intro y hy e
        exact absurd (by simp[eh,e]) hr
      | true =>
        by_cases hi:i=t'
        · subst hi
          obtain⟨cs',own',e1,e2⟩:=fa.1 hh
          rw[hB2]at e1;cases e1
          refine⟨_,_,vaj (aq hB2),vaV _ (vaJ.2 ⟨e2,?_⟩)⟩
          simp only[va4,vai]
          by_cases h1:k<off
          ·exact .inl h1
          ·exact .inr (vb0 fun h2=>hr (vaU _ (tS.2 ⟨rfl,by simp only;omega,by simp only;omega⟩)))
        ·exact(iP hi).2 hh
    · rintro ⟨b,⟨t',k⟩,e'⟩ hr hh
      cases b with
      | false =>
        obtain⟨h1,h2⟩:=ch (de.1 hh)
        exact vaJ.2 ⟨htok (false,(t',k),e') hr h1,h2⟩
      | true =>
        have hr2:(true,t',k)∈yb i off vs.length:=by simpa[eh]using hr
        obtain⟨rfl,h1,h2⟩:=tS.1 hr2
        obtain⟨cs',own',e1,e2⟩:=fa.1 hh
        simp only[vaj (aq hB),vat,aC.cells.injEq]at e1
        obtain⟨rfl,rfl⟩:=e1
        rcases vaw.1 e2 with e2|e2
        ·exact⟨_,_,vaj (aq hB2),va0 _ e2⟩
        · exfalso
          have:=(ch e2).2
          simp only[va4,vai]at this
          omega
    · rcases hk with ⟨l,hl⟩ | ⟨hone,e,rfl⟩
      · refine Fq h (K:=(· = _)) ?_ Q
        unfold L4
        simp only[ho,hd]
        refine⟨i,off,_,_,_,L,l,hx',hl,by rw[<-hl];exact hp2,hset,hm2,hn,?_⟩
        rw[vbX]
      · refine CL (K:=(· = _)) h ho hx' (by rw [hx']; exact hp2) hset hone (hm2 _ (vck _)) ?_ Q
        rw[hd,vbX]
        simp only[yO,vaD,vbK,vcG,List.reverse_nil,vaL,List.singleton_append,aB.mk.injEq,vb7,Nat.add_zero]
        congr 1
        funext z
        simp[bne]
  | mu t m k x H hd ho hp =>
    have hst:=hbx (by simp[bO,ce,ho])
    have o1:opv E.GE s.tmps m=opv E.GE st.tmps m:=hopv m (by rw[ho];simp[Op.operands])
    have o2:opv E.GE s.tmps k=opv E.GE st.tmps k:=hopv k (by rw[ho];simp[Op.operands])
    have o3:opv E.GE s.tmps x=opv E.GE st.tmps x:=hopv x (by rw[ho];simp[Op.operands])
    rw[o1,o2,o3]at hp
    obtain⟨i,es',hmi,rfl,hp2⟩:=Nc hst hp
    have hlive:∃b,bs[i]? =some (some b):=by
      have hv:=h.opv a.defers m
      rw[hmi]at hv
      generalize (Act.mk a.tmps a.defers).eval m=vx at hv
      cases hv with
      |mapr _ b hb=>exact⟨b,hb⟩
    obtain⟨bb,hbb⟩:=hlive
    obtain⟨i2,es,es2,hB,he2⟩:=CE hp2
    refine fin (st':=⟨st.tmps,st.boxes.set i (.map es'),st.own⟩) ⟨by rw[hd];exact⟨rfl,rfl⟩,fun hc=>absurd (by simp[bO,ce,ho]) hc,fun _=>AJ hst rfl,?_,?_,fun k hk=>by rw[vap (fun e=>by subst e;rw[hbb]at hk;cases hk)]⟩ ?_
    · rintro ⟨b,⟨t',k'⟩,e'⟩ hr _ hh
      cases b with
      |false=>exact hh
      | true =>
        obtain⟨cs',own',e1,e2⟩:=fa.1 hh
        have hne:i2≠t':=fun e=>by subst e;rw[hB]at e1;cases e1
        rw[he2]
        exact(iP hne).2 hh
    · intro τ hr
      simp at hr
    · refine ib.of h hid' (by simp [oc,ho]) ?_ Q
      unfold Na
      rw[ho]
      simp only[tz,hp2,vag]
      rw[hd];rfl
  | callR d f args tys r ro oa ho hd hg =>
    have hop:∀x,x=f\/x∈args.toList->opv E.GE s.tmps x=opv E.GE st.tmps x:=fun x hx=>hopv x (by rw[ho];simp[Op.operands,Call.operands];simpa using hx)
    have hown:∀x∈oa,((x.t,x.k),x.e)∈s.own->((x.t,x.k),x.e)∈st.own:=fun x hx hm=>htok (false,(x.t,x.k),x.e) (vaU _ (vah.2 ⟨x,hx,rfl⟩)) hm
    refine fin (st':=⟨st.tmps.set d r,st.boxes,(ro.map fun x=>((d,x.1),x.2))++bT d (st.own.filter fun z=>!oa.any fun x=>z.1==(x.t,x.k))⟩) ⟨by rw[hd];exact⟨_,rfl,rfl⟩,fun _=>rfl,fun hc=>hbx (by rw[hc];decide),?_,?_,fun _ _=>rfl⟩ (Ck (K:=(·=_)) h ho hd (hdd d hd) (hg st hop hown) rfl Q)
    · rintro ⟨b,⟨t',k⟩,e'⟩ hr _ hh
      cases b with
      |true=>exact hh
      | false =>
        simp only[eh,vay,Prod.mk.injEq,vb7,vcj,vah,not_or,not_exists,not_and]at hr
        refine vaV _ (gp (vaJ.2 ⟨de.1 hh,?_⟩) hr.1)
        simp only[vaT,vbn,vaZ,Prod.mk.injEq,not_and]
        exact fun x hx e=>absurd e.symm (hr.2 x hx)
    · rintro ⟨b,⟨t',k⟩,e'⟩ hr hh
      cases b with
      |true=>simp[eh]at hr
      | false =>
        rcases vaw.1 (de.1 hh)with hh|hh
        ·exact va0 _ hh
        · obtain ⟨h1,h2⟩:=dS hh
          obtain⟨h3,h4⟩:=ch h1
          have h5:((t',k),e')∈st.own:=htok (false,(t',k),e') hr h3
          exact vaV _ (gp (vaJ.2 ⟨h5,h4⟩) h2)
  | cl d i f x tys g e es ho hd hb hf hx hC h0 h1 h2 =>
    have hop:∀y,y=f\/y=x->opv E.GE s.tmps y=opv E.GE st.tmps y:=fun y hy=>hopv y (by rw[ho];simp[Op.operands,Call.operands];exact hy)
    rw[hop f (.inl rfl)]at hf
    rw[hop x (.inr rfl)]at hx
    obtain⟨hbs,hBx⟩:=hbi i _ hb
    have hvf:=h.opv a.defers f
    have hvx:=h.opv a.defers x
    rw[hf]at hvf
    rw[hx]at hvx
    change VR Γ bs w _ (a.eval f)at hvf
    change VR Γ bs w _ (a.eval x)at hvx
    generalize hev:a.eval f=vf at hvf
    cases hvf with
    |func _ _ _ fs cs hl hl' k1 k2=>
    have hfs:fs=#[]:=vaY (by simpa using hl)
    have hcs:cs=#[]:=vaY (by simpa using hl')
    subst hfs;subst hcs
    have hrun:(execOp a.eval o).run P w=.ok (.enter g #[a.eval x]) w:=by
      simp[execOp,ho,resolve,hev,Deferred.ofValue,invoke,hC.1]
    unfold Oper.wp
    rw[hrun,Oper.upon_enter]
    refine(Rv h hbs hBx hC hvx h0 h1 h2).mono fun r w' hr=>?_
    obtain⟨v',xb,rfl,hS,hv'⟩:=hr
    have g1:=hS.set (d:=d) hv'
    have hput:(a.put o.dst v').tmps=a.tmps.setIfInBounds d v':=by rw[hd];rfl
    rw[<-hput]at g1
    refine⟨bu _ _ _,Γ,_,ow,⟨st.tmps.set d (.bsl i 0 es.length),st.boxes,bT d st.own⟩,g1,⟨by rw[hd];exact⟨_,rfl,rfl⟩,fun _=>rfl,fun hc=>hbx (by rw[hc];decide),I7 (L:=[]) (by simp),Qc (L:=[]),fun _ _=>rfl⟩,.inr (.inr ⟨i,_,xb,hb,rfl⟩)⟩
  | stR T x y i off cs cs' hd ho hx hB hp hi =>
    have hx':opv E.GE st.tmps x=.bptr i off:=(hopv x (by rw[ho];simp[Op.operands])).symm.trans hx
    have hy':opv E.GE s.tmps y=opv E.GE st.tmps y:=hopv y (by rw[ho];simp[Op.operands])
    rw[hy']at hp
    obtain⟨bb,hbb⟩:=live hx'
    have hst:=hbx (by simp[bO,ce,ho])
    obtain⟨own2,hB2⟩:=Au hst hB
    obtain⟨own',hp2⟩:=R1 hp hB2
    refine fin (st':=⟨st.tmps,st.boxes.set i (.cells cs' own'),st.own⟩)
      ⟨by rw[hd];exact⟨rfl,rfl⟩,fun hc=>absurd (by simp[bO,ce,ho]) hc,fun _=>AJ hst rfl,?_,fun τ hr=>by simp at hr,fun k hk=>by rw[vap (fun e=>by subst e;rw[hbb]at hk;cases hk)]⟩ ?_
    · rintro ⟨b,⟨t',k⟩,e'⟩ hr hn hh
      cases b with
      |false=>exact hh
      |true=>exact(iP (fun e=>hn rfl (by subst e;exact hi))).2 hh
    · refine ib.of h hid' (by simp [oc,ho]) ?_ Q
      unfold Na
      rw[ho]
      simp only[tz,hx',hp2,vag]
      rw[hd];rfl
end
end
end Go.Proofs.YtkdahfeiedaahaaGreatDoor
