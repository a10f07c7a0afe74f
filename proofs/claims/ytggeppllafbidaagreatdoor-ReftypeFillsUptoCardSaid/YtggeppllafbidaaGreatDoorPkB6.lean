/- PROVED: a part of the proof. Conditions: none. -/
import Derived.Test.YtggeppllafbidaaGreatDoorPkB3
import Derived.Test.YtggeppllafbidaaGreatDoorPkB4
noncomputable section
namespace Go.Proofs.YtggeppllafbidaaGreatDoor
open Go
abbrev Rs:=Bool×Nat×Nat
abbrev KY:=Bool×(Nat×Nat)×TypeId
def cR(τ:KY):Rs:=match τ.1 with
 |false=>(false,τ.2.1.1,0)
 |true=>(true,τ.2.1.1,τ.2.1.2)
def jY(st:aq)(τ:KY):Prop:=match τ.1 with
 |false=>(τ.2.1,τ.2.2)∈st.own
 |true=>∃cs own,st.boxes[τ.2.1.1]? =some (.cells cs own)/\(τ.2.1.2,τ.2.2)∈own
def bL:aw->aw
 |.cells cs _=>.cells cs []
 |B=>B
theorem IU{H H2:List aw}(h:H2.map bL=H.map bL)(i:Nat):(H2[i]?).map bL=(H[i]?).map bL:=by
 have:=vbe (fun l=>l[i]?) h
 simpa[vat]using this
theorem rp{H H2:List aw}(h:H2.map bL=H.map bL){i:Nat}{cs:List PVal}{own:List (Nat×TypeId)}(hi:H[i]? =some (.cells cs own)):∃own2,H2[i]? =some (.cells cs own2):=by
 have:=IU h i
 rw[hi]at this
 cases hB:H2[i]? with
 |none=>rw[hB]at this;cases this
 |some B=>
  rw[hB]at this
  cases B<;>simp[bL]at this
  subst this
  exact⟨_,rfl⟩
section
variable{P:Program}{GE:List (Nat×List PVal)}
theorem Gu{t:TypeId}{x:PVal}{H H2:List aw}(h:H2.map bL=H.map bL):kP P t x H2=kP P t x H:=by
 unfold kP
 split
 ·rfl
 ·rename_i i off
  have hi:=IU h i
  generalize H2[i]? =o at hi
  generalize H[i]? =o' at hi
  rcases o with _|(_|_|_)<;>rcases o' with _|(_|_|_)<;>simp[bL]at hi ⊢
  subst hi;rfl
 ·rfl
theorem HA{t:TypeId}{x:PVal}{H H2:List aw}(h:H2.map bL=H.map bL):wV P t x H2=wV P t x H:=by
 unfold wV
 split<;>first|rfl|skip
 rename_i i _
 have hi:=IU h i
 generalize H2[i]? =o at hi
 generalize H[i]? =o' at hi
 rcases o with _|(_|_|_)<;>rcases o' with _|(_|_|_)<;>simp[bL]at hi ⊢
 subst hi;rfl
theorem DP{t:TypeId}{m k:PVal}{ok:Bool}{H H2:List aw}(h:H2.map bL=H.map bL):oS P t m k ok H2=oS P t m k ok H:=by
 unfold oS
 split
 ·rename_i kt e i _
  have hi:=IU h i
  generalize H2[i]? =o at hi
  generalize H[i]? =o' at hi
  rcases o with _|(_|_|_)<;>rcases o' with _|(_|_|_)<;>simp[bL]at hi ⊢
  subst hi;rfl
 ·rfl
theorem MN{op:Op}{id:Nat}{v:Operand->PVal}{H H2:List aw}{p:PVal}(hc:bP P op≠3)(hm:au op=false)(h:lX P op id v H=some (p,H))(h2:2<=bP P op->H2.map bL=H.map bL):lX P op id v H2=some (p,H2):=by
 by_cases hlt:bP P op<2
 ·exact Lw hlt hm h H2
 ·have hs:=h2 (by omega)
  have key:∀{q q':Option PVal},q'=q->(q.map fun p=>(p,H))=some (p,H)->(q'.map fun p=>(p,H2))=some (p,H2):=by
   intro q q' e hq
   obtain⟨z,hz,he⟩:=cP hq
   cases he
   rw[e,hz];rfl
  unfold lX at h ⊢
  split at h
  all_goals first
   |(cases h;done)
   |(simp[bP]at hlt;done)
   |(simp[bP]at hc;done)
   |(simp[au]at hm;done)
   |exact key (Gu hs) h
   |exact key (DP hs) h
   |exact key (HA hs) h
def aG(P:Program):Op->Nat
 |.call {callee:=.value _,..}=>0
 |op=>bP P op
theorem xH{op:Op}(h:∀f args tys,op≠.call {callee:=.value f,args,argTypes:=tys}):aG P op=bP P op:=by
 unfold aG
 split
 ·exact absurd rfl (h _ _ _)
 ·rfl
def Ek:Op->Bool
 |.call {callee:=.value _,..}=>true
 |_=>false
def rH(i off n:Nat):List Rs:=(List.range n).map fun k=>(true,i,off+k)
def wL(t:Nat):Operand->Bool
 |.tmp t'=>t'==t
 |_=>false
theorem Ej{t:Nat}{x:Operand}(h:wL t x=true):x=.tmp t:=by
 cases x<;>simp[wL]at h
 rw[h]
def GD(GE:List (Nat×List PVal))(tmps:List PVal)(parts:List (Nat×Operand))(t:Nat)(q:PVal):List (Nat×PVal):=parts.map fun x=>(x.1,if wL t x.2=true then q else opv GE tmps x.2)
def Pa(P:Program)(T:TypeId)(F:PVal->List (Nat×PVal))(k:Nat):Prop:=∀(b:Option Addr) (n m:Nat),∃cs,dc P T (F (.val (.slice b n m)))=some (.agg cs)/\cs[k]? =some (.val (.slice b n m))
inductive eP(P:Program)(GE:List (Nat×List PVal))(bi:Option (Nat×aw))(rw:List Nat)(o:Oper)(id:Nat)(s:aq):aq->List Rs->Prop where
 | call (d:Nat) (f:Operand) (args:Array Operand) (tys:Array TypeId) (g:FuncId) (first cap:List PVal) (r:PVal) (ro:List (Nat×TypeId)) (ho:o.op = .call { callee := .value f,args,argTypes:=tys }) (hd:o.dst = some d)
   (hf:opv GE s.tmps f=.func (.func g) first cap) (hcl:hX 0 (first++args.toList.map (opv GE s.tmps)++cap)) (hc:C P GE g (first++args.toList.map (opv GE s.tmps)++cap) [] [] r ro []):
   eP P GE bi rw o id s ⟨s.tmps.set d r,s.boxes,(ro.map fun x=>((d,x.1),x.2))++bI d s.own⟩ [(false,d,0)]
 |alloc (d:Nat) (t:TypeId) (zs:List PVal) (ho:o.op=.alloc t) (hd:o.dst=some d) (hz:gI P t=some zs):eP P GE bi rw o id s ⟨s.tmps.set d (.bptr id 0),s.boxes,bI d s.own⟩ [(false,d,0)]
 |mkmap (d:Nat) (t:TypeId) (ho:o.op=.makeMap t none) (hd:o.dst=some d):eP P GE bi rw o id s ⟨s.tmps.set d (.mapr id),s.boxes,bI d s.own⟩ [(false,d,0)]
 | ev (d:Nat) (p:PVal) (hd:o.dst = some d) (hn:Ek o.op = false) (hm:au o.op = false) (hc:bP P o.op ≠ 3) (h:lX P o.op id (opv GE s.tmps) s.boxes = some (p,s.boxes)) :
   eP P GE bi rw o id s ⟨s.tmps.set d p,s.boxes,bI d s.own⟩ [(false,d,0)]
 | res (d:Nat) (p:PVal) (L:List (Nat×TypeId)) (hd:o.dst = some d)
   (h:(∃T len parts e,o.op=.buildSlice T len parts/\dR P T len (parts.toList.map fun x=>(x.1,opv GE s.tmps x.2))=some p/\P.underlying T=some (.slice e)/\L=[(0,e)])\/
    (∃T parts,o.op=.build T parts/\dc P T (parts.toList.map fun x=>(x.1,opv GE s.tmps x.2))=some p/\rB P T (parts.toList.map fun x=>(x.1,opv GE s.tmps x.2)) L)\/
    (∃v e,(o.op=.assign (.const v)\/o.op=.move (.const v))/\mW P o.type v=some e/\p=.slice []/\L=[(0,e)])):
   eP P GE bi rw o id s ⟨s.tmps.set d p,s.boxes,(L.map fun x=>((d,x.1),x.2))++bI d s.own⟩ [(false,d,0)]
 | app (d t:Nat) (T e:TypeId) (y:Operand) (es ns:List (List PVal)) (p:PVal) (hd:o.dst = some d) (ho:o.op = .call { callee := .builtin .append,args:=⟨[.tmp t,y]⟩,argTypes:=⟨[T,T]⟩ })
   (hT:P.underlying T=some (.slice e)) (he:s.tmps.getD t .undef=.slice es) (hn:opv GE s.tmps y=.slice ns) (hp:iz P T es ns=some p) (hm:((t,0),e)∈s.own):
   eP P GE bi rw o id s ⟨s.tmps.set d p,s.boxes,((d,0),e)::bI d (s.own.filter fun x=>x.1 !=(t,0))⟩ [(false,d,0),(false,t,0)]
 | mv (d t:Nat) (hd:o.dst = some d) (ho:o.op = .assign (.tmp t)∨o.op = .move (.tmp t)) (hdt:d ≠ t) :
   eP P GE bi rw o id s ⟨s.tmps.set d (s.tmps.getD t .undef),s.boxes,fy d (fun x=>if x.1=t then(d,x.2)else x) s.own⟩ [(false,d,0),(false,t,0)]
 | bmv (d t k:Nat) (T:TypeId) (parts:Array (Nat×Operand)) (p:PVal) (es:List (List PVal)) (hd:o.dst = some d) (ho:o.op = .build T parts) (hdt:d ≠ t) (ht:s.tmps.getD t .undef = .slice es) (hin:(parts.toList.any fun x => wL t x.2) = true)
   (hp:dc P T (parts.toList.map fun x=>(x.1,opv GE s.tmps x.2))=some p) (hm:Pa P T (GD GE s.tmps parts.toList t) k):
   eP P GE bi rw o id s ⟨s.tmps.set d p,s.boxes,fy d (fun x=>if x=(t,0)then(d,k)else x) s.own⟩ [(false,d,0),(false,t,0)]
 | ld (d:Nat) (T:TypeId) (x:Operand) (i off:Nat) (cs:List PVal) (own L:List (Nat×TypeId)) (p:PVal) (hd:o.dst = some d) (ho:o.op = .load T x) (hx:opv GE s.tmps x = .bptr i off) (hB:s.boxes[i]? = some (.cells cs own))
   (h:(∃e,P.underlying T=some (.slice e)/\cs[off]? =some p/\L=[(0,e)])\/(∃fs l,P.underlying T=some (.struct fs)/\ch P T (cs.drop off)=some (.agg l)/\p=.agg l/\(L.map (·.1)).Nodup/\∀y∈L,y.1<l.length))
   (hm:∀y∈L,(off+y.1,y.2)∈own):
   eP P GE bi rw o id s ⟨s.tmps.set d p,s.boxes.set i (.cells cs (own.filter fun x=>!L.any fun y=>x.1==off+y.1)),(L.map fun y=>((d,y.1),y.2)).reverse++bI d s.own⟩ ((false,d,0)::L.map fun y=>(true,i,off+y.1))
 | st (T:TypeId) (x y:Operand) (i off:Nat) (vs cs:List PVal) (own:List (Nat×TypeId)) (hd:o.dst = none) (ho:o.op = .store T x y) (hx:opv GE s.tmps x = .bptr i off) (hvs:bZ (opv GE s.tmps y) = some vs) (hB:s.boxes[i]? = some (.cells cs own))
   (hp:cH P T (.bptr i off) (opv GE s.tmps y) s.boxes=some (s.boxes.set i (.cells (cs.take off++vs++cs.drop (off+vs.length)) (own.filter fun y=>y.1<off||off+vs.length<=y.1)))):
   eP P GE bi rw o id s ⟨s.tmps,s.boxes.set i (.cells (cs.take off++vs++cs.drop (off+vs.length)) (own.filter fun y=>y.1<off||off+vs.length<=y.1)),s.own⟩ (rH i off vs.length)
 | sto (T:TypeId) (x:Operand) (t i off:Nat) (vs cs:List PVal) (own L:List (Nat×TypeId)) (hd:o.dst = none) (ho:o.op = .store T x (.tmp t)) (hx:opv GE s.tmps x = .bptr i off) (hvs:bZ (s.tmps.getD t .undef) = some vs) (hB:s.boxes[i]? = some (.cells cs own))
   (hp:cH P T (.bptr i off) (s.tmps.getD t .undef) s.boxes=some (s.boxes.set i (.cells (cs.take off++vs++cs.drop (off+vs.length)) (own.filter fun y=>y.1<off||off+vs.length<=y.1))))
   (hk:(∃l,s.tmps.getD t .undef=.agg l)\/((s.tmps.getD t .undef).one=true/\∃e,L=[(0,e)])) (hm:∀y∈L,((t,y.1),y.2)∈s.own) (hn:(L.map (·.1)).Nodup) (hl:∀y∈L,y.1<vs.length):
   eP P GE bi rw o id s ⟨s.tmps,s.boxes.set i (.cells (cs.take off++vs++cs.drop (off+vs.length)) ((L.map fun y=>(off+y.1,y.2)).reverse++own.filter fun y=>y.1<off||off+vs.length<=y.1)),s.own.filter fun x=>!L.any fun y=>x.1==(t,y.1)⟩
    ((false,t,0)::rH i off vs.length)
 |mu (t:TypeId) (m k x:Operand) (H:List aw) (hd:o.dst=none) (ho:o.op=.mapUpdate t m k x) (hp:eJ P t (opv GE s.tmps m) (opv GE s.tmps k) (opv GE s.tmps x) s.boxes=some H):eP P GE bi rw o id s ⟨s.tmps,H,s.own⟩ []
 | callR (d:Nat) (f:Operand) (args:Array Operand) (tys:Array TypeId) (r:PVal) (ro:List (Nat×TypeId)) (oa:List OA) (ho:o.op = .call { callee := .value f,args,argTypes:=tys }) (hd:o.dst = some d)
   (hg:∀st:aq,(∀x,x=f\/x∈args.toList->opv GE s.tmps x=opv GE st.tmps x)->(∀x∈oa,((x.t,x.k),x.e)∈s.own->((x.t,x.k),x.e)∈st.own)->FJ P GE f args.toList st r ro st.boxes oa):
   eP P GE bi rw o id s ⟨s.tmps.set d r,s.boxes,(ro.map fun x=>((d,x.1),x.2))++bI d (s.own.filter fun z=>!oa.any fun x=>z.1==(x.t,x.k))⟩ ((false,d,0)::oa.map fun x=>(false,x.t,0))
 | cl (d i:Nat) (f x:Operand) (tys:Array TypeId) (g:FuncId) (e:TypeId) (es:List (List PVal)) (ho:o.op = .call { callee := .value f,args:=⟨[x]⟩,argTypes:=tys }) (hd:o.dst = some d) (hb:bi = some (i,.cells es.flatten []))
   (hf:opv GE s.tmps f=.func (.func g) [] []) (hx:opv GE s.tmps x=.slice es) (hC:kT P g e) (h0:0<P.cellsOf e) (h1:∀x∈es,x.length=P.cellsOf e/\∀q∈x,q.one=true) (h2:es.length<=di):
   eP P GE bi rw o id s ⟨s.tmps.set d (.bsl i 0 es.length),s.boxes,bI d s.own⟩ [(false,d,0)]
 | stR (T:TypeId) (x y:Operand) (i off:Nat) (cs cs':List PVal) (hd:o.dst = none) (ho:o.op = .store T x y) (hx:opv GE s.tmps x = .bptr i off) (hB:s.boxes[i]? = some (.cells cs []))
   (hp:cH P T (.bptr 0 off) (opv GE s.tmps y) [.cells cs []]=some [.cells cs' []]) (hi:i∈rw):
   eP P GE bi rw o id s ⟨s.tmps,s.boxes.set i (.cells cs' []),s.own⟩ []
structure Mn(P:Program)(o:Oper)(s s':aq)(rs:List Rs):Prop where
 tm:match o.dst with
  |some d=>∃p,s'.tmps=s.tmps.set d p
  |none=>s'.tmps=s.tmps
 bx:aG P o.op≠3->s'.boxes.map bL=s.boxes.map bL
 back:∀τ,cR τ∉rs->jY s' τ->jY s τ
theorem EE{H:List aw}{i:Nat}{cs:List PVal}{own own':List (Nat×TypeId)}(hB:H[i]? =some (.cells cs own)):(H.set i (.cells cs own')).map bL=H.map bL:=by
 apply va5
 intro j
 simp only[vat]
 by_cases hj:i=j
 ·subst hj
  rw[vaf (aj hB),hB];rfl
 ·rw[vaj hj]
theorem cp{st:aq}{t k:Nat}{e:TypeId}:jY st (false,(t,k),e)↔((t,k),e)∈st.own:=Iff.rfl
theorem eg{st:aq}{i j:Nat}{e:TypeId}:jY st (true,(i,j),e)↔∃cs own,st.boxes[i]? =some (.cells cs own)/\(j,e)∈own:=Iff.rfl
theorem lZ{i off n i' j':Nat}:(true,i',j')∈rH i off n↔i'=i/\off<=j'/\j'<off+n:=by
 unfold rH
 simp only[van,vbj,Prod.mk.injEq,vcn]
 constructor
 ·rintro⟨k,hk,rfl,rfl⟩;exact⟨rfl,by omega,by omega⟩
 ·rintro⟨rfl,h1,h2⟩;exact⟨j' - off,by omega,rfl,by omega⟩
theorem eE{d:Nat}{own:List ((Nat×Nat)×TypeId)}{x:(Nat×Nat)×TypeId}(h:x∈own)(hd:x.1.1≠d):x∈bI d own:=by
 unfold bI;exact vaT.2 ⟨h,by simpa using hd⟩
theorem tN{t:TypeId}{m k v:PVal}{H H':List aw}(h:eJ P t m k v H=some H'):∃i es es',H[i]? =some (.map es)/\H'=H.set i (.map es'):=by
 unfold eJ at h
 split at h
 ·rename_i kt e i _ _
  split at h
  ·rename_i es kd hB _
   split at h
   ·split at h
    ·cases h;exact⟨_,es,_,hB,rfl⟩
    ·cases h;exact⟨_,es,_,hB,rfl⟩
    ·cases h
   ·cases h
  ·cases h
 ·cases h
theorem ey{st:aq}{tm:List PVal}{ow:List ((Nat×Nat)×TypeId)}{i:Nat}{B:aw}{i' j':Nat}{e:TypeId}(hne:i≠i'):jY ⟨tm,st.boxes.set i B,ow⟩ (true,(i',j'),e)↔jY st (true,(i',j'),e):=by
 simp only[eg,vaj hne]
theorem eP.eff{bi:Option (Nat×aw)}{rw:List Nat}{o:Oper}{id:Nat}{s s':aq}{rs:List Rs}(h:eP P GE bi rw o id s s' rs):Mn P o s s' rs:=by
 have slot:∀{d:Nat} {p:PVal} {L:List (Nat×TypeId)} {rs:List Rs} {τ:KY},(false,d,0)∈rs->cR τ∉rs->jY ⟨s.tmps.set d p,s.boxes,(L.map fun x=>((d,x.1),x.2))++bI d s.own⟩ τ->jY s τ:=by
  rintro d p L rs ⟨b,⟨t,k⟩,e⟩ hd hr hh
  cases b with
  |true=>exact hh
  | false =>
   rcases vaR.1 (cp.1 hh)with hh|hh
   ·simp only[van,Prod.mk.injEq]at hh
    obtain⟨x,_,⟨rfl,_⟩,_⟩:=hh
    exact absurd hd hr
   ·exact(cV hh).1
 have slot0:∀{d:Nat} {p:PVal} {rs:List Rs} {τ:KY},(false,d,0)∈rs->cR τ∉rs->jY ⟨s.tmps.set d p,s.boxes,bI d s.own⟩ τ->jY s τ:=fun{d p rs τ} hd hr hh=>slot (L:=[]) hd hr hh
 cases h with
 |call d f args tys g first cap r ro ho hd hf hcl hc=>exact⟨by rw[hd];exact⟨r,rfl⟩,fun _=>rfl,fun τ hr hh=>slot (by simp) hr hh⟩
 |alloc d t zs ho hd hz=>exact⟨by rw[hd];exact⟨_,rfl⟩,fun _=>rfl,fun τ hr hh=>slot0 (by simp) hr hh⟩
 |mkmap d t ho hd=>exact⟨by rw[hd];exact⟨_,rfl⟩,fun _=>rfl,fun τ hr hh=>slot0 (by simp) hr hh⟩
 |ev d p hd hn hm hc h=>exact⟨by rw[hd];exact⟨_,rfl⟩,fun _=>rfl,fun τ hr hh=>slot0 (by simp) hr hh⟩
 |res d p L hd h=>exact⟨by rw[hd];exact⟨_,rfl⟩,fun _=>rfl,fun τ hr hh=>slot (by simp) hr hh⟩
 | app d t T e y es ns p hd ho hT he hn hp hm =>
  refine⟨by rw[hd];exact⟨_,rfl⟩,fun _=>rfl,?_⟩
  rintro⟨b,⟨t',k⟩,e'⟩ hr hh
  cases b with
  |true=>exact hh
  | false =>
   rcases vaD.1 (cp.1 hh)with hh|hh
   ·cases hh;exact absurd (by simp[cR]) hr
   ·exact(bX (cV hh).1).1
 | mv d t hd ho hdt =>
  refine⟨by rw[hd];exact⟨_,rfl⟩,fun _=>rfl,?_⟩
  rintro⟨b,⟨t',k⟩,e'⟩ hr hh
  cases b with
  |true=>exact hh
  | false =>
   have hh:=cp.1 hh
   simp only[fy,van]at hh
   obtain⟨⟨⟨t2,k2⟩,e2⟩,hx,he⟩:=hh
   simp only[Prod.mk.injEq]at he
   obtain⟨he,rfl⟩:=he
   split at he
   ·cases he;exact absurd (by simp[cR]) hr
   ·cases he;exact(cV hx).1
 | bmv d t k T parts p es hd ho hdt ht hin hp hm =>
  refine⟨by rw[hd];exact⟨_,rfl⟩,fun _=>rfl,?_⟩
  rintro⟨b,⟨t',k'⟩,e'⟩ hr hh
  cases b with
  |true=>exact hh
  | false =>
   have hh:=cp.1 hh
   simp only[fy,van]at hh
   obtain⟨⟨⟨t2,k2⟩,e2⟩,hx,he⟩:=hh
   simp only[Prod.mk.injEq]at he
   obtain⟨he,rfl⟩:=he
   split at he
   ·cases he;exact absurd (by simp[cR]) hr
   ·cases he;exact(cV hx).1
 | ld d T x i off cs own L p hd ho hx hB h hm =>
  refine⟨by rw[hd];exact⟨_,rfl⟩,fun _=>EE hB,?_⟩
  rintro⟨b,⟨t',k⟩,e'⟩ hr hh
  cases b with
  | true =>
   by_cases hi:i=t'
   ·subst hi
    obtain⟨cs',own',h1,h2⟩:=eg.1 hh
    simp only[vaf (aj hB),vao,aw.cells.injEq]at h1
    obtain⟨rfl,rfl⟩:=h1
    exact⟨_,_,hB,(bX h2).1⟩
   ·exact(ey hi).1 hh
  | false =>
   rcases vaR.1 (cp.1 hh)with hh|hh
   ·simp only[vcb,van,Prod.mk.injEq]at hh
    obtain⟨y,_,⟨rfl,_⟩,_⟩:=hh
    exact absurd (by simp[cR]) hr
   ·exact(cV hh).1
 | st T x y i off vs cs own hd ho hx hvs hB hp =>
  refine⟨by rw[hd],fun hc=>absurd (by simp[aG,bP,ho]) hc,?_⟩
  rintro⟨b,⟨t',k⟩,e'⟩ hr hh
  cases b with
  |false=>exact hh
  | true =>
   by_cases hi:i=t'
   ·subst hi
    obtain⟨cs',own',h1,h2⟩:=eg.1 hh
    simp only[vaf (aj hB),vao,aw.cells.injEq]at h1
    obtain⟨rfl,rfl⟩:=h1
    exact⟨_,_,hB,(bX h2).1⟩
   ·exact(ey hi).1 hh
 | sto T x t i off vs cs own L hd ho hx hvs hB hp hk hm hn hl =>
  refine⟨by rw[hd],fun hc=>absurd (by simp[aG,bP,ho]) hc,?_⟩
  rintro⟨b,⟨t',k⟩,e'⟩ hr hh
  cases b with
  |false=>exact(bX (cp.1 hh)).1
  | true =>
   by_cases hi:i=t'
   ·subst hi
    obtain⟨cs',own',h1,h2⟩:=eg.1 hh
    simp only[vaf (aj hB),vao,aw.cells.injEq]at h1
    obtain⟨rfl,rfl⟩:=h1
    rcases vaR.1 h2 with h2|h2
    ·simp only[vcb,van,Prod.mk.injEq]at h2
     obtain⟨y,hy,rfl,_⟩:=h2
     refine absurd (vaM _ (lZ.2 ⟨rfl,?_,?_⟩)) hr
     ·simp
     ·have:=hl y hy;simp;omega
    ·exact⟨_,_,hB,(bX h2).1⟩
   ·exact(ey hi).1 hh
 | mu t m k x H hd ho hp =>
  refine⟨by rw[hd],fun hc=>absurd (by simp[aG,bP,ho]) hc,?_⟩
  obtain⟨i,es,es',hB,rfl⟩:=tN hp
  rintro⟨b,⟨t',k⟩,e'⟩ hr hh
  cases b with
  |false=>exact hh
  | true =>
   by_cases hi:i=t'
   ·subst hi
    obtain⟨cs',own',h1,h2⟩:=eg.1 hh
    simp only[vaf (aj hB),vao]at h1
    cases h1
   ·exact(ey hi).1 hh
 | callR d f args tys r ro oa ho hd hg =>
  refine⟨by rw[hd];exact⟨r,rfl⟩,fun _=>rfl,?_⟩
  rintro⟨b,⟨t',k⟩,e'⟩ hr hh
  cases b with
  |true=>exact hh
  | false =>
   rcases vaR.1 (cp.1 hh)with hh|hh
   ·simp only[van,Prod.mk.injEq]at hh
    obtain⟨x,_,⟨rfl,_⟩,_⟩:=hh
    exact absurd (by simp[cR]) hr
   ·exact(bX (cV hh).1).1
 |cl d i f x tys g e es ho hd hb hf hx hC h0 h1 h2=>exact⟨by rw[hd];exact⟨_,rfl⟩,fun _=>rfl,fun τ hr hh=>slot0 (by simp) hr hh⟩
 | stR T x y i off cs cs' hd ho hx hB hp hi =>
  refine⟨by rw[hd],fun hc=>absurd (by simp[aG,bP,ho]) hc,?_⟩
  rintro⟨b,⟨t',k⟩,e'⟩ hr hh
  cases b with
  |false=>exact hh
  | true =>
   by_cases hi':i=t'
   ·subst hi'
    obtain⟨cs1,eR,k1,k2⟩:=eg.1 hh
    simp only[vaf (aj hB),vao,aw.cells.injEq]at k1
    obtain⟨rfl,rfl⟩:=k1
    cases k2
   ·exact(ey hi').1 hh
theorem Gb{H H2:List aw}(h:H2.map bL=H.map bL){i:Nat}{es:List (PVal×PVal)}(hi:H[i]? =some (.map es)):H2[i]? =some (.map es):=by
 have:=IU h i
 rw[hi]at this
 cases hB:H2[i]? with
 |none=>rw[hB]at this;cases this
 |some B=>
  rw[hB]at this
  cases B<;>simp[bL]at this
  subst this
  rfl
theorem rR{H H2:List aw}(h:H2.map bL=H.map bL){i:Nat}{B B2:aw}(hB:bL B2=bL B):(H2.set i B2).map bL=(H.set i B).map bL:=by
 rw[List.map_set,List.map_set,h,hB]
theorem DQ{t:TypeId}{m k v:PVal}{H H' H2:List aw}(hs:H2.map bL=H.map bL)(h:eJ P t m k v H=some H'):∃i es',m=.mapr i/\H'=H.set i (.map es')/\eJ P t m k v H2=some (H2.set i (.map es')):=by
 unfold eJ at h ⊢
 split at h
 ·split at h
  ·rename_i es kd hB hk
   split at h
   ·rename_i hkk
    split at h
    ·rename_i hf;cases h;refine⟨_,_,rfl,rfl,?_⟩;simp only[Gb hs hB,hk,var hkk,hf]
    ·rename_i hf;cases h;refine⟨_,_,rfl,rfl,?_⟩;simp only[Gb hs hB,hk,var hkk,hf]
    ·cases h
   ·cases h
  ·cases h
 ·cases h
structure HN(P:Program)(bs:ba)(rw:List Nat)(o:Oper)(st st' s s':aq)(rs:List Rs):Prop where
 tm:match o.dst with
  |some d=>∃p,st'.tmps=st.tmps.set d p/\s'.tmps=s.tmps.set d p
  |none=>st'.tmps=st.tmps/\s'.tmps=s.tmps
 b1:aG P o.op≠3->st'.boxes.map bL=st.boxes.map bL
 b2:aG P o.op=3->st'.boxes.map bL=s'.boxes.map bL
 keep:∀τ,cR τ∉rs->(τ.1=true->τ.2.1.1∉rw)->jY st τ->jY st' τ
 got:∀τ,cR τ∈rs->jY s' τ->jY st' τ
 un:∀i:Nat,bs[i]? =some none->st'.boxes[i]? =st.boxes[i]?
theorem Cq{st:aq}{tm:List PVal}{d:Nat}{L:List (Nat×TypeId)}{rs:List Rs}{R:KY->Prop}(hd:(false,d,0)∈rs)(τ:KY)(hr:cR τ∉rs)(_:R τ)(h:jY st τ):jY ⟨tm,st.boxes,(L.map fun x=>((d,x.1),x.2))++bI d st.own⟩ τ:=by
 obtain⟨b,⟨t,k⟩,e⟩:=τ
 cases b with
 |true=>exact h
 |false=>exact va0 _ (eE (cp.1 h) fun hx=>by simp only at hx;subst hx;exact hr hd)
theorem Hn{st s:aq}{tm tm':List PVal}{d:Nat}{L:List (Nat×TypeId)}(τ:KY)(hr:cR τ∈[(false,d,0)])(h:jY ⟨tm',s.boxes,(L.map fun x=>((d,x.1),x.2))++bI d s.own⟩ τ):jY ⟨tm,st.boxes,(L.map fun x=>((d,x.1),x.2))++bI d st.own⟩ τ:=by
 obtain⟨b,⟨t,k⟩,e⟩:=τ
 cases b with
 |true=>simp[cR]at hr
 | false =>
  rcases vaR.1 (cp.1 h)with h|h
  ·exact va3 _ h
  ·have:=(cV h).2
   simp[cR]at hr
   exact absurd hr this
section
variable{E:ma}{Γ:aK}{bs:ba}{ow:Nat->Option iD}{w:World}{a:Act}{st:aq}
theorem yM{T:TypeId}{i off:Nat}{y:PVal}{vs cs:List PVal}{own:List (Nat×TypeId)}{H H':List aw}(hvs:bZ y=some vs)(hB:H[i]? =some (.cells cs own))(hp:cH P T (.bptr i off) y H=some H'){H2:List aw}{own2:List (Nat×TypeId)}(hB2:H2[i]? =some (.cells cs own2)):cH P T (.bptr i off) y H2=some (H2.set i (.cells (cs.take off++vs++cs.drop (off+vs.length)) (own2.filter fun y=>y.1<off||off+vs.length<=y.1))):=by
 simp only[cH,hvs,hB]at hp
 simp only[cH,hvs,hB2]
 split at hp
 ·rename_i hc;rw[var hc]
 ·cases hp
theorem HF{T:TypeId}{i off:Nat}{y:PVal}{cs cs':List PVal}{own2:List (Nat×TypeId)}{H:List aw}(hp:cH P T (.bptr 0 off) y [.cells cs []]=some [.cells cs' []])(hB:H[i]? =some (.cells cs own2)):∃own',cH P T (.bptr i off) y H=some (H.set i (.cells cs' own')):=by
 unfold cH at hp ⊢
 split at hp
 ·rename_i i' off' vs h1 h2
  cases h1
  simp only[List.getElem?_cons_zero]at hp
  simp only[h2,hB]
  split at hp
  ·rename_i hc
   rw[var hc]
   simp only[List.set_cons_zero,vao,vbl,aw.cells.injEq,vcB]at hp
   obtain⟨rfl,_⟩:=hp
   exact⟨_,rfl⟩
  ·cases hp
 ·cases hp
theorem SR.fillBox{a:Array Value}(h:SR P E Γ bs ow w a st){i:Nat}(hid:bs[i]? =some none){cs:List PVal}(hB:st.boxes[i]? =some (.cells cs []))(xb:Option Nat)
  (hx:∀b,xb=some b->(∃cur t,w.heap[b]? =some (.cells cur t (0,0))/\cs.length<=cur.size/\∀(j:Nat) p v,cs[j]? =some p->cur[j]? =some v->VR Γ bs w p v)/\Γ b=none/\(E.T b\/E.w.heap.size<=b)/\∀i:Nat,bs[i]? ≠some (some b)):
  SR P E Γ (bs.set i xb) ow w a st:=by
 have hs:bs.Sub (bs.set i xb):=fun j b hb=>ug hid hb
 have hlt:i<bs.length:=aj hid
 have hcase:∀{j b:Nat},(bs.set i xb)[j]? =some (some b)->(j=i/\xb=some b)\/(j≠i/\bs[j]? =some (some b)):=by
  intro j b hb
  by_cases hj:j=i
  ·subst hj
   rw[vaf hlt]at hb
   exact .inl ⟨rfl,by simpa using hb⟩
  ·rw[vaj (fun e=>hj e.symm)]at hb
   exact .inr ⟨hj,hb⟩
 exact{h with
  tm:=fun t p v hp hv=>(h.tm t p v hp hv).mono (.refl _ _) hs
  bl:=by simp[h.bl]
  bx:=fun j b B hb hB'=>by
   rcases hcase hb with⟨rfl,hb'⟩|⟨hj,hb'⟩
   ·obtain⟨⟨cur,t,k1,k2,k3⟩,k4,k5,k6⟩:=hx b hb'
    rw[hB]at hB'
    cases hB'
    exact⟨k4,(vam.1 k1).1,cur,t,k1,k2,fun j p v hp hv=>(k3 j p v hp hv).mono (.refl _ _) hs⟩
   ·obtain⟨h1,h2,h3⟩:=h.bx j b B hb' hB'
    exact⟨h1,h2,h3.mono (.refl _ _) hs rfl⟩
  inj:=fun j k b hj hk=>by
   rcases hcase hj with⟨rfl,hj'⟩|⟨_,hj'⟩<;>rcases hcase hk with⟨rfl,hk'⟩|⟨_,hk'⟩
   ·rfl
   ·exact absurd hk' ((hx b hj').2.2.2 k)
   ·exact absurd hj' ((hx b hk').2.2.2 j)
   ·exact h.inj j k b hj' hk'
  bn:=fun j b hb=>by
   rcases hcase hb with⟨rfl,hb'⟩|⟨_,hb'⟩
   ·exact(hx b hb').2.2.1
   ·exact h.bn j b hb'
  ob:=fun j k e cs' own b hB' hj hb=>by
   rcases hcase hb with⟨rfl,hb'⟩|⟨_,hb'⟩
   ·rw[hB]at hB'
    cases hB'
    simp at hj
   ·exact h.ob j k e cs' own b hB' hj hb'
  gl:=fun g cs hg=>(h.gl g cs hg).mono (.refl _ _) hs}
theorem He{a:Array Value}(h:SR P E Γ bs ow w a st){i:Nat}(hid:bs[i]? =some none){ns:List (List PVal)}(hB:st.boxes[i]? =some (.cells ns.flatten [])){f:FuncId}{e:TypeId}{x:Value}(hC:kT P f e)(hx:VR Γ bs w (.slice ns) x)(hsz0:0<P.cellsOf e)(hns1:∀x∈ns,x.length=P.cellsOf e/\∀q∈x,q.one=true)(hlen:ns.length<=di):Calls P f #[x] w fun r w'=>∃v' xb,r=.returned v'/\SR P E Γ (bs.set i xb) ow w' a st/\VR Γ (bs.set i xb) w' (.bsl i 0 ns.length) v':=by
 obtain⟨news,hnx,hnl,hn1,hnv⟩:=BO hx hsz0 hns1
 refine(hC.2 w x ns.length news hnx hnl hn1 hlen).mono fun r w' hr=>?_
 obtain⟨v',rfl,hown,hb⟩:=hr
 obtain⟨hle,hS⟩:=tA h hb
 rcases hown.2 with⟨rfl,hn⟩|⟨g,cap,cur,rfl,hge,hheap,hnc,hcm,hcs,htake⟩
 ·have hns0:ns=[]:=vai hn
  subst hns0
  exact⟨_,none,rfl,hS.fillBox hid hB none (fun b hb=>by cases hb),.bsl _ _ _ _ _ (vaL _) (fun _=>rfl) (.inl rfl)⟩
 ·refine⟨_,some g,rfl,hS.fillBox hid hB (some g) (fun b hb'=>?_),?_⟩
  ·cases hb'
   refine⟨⟨cur,e,hheap,uJ hsz0 (fun x hx=>(hns1 x hx).1) fun i x k q hx hq=>?_⟩,?_,.inr (vaI h.step.size hge),fun i hi=>?_⟩
   ·obtain⟨u,k1,k2⟩:=hnv i x k q hx hq
    refine⟨u,?_,k2.mono hle (.refl _)⟩
    have hlt:=aj k1
    rw[<-htake,vak (by omega)]at k1
    simpa using k1
   ·cases hg:Γ g with
    |none=>rfl
    |some m=>exact absurd (h.lt_of_ghost hg) (by omega)
   ·have:=(h.bx i g (st.boxes[i]'(by rw[<-h.bl];exact aj hi)) hi (by simp)).2.1
    omega
  ·exact .bsl _ _ _ _ _ hnc (fun h=>by cases h) (.inr ⟨g,rfl,vaf (aj hid)⟩)
theorem Jj{es:List (List PVal)}{u:Value}(h:VR Γ bs w (.slice es) u):∃b n m,u=.slice b n m:=by
 cases h<;>exact⟨_,_,_,rfl⟩
theorem DF(h:SR P E Γ bs ow w a.tmps st){o:Oper}{id d t k:Nat}{T:TypeId}{parts:Array (Nat×Operand)}{p:PVal}{es:List (List PVal)}{K:aq->Prop}(ho:o.op=.build T parts)(hdst:o.dst=some d)(hd:d<st.tmps.length)(hg:st.tmps.getD t .undef=.slice es)
  (hp:dc P T (parts.toList.map fun x=>(x.1,opv E.GE st.tmps x.2))=some p) (hm:Pa P T (GD E.GE st.tmps parts.toList t) k)
  (hK:K ⟨st.tmps.set d p,st.boxes,fy d (fun x=>if x=(t,0)then(d,k)else x) st.own⟩) (Q:Exit->Act->World->Prop):
  o.wp P a w (ew P E bs id (au o.op) a.defers K) Q:=by
 have hρ:∀x,VR Γ bs w (opv E.GE st.tmps x) (a.eval x):=fun x=>h.opv a.defers x
 obtain⟨k1,k2⟩:=ql hρ parts.toList
 obtain⟨v,r1,r2⟩:=rx k1 k2 hp
 have hu:VR Γ bs w (.slice es) (a.eval (.tmp t)):=by
  have:=hρ (.tmp t)
  rwa[show opv E.GE st.tmps (.tmp t)=st.tmps.getD t .undef from rfl,hg]at this
 obtain⟨b,n,m,hu⟩:=Jj hu
 obtain⟨cs,hcs,hck⟩:=hm b n m
 have hρ2:∀x:Operand,VR Γ bs w (if wL t x=true then .val (.slice b n m)else opv E.GE st.tmps x) (a.eval x):=fun x=>by
  split
  ·rename_i hx
   rw[Ej hx,hu]
   exact .val _
  ·exact hρ x
 obtain⟨l1,l2⟩:=ql (v:=fun x=>if wL t x=true then .val (.slice b n m)else opv E.GE st.tmps x) hρ2 parts.toList
 obtain⟨v2,s1,s2⟩:=rx l1 l2 hcs
 rw[r1]at s1
 cases s1
 have hrun:(execOp a.eval o).run P w=.ok (.value v) w:=by
  have:(parts.map fun x=>(x.1,a.eval x.2))=(parts.toList.map fun x=>(x.1,a.eval x.2)).toArray:=by apply vbv;simp
  simp only[execOp,ho]
  rw[this]
  simp[r1]
 unfold Oper.wp
 rw[hrun,Oper.upon_value]
 have hpv:gB v k=some (.slice b n m):=by
  cases s2 with
  |agg _ vs hl hv=>
   have hlt:k<vs.size:=by rw[hl];exact aj hck
   have:=hv k _ vs[k] hck (by simp[hlt])
   show vs[k]? =_
   rw[vaV hlt]
   generalize vs[k]=q at this
   cases this
   rfl
 have:=h.setRen (d:=d) (p:=p) r2 (fun x=>if x=(t,0)then(d,k)else x) (by rw[h.sz];exact hd) fun t' k' e' _ ht'=>by
  by_cases hx:((t',k'):Nat×Nat)=(t,0)
  ·cases hx
   refine .inr ⟨k,by simp,fun u v' hu' hv' _=>?_⟩
   rw[jd hu']at hu
   subst hu
   have:v'=.slice b n m:=by
    simp only[gB,if_true,vao]at hv'
    exact hv'.symm
   rw[this];exact hpv
  ·exact .inl (vav hx)
 have hput:∀v,(a.put o.dst v).tmps=a.tmps.setIfInBounds d v:=fun v=>by rw[hdst];rfl
 rw[<-hput]at this
 exact⟨ck _ _ _,Γ,bs,_,_,this,hK,.inl rfl⟩
theorem eP.sound(h:SR P E Γ bs ow w a.tmps st){bi:Option (Nat×aw)}{rw:List Nat}{o:Oper}{id:Nat}{s s':aq}{rs:List Rs}(hs:eP P E.GE bi rw o id s s' rs)(hid:au o.op=true->bs[id]? =some none/\st.boxes[id]? =jJ P o)(hbi:∀i B,bi=some (i,B)->bs[i]? =some none/\st.boxes[i]? =some B)
    (hopv:∀x∈o.op.operands.toList,opv E.GE s.tmps x=opv E.GE st.tmps x) (hbx:2<=aG P o.op->st.boxes.map bL=s.boxes.map bL) (htok:∀τ,cR τ∈rs->jY s τ->jY st τ) (hdd:∀d,o.dst=some d->d<st.tmps.length)
    (Q:Exit->Act->World->Prop):
    o.wp P a w (fun a' w'=>a'.defers=a.defers/\∃Γ' bs' ow' st',SR P E Γ' bs' ow' w' a'.tmps st'/\HN P bs rw o st st' s s' rs/\(bs'=bs\/(au o.op=true/\∃b,bs'=bs.set id (some b))\/∃i B x,bi=some (i,B)/\bs'=bs.set i x)) Q:=by
  have fin:∀{st'},HN P bs rw o st st' s s' rs->o.wp P a w (ew P E bs id (au o.op) a.defers (·=st')) Q->o.wp P a w (fun a' w'=>a'.defers=a.defers/\∃Γ' bs' ow' st',SR P E Γ' bs' ow' w' a'.tmps st'/\HN P bs rw o st st' s s' rs/\(bs'=bs\/(au o.op=true/\∃b,bs'=bs.set id (some b))\/∃i B x,bi=some (i,B)/\bs'=bs.set i x)) Q:=by
    intro st' hD hw
    refine Oper.wp_mono (fun a' w' hA=>?_) hw
    obtain⟨h1,Γ',bs',ow',st2,h2,rfl,h3⟩:=hA
    exact⟨h1,Γ',bs',ow',_,h2,hD,h3.imp_right .inl⟩
  have hid':au o.op=true->bs[id]? =some none:=fun hm=>(hid hm).1
  have live:∀{x:Operand} {i off:Nat},opv E.GE st.tmps x=.bptr i off->∃b,bs[i]? =some (some b):=by
    intro x i off hx
    have hv:=h.opv a.defers x
    rw[hx]at hv
    generalize (Act.mk a.tmps a.defers).eval x=vx at hv
    cases hv with
    |bptr _ _ b hb=>exact⟨b,hb⟩
  cases hs with
  | call d f args tys g first cap r ro ho hd hf hcl hc =>
    have hop:∀x,x=f\/x∈args.toList->opv E.GE s.tmps x=opv E.GE st.tmps x:=fun x hx=>hopv x (by rw[ho];simp[Op.operands,Call.operands];simpa using hx)
    have hargs:args.toList.map (opv E.GE s.tmps)=args.toList.map (opv E.GE st.tmps):=vaZ fun x hx=>hop x (.inr hx)
    rw[hargs]at hcl hc
    rw[hop f (.inl rfl)]at hf
    refine fin (st':=⟨st.tmps.set d r,st.boxes,(ro.map fun x=>((d,x.1),x.2))++bI d st.own⟩) ⟨by rw[hd];exact⟨r,rfl,rfl⟩,fun _=>rfl,fun hc=>by simp[aG,ho]at hc,Cq (by simp),Hn,fun _ _=>rfl⟩ ?_
    refine ew.of h hid' (by simp[jF,ho,hd,hdd d hd]) ?_ Q
    unfold Eu
    rw[ho]
    simp only[wS,hf]
    refine .inl ⟨hcl,r,ro,hc,?_⟩
    rw[hd];rfl
  | alloc d t zs ho hd hz =>
    have hpre:=(hid (by rw[ho];rfl)).2
    simp only[jJ,ho,hz]at hpre
    refine fin (st':=⟨st.tmps.set d (.bptr id 0),st.boxes,bI d st.own⟩) ⟨by rw[hd];exact⟨_,rfl,rfl⟩,fun _=>rfl,fun hc=>by simp[aG,bP,ho]at hc,Cq (L:=[]) (by simp),Hn (L:=[]),fun _ _=>rfl⟩ ?_
    refine ew.of h hid' (by simp[jF,ho]) ?_ Q
    unfold Eu
    rw[ho]
    simp only[lX,hz,vad,yY hpre]
    rw[hd];rfl
  | mkmap d t ho hd =>
    have hpre:=(hid (by rw[ho];rfl)).2
    simp only[jJ,ho]at hpre
    refine fin (st':=⟨st.tmps.set d (.mapr id),st.boxes,bI d st.own⟩) ⟨by rw[hd];exact⟨_,rfl,rfl⟩,fun _=>rfl,fun hc=>by simp[aG,bP,ho]at hc,Cq (L:=[]) (by simp),Hn (L:=[]),fun _ _=>rfl⟩ ?_
    refine ew.of h hid' (by simp[jF,ho]) ?_ Q
    unfold Eu
    rw[ho]
    simp only[lX,yY hpre]
    rw[hd];rfl
  | ev d p hd hn hm hc hp =>
    have hnc:∀f args tys,o.op≠.call {callee:=.value f,args,argTypes:=tys}:=fun f args tys e=>by rw[e]at hn;cases hn
    rw[xH hnc]at hbx
    have hp2:=MN (H2:=st.boxes) hc hm hp fun h2=>hbx h2
    rw[Kp hopv]at hp2
    refine fin (st':=⟨st.tmps.set d p,st.boxes,bI d st.own⟩) ⟨by rw[hd];exact⟨_,rfl,rfl⟩,fun _=>rfl,fun hc'=>by rw[xH hnc]at hc';exact absurd hc' hc,Cq (L:=[]) (by simp),Hn (L:=[]),fun _ _=>rfl⟩ ?_
    refine ew.of h hid' ?_ ?_ Q
    · unfold jF
      split
      ·rename_i f args tys ho;exact absurd ho (hnc _ _ _)
      ·rfl
    · unfold Eu
      split
      ·rename_i f args tys ho;exact absurd ho (hnc _ _ _)
      · rw [hp2]
        show pM st o.dst p [] st.boxes=_
        rw[hd];rfl
  | res d p L hd hh =>
    have hcl:aG P o.op≠3:=by
      rcases hh with⟨T,len,parts,e,ho,_⟩|⟨T,parts,ho,_⟩|⟨v,e,ho|ho,_⟩<;>simp[aG,bP,ho]
    refine fin (st':=⟨st.tmps.set d p,st.boxes,(L.map fun x=>((d,x.1),x.2))++bI d st.own⟩) ⟨by rw[hd];exact⟨_,rfl,rfl⟩,fun _=>rfl,fun hc=>absurd hc hcl,Cq (by simp),Hn,fun _ _=>rfl⟩ ?_
    rcases hh with⟨T,len,parts,e,ho,h1,h2,rfl⟩|⟨T,parts,ho,h1,h2⟩|⟨v,e,ho,h1,rfl,rfl⟩
    · have hpt:(parts.toList.map fun x => (x.1,opv E.GE s.tmps x.2)) = parts.toList.map fun x => (x.1,opv E.GE st.tmps x.2):=vaZ fun x hx => by rw [hopv x.2 (by rw [ho]; simp only [Op.operands]; exact van.2 ⟨x,hx,rfl⟩)]
      rw[hpt]at h1
      exact pY (K:=(·=_)) h ho hd (hdd d hd) h2 h1 rfl Q
    · have hpt:(parts.toList.map fun x => (x.1,opv E.GE s.tmps x.2)) = parts.toList.map fun x => (x.1,opv E.GE st.tmps x.2):=vaZ fun x hx => by rw [hopv x.2 (by rw [ho]; simp only [Op.operands]; exact van.2 ⟨x,hx,rfl⟩)]
      rw[hpt]at h1 h2
      exact tz (K:=(·=_)) h ho hd (hdd d hd) h1 h2 rfl Q
    ·exact zG (K:=(·=_)) h ho hd (hdd d hd) h1 rfl Q
  | app d t T e y es ns p hd ho hT he hn hp hm =>
    have hop:∀x,x=.tmp t\/x=y->opv E.GE s.tmps x=opv E.GE st.tmps x:=fun x hx=>hopv x (by rw[ho];simp[Op.operands,Call.operands];rcases hx with rfl|rfl<;>simp)
    have he':st.tmps.getD t .undef=.slice es:=(hop (.tmp t) (.inl rfl)).symm.trans he
    rw[hop y (.inr rfl)]at hn
    have hm':((t,0),e)∈st.own:=htok (false,(t,0),e) (by simp[cR]) hm
    refine fin (st':=⟨st.tmps.set d p,st.boxes,((d,0),e)::bI d (st.own.filter fun x=>x.1 !=(t,0))⟩) ⟨by rw[hd];exact⟨_,rfl,rfl⟩,fun _=>rfl,fun hc=>by simp[aG,bP,ho]at hc,?_,?_,fun _ _=>rfl⟩ (xF (K:=(·=_)) h ho hd (hdd d hd) hT he' hn hp hm' rfl Q)
    · rintro ⟨b,⟨t',k⟩,e'⟩ hr _ hh
      cases b with
      |true=>exact hh
      | false =>
        simp[cR]at hr
        refine vaM _ (eE (vaT.2 ⟨cp.1 hh,?_⟩) hr.1)
        simp only[bne_iff_ne,ne_eq,Prod.mk.injEq,not_and]
        exact fun e=>absurd e hr.2
    · rintro ⟨b,⟨t',k⟩,e'⟩ hr hh
      cases b with
      |true=>simp[cR]at hr
      | false =>
        rcases vaD.1 (cp.1 hh)with hh|hh
        ·rw[hh];exact vbZ
        · obtain ⟨h1,h2⟩:=cV hh
          obtain⟨h3,h4⟩:=bX h1
          have h5:((t',k),e')∈st.own:=htok (false,(t',k),e') hr h3
          exact vaM _ (eE (vaT.2 ⟨h5,h4⟩) h2)
  | mv d t hd ho hdt =>
    have hg:s.tmps.getD t .undef=st.tmps.getD t .undef:=hopv (.tmp t) (by rcases ho with ho|ho<;>rw[ho]<;>simp[Op.operands])
    have hcl:aG P o.op≠3:=by rcases ho with ho|ho<;>simp[aG,bP,ho]
    refine fin (st':=⟨st.tmps.set d (st.tmps.getD t .undef),st.boxes,fy d (fun x=>if x.1=t then(d,x.2)else x) st.own⟩) ⟨by rw[hd];exact⟨_,rfl,by rw[hg]⟩,fun _=>rfl,fun hc=>absurd hc hcl,?_,?_,fun _ _=>rfl⟩ (rt (K:=(·=_)) h ho hd (hdd d hd) rfl Q)
    · rintro ⟨b,⟨t',k⟩,e'⟩ hr _ hh
      cases b with
      |true=>exact hh
      | false =>
        simp[cR]at hr
        refine van.2 ⟨((t',k),e'),eE (cp.1 hh) hr.1,?_⟩
        simp only
        rw[vav hr.2]
    · rintro ⟨b,⟨t',k⟩,e'⟩ hr hh
      cases b with
      |true=>simp[cR]at hr
      | false =>
        obtain⟨⟨⟨t2,k2⟩,e2⟩,hx,he⟩:=van.1 (cp.1 hh)
        simp only[Prod.mk.injEq]at he
        obtain⟨he,rfl⟩:=he
        obtain⟨h1,h2⟩:=cV hx
        by_cases ht:t2=t
        · subst ht
          rw[var rfl]at he
          cases he
          have h5:((t2,k),e2)∈st.own:=htok (false,(t2,k),e2) (by simp[cR]) h1
          exact van.2 ⟨((t2,k),e2),eE h5 h2,by simp⟩
        · rw [vav ht] at he
          cases he
          simp[cR]at hr
          rcases hr with hr|hr
          ·exact absurd hr h2
          ·exact absurd hr ht
  | bmv d t k T parts p es hd ho hdt ht hin hp hm =>
    have hin2:Operand.tmp t∈o.op.operands.toList:=by
      obtain⟨x,hx,hx2⟩:=vcx.1 hin
      rw[ho];simp only[Op.operands]
      exact van.2 ⟨x,hx,Ej hx2⟩
    have hpar:∀x∈parts.toList,opv E.GE s.tmps x.2=opv E.GE st.tmps x.2:=fun x hx=>hopv x.2 (by rw[ho];simp only[Op.operands];exact van.2 ⟨x,hx,rfl⟩)
    have hpt:(parts.toList.map fun x=>(x.1,opv E.GE s.tmps x.2))=parts.toList.map fun x=>(x.1,opv E.GE st.tmps x.2):=vaZ fun x hx=>by rw[hpar x hx]
    have hpw:GD E.GE s.tmps parts.toList t=GD E.GE st.tmps parts.toList t:=by
      funext q
      exact vaZ fun x hx=>by rw[hpar x hx]
    rw[hpt]at hp
    rw[hpw]at hm
    have hg:st.tmps.getD t .undef=.slice es:=(hopv (.tmp t) hin2).symm.trans ht
    have hcl:aG P o.op≠3:=by simp[aG,bP,ho]
    refine fin (st':=⟨st.tmps.set d p,st.boxes,fy d (fun x=>if x=(t,0)then(d,k)else x) st.own⟩) ⟨by rw[hd];exact⟨_,rfl,rfl⟩,fun _=>rfl,fun hc=>absurd hc hcl,?_,?_,fun _ _=>rfl⟩ (DF (K:=(·=_)) h ho hd (hdd d hd) hg hp hm rfl Q)
    · rintro ⟨b,⟨t',k'⟩,e'⟩ hr _ hh
      cases b with
      |true=>exact hh
      | false =>
        simp[cR]at hr
        refine van.2 ⟨((t',k'),e'),eE (cp.1 hh) hr.1,?_⟩
        simp only
        rw[vav (fun e=>hr.2 (vbe Prod.fst e))]
    · rintro ⟨b,⟨t',k'⟩,e'⟩ hr hh
      cases b with
      |true=>simp[cR]at hr
      | false =>
        obtain⟨⟨⟨t2,k2⟩,e2⟩,hx,he⟩:=van.1 (cp.1 hh)
        have h6:e2=e':=vbe Prod.snd he
        subst h6
        have he1:(if((t2,k2):Nat×Nat)=(t,0)then(d,k)else(t2,k2))=(t',k'):=vbe Prod.fst he
        obtain⟨h1,h2⟩:=cV hx
        by_cases ht2:((t2,k2):Nat×Nat)=(t,0)
        · have h5:((t2,k2),e2) ∈ st.own:=htok (false,(t2,k2),e2) (by cases ht2; simp [cR]) h1
          exact van.2 ⟨((t2,k2),e2),eE h5 h2,he⟩
        · rw [vav ht2] at he1
          cases he1
          simp[cR]at hr
          rcases hr with hr|hr
          ·exact absurd hr h2
          · subst hr
            have h5:((t',k'),e2)∈st.own:=htok (false,(t',k'),e2) (by simp[cR]) h1
            exact van.2 ⟨((t',k'),e2),eE h5 h2,he⟩
  | ld d T x i off cs own L p hd ho hx hB hh hm =>
    have hx':opv E.GE st.tmps x=.bptr i off:=(hopv x (by rw[ho];simp[Op.operands])).symm.trans hx
    obtain⟨bb,hbb⟩:=live hx'
    obtain⟨own2,hB2⟩:=rp (hbx (by simp[aG,bP,ho])) hB
    have hm2:∀y∈L,(off+y.1,y.2)∈own2:=fun y hy=>by
      obtain⟨cs',own',e1,e2⟩:=eg.1 (htok (true,(i,off+y.1),y.2) (vaM _ (van.2 ⟨y,hy,rfl⟩)) ⟨cs,own,hB,hm y hy⟩)
      rw[hB2]at e1;cases e1;exact e2
    refine fin (st':=⟨st.tmps.set d p,st.boxes.set i (.cells cs (own2.filter fun x=>!L.any fun y=>x.1==off+y.1)),(L.map fun y=>((d,y.1),y.2)).reverse++bI d st.own⟩)
      ⟨by rw[hd];exact⟨_,rfl,rfl⟩,fun _=>EE hB2,fun hc=>by simp[aG,bP,ho]at hc,?_,?_,fun k hk=>by rw[vaj (fun e=>by subst e;rw[hbb]at hk;cases hk)]⟩ ?_
    · rintro ⟨b,⟨t',k⟩,e'⟩ hr _ hh
      cases b with
      |false=>exact va0 _ (eE (cp.1 hh) fun hx=>hr (by simp only at hx;subst hx;simp[cR]))
      | true =>
        by_cases hi:i=t'
        · subst hi
          obtain⟨cs',own',e1,e2⟩:=eg.1 hh
          rw[hB2]at e1;cases e1
          refine⟨_,_,vaf (aj hB2),vaT.2 ⟨e2,?_⟩⟩
          simp only[vaW,vbw,vaP]
          intro y hy e
          exact hr (vaM _ (van.2 ⟨y,hy,by simp[cR,e]⟩))
        ·exact(ey hi).2 hh
    · rintro ⟨b,⟨t',k⟩,e'⟩ hr hh
      cases b with
      | false =>
        rcases vaR.1 (cp.1 hh)with hh|hh
        ·exact va3 _ hh
        · have h2:=(cV hh).2
          simp[cR]at hr
          exact absurd hr h2
      | true =>
        exfalso
        have hr2:(true,t',k)∈L.map fun y=>(true,i,off+y.1):=by simpa[cR]using hr
        obtain⟨y,hy,e⟩:=van.1 hr2
        simp only[Prod.mk.injEq,vcn]at e
        obtain⟨rfl,rfl⟩:=e
        obtain⟨cs',own',e1,e2⟩:=eg.1 hh
        simp only[vaf (aj hB),vao,aw.cells.injEq]at e1
        obtain⟨rfl,rfl⟩:=e1
        have:=(bX e2).2
        simp only[vaW,vbw,vaP]at this
        exact this y hy rfl
    · rcases hh with ⟨e,hT,hp,rfl⟩ | ⟨fs,l,hT,hp,rfl,hn,hl⟩
      · refine vC (K:=(· = _)) h ho hd (hdd d hd) hT hx' hB2 hp (hm2 _ (vb7 _)) ?_ Q
        simp only[vaQ,List.map_nil,vcw,List.reverse_nil,va7,List.singleton_append,aq.mk.injEq,vcn,vcB]
        congr 3
        funext z
        simp[bne]
      · refine wW h (K:=(· = _)) ?_ Q
        unfold CR
        simp only[ho,hd]
        exact⟨i,off,cs,own2,L,l,⟨fs,hT⟩,hx',hB2,hp,hm2,hn,hl,hdd d hd,rfl⟩
  | st T x y i off vs cs own hd ho hx hvs hB hp =>
    have hx':opv E.GE st.tmps x=.bptr i off:=(hopv x (by rw[ho];simp[Op.operands])).symm.trans hx
    have hy':opv E.GE s.tmps y=opv E.GE st.tmps y:=hopv y (by rw[ho];simp[Op.operands])
    rw[hy']at hvs hp
    obtain⟨bb,hbb⟩:=live hx'
    have hst:=hbx (by simp[aG,bP,ho])
    obtain⟨own2,hB2⟩:=rp hst hB
    have hp2:=yM hvs hB hp hB2
    refine fin (st':=⟨st.tmps,st.boxes.set i (.cells (cs.take off++vs++cs.drop (off+vs.length)) (own2.filter fun y=>y.1<off||off+vs.length<=y.1)),st.own⟩)
      ⟨by rw[hd];exact⟨rfl,rfl⟩,fun hc=>absurd (by simp[aG,bP,ho]) hc,fun _=>rR hst rfl,?_,?_,fun k hk=>by rw[vaj (fun e=>by subst e;rw[hbb]at hk;cases hk)]⟩ ?_
    · rintro ⟨b,⟨t',k⟩,e'⟩ hr _ hh
      cases b with
      |false=>exact hh
      | true =>
        by_cases hi:i=t'
        · subst hi
          obtain⟨cs',own',e1,e2⟩:=eg.1 hh
          rw[hB2]at e1;cases e1
          refine⟨_,_,vaf (aj hB2),vaT.2 ⟨e2,?_⟩⟩
          simp only[vaU,vap]
          by_cases h1:k<off
          ·exact .inl h1
          ·exact .inr (vbP fun h2=>hr (lZ.2 ⟨rfl,by simp only;omega,by simp only;omega⟩))
        ·exact(ey hi).2 hh
    · rintro ⟨b,⟨t',k⟩,e'⟩ hr hh
      cases b with
      |false=>simp[cR,rH]at hr
      | true =>
        exfalso
        obtain⟨rfl,h1,h2⟩:=lZ.1 hr
        obtain⟨cs',own',e1,e2⟩:=eg.1 hh
        simp only[vaf (aj hB),vao,aw.cells.injEq]at e1
        obtain⟨rfl,rfl⟩:=e1
        have:=(bX e2).2
        simp only[vaU,vap]at this
        simp only at h1 h2
        omega
    · refine ew.of h hid' (by simp [jF,ho]) ?_ Q
      unfold Eu
      rw[ho]
      simp only[lX,hx',hp2,vad]
      rw[hd];rfl
  | sto T x t i off vs cs own L hd ho hx hvs hB hp hk hm hn hl =>
    have hx':opv E.GE st.tmps x=.bptr i off:=(hopv x (by rw[ho];simp[Op.operands])).symm.trans hx
    have hy':s.tmps.getD t .undef=st.tmps.getD t .undef:=hopv (.tmp t) (by rw[ho];simp[Op.operands])
    rw[hy']at hvs hp hk
    obtain⟨bb,hbb⟩:=live hx'
    have hst:=hbx (by simp[aG,bP,ho])
    obtain⟨own2,hB2⟩:=rp hst hB
    have hp2:=yM hvs hB hp hB2
    have hm2:∀y∈L,((t,y.1),y.2)∈st.own:=fun y hy=>htok (false,(t,y.1),y.2) (by simp[cR]) (hm y hy)
    have hset:=vaf (a:=aw.cells (cs.take off++vs++cs.drop (off+vs.length)) (own2.filter fun y=>y.1<off||off+vs.length<=y.1)) (aj hB2)
    refine fin (st':=⟨st.tmps,st.boxes.set i (.cells (cs.take off++vs++cs.drop (off+vs.length)) ((L.map fun y=>(off+y.1,y.2)).reverse++own2.filter fun y=>y.1<off||off+vs.length<=y.1)),st.own.filter fun x=>!L.any fun y=>x.1==(t,y.1)⟩)
      ⟨by rw[hd];exact⟨rfl,rfl⟩,fun hc=>absurd (by simp[aG,bP,ho]) hc,fun _=>rR hst rfl,?_,?_,fun k hk=>by rw[vaj (fun e=>by subst e;rw[hbb]at hk;cases hk)]⟩ ?_
    · rintro ⟨b,⟨t',k⟩,e'⟩ hr _ hh
      cases b with
      | false =>
        refine vaT.2 ⟨cp.1 hh,?_⟩
        simp only[vaW,vbw,vaP,Prod.mk.injEq,not_and]
        intro y hy e
        exact absurd (by simp[cR,e]) hr
      | true =>
        by_cases hi:i=t'
        · subst hi
          obtain⟨cs',own',e1,e2⟩:=eg.1 hh
          rw[hB2]at e1;cases e1
          refine⟨_,_,vaf (aj hB2),va0 _ (vaT.2 ⟨e2,?_⟩)⟩
          simp only[vaU,vap]
          by_cases h1:k<off
          ·exact .inl h1
          ·exact .inr (vbP fun h2=>hr (vaM _ (lZ.2 ⟨rfl,by simp only;omega,by simp only;omega⟩)))
        ·exact(ey hi).2 hh
    · rintro ⟨b,⟨t',k⟩,e'⟩ hr hh
      cases b with
      | false =>
        obtain⟨h1,h2⟩:=bX (cp.1 hh)
        exact vaT.2 ⟨htok (false,(t',k),e') hr h1,h2⟩
      | true =>
        have hr2:(true,t',k)∈rH i off vs.length:=by simpa[cR]using hr
        obtain⟨rfl,h1,h2⟩:=lZ.1 hr2
        obtain⟨cs',own',e1,e2⟩:=eg.1 hh
        simp only[vaf (aj hB),vao,aw.cells.injEq]at e1
        obtain⟨rfl,rfl⟩:=e1
        rcases vaR.1 e2 with e2|e2
        ·exact⟨_,_,vaf (aj hB2),va3 _ e2⟩
        · exfalso
          have:=(bX e2).2
          simp only[vaU,vap]at this
          omega
    · rcases hk with ⟨l,hl⟩ | ⟨hone,e,rfl⟩
      · refine wW h (K:=(· = _)) ?_ Q
        unfold CR
        simp only[ho,hd]
        refine⟨i,off,_,_,_,L,l,hx',hl,by rw[<-hl];exact hp2,hset,hm2,hn,?_⟩
        rw[vbN]
      · refine uh (K:=(· = _)) h ho hx' (by rw [hx']; exact hp2) hset hone (hm2 _ (vb7 _)) ?_ Q
        rw[hd,vbN]
        simp only[pM,vaQ,List.map_nil,vcw,List.reverse_nil,va7,List.singleton_append,aq.mk.injEq,vcn,Nat.add_zero]
        congr 1
        funext z
        simp[bne]
  | mu t m k x H hd ho hp =>
    have hst:=hbx (by simp[aG,bP,ho])
    have o1:opv E.GE s.tmps m=opv E.GE st.tmps m:=hopv m (by rw[ho];simp[Op.operands])
    have o2:opv E.GE s.tmps k=opv E.GE st.tmps k:=hopv k (by rw[ho];simp[Op.operands])
    have o3:opv E.GE s.tmps x=opv E.GE st.tmps x:=hopv x (by rw[ho];simp[Op.operands])
    rw[o1,o2,o3]at hp
    obtain⟨i,es',hmi,rfl,hp2⟩:=DQ hst hp
    have hlive:∃b,bs[i]? =some (some b):=by
      have hv:=h.opv a.defers m
      rw[hmi]at hv
      generalize (Act.mk a.tmps a.defers).eval m=vx at hv
      cases hv with
      |mapr _ b hb=>exact⟨b,hb⟩
    obtain⟨bb,hbb⟩:=hlive
    obtain⟨i2,es,es2,hB,he2⟩:=tN hp2
    refine fin (st':=⟨st.tmps,st.boxes.set i (.map es'),st.own⟩) ⟨by rw[hd];exact⟨rfl,rfl⟩,fun hc=>absurd (by simp[aG,bP,ho]) hc,fun _=>rR hst rfl,?_,?_,fun k hk=>by rw[vaj (fun e=>by subst e;rw[hbb]at hk;cases hk)]⟩ ?_
    · rintro ⟨b,⟨t',k'⟩,e'⟩ hr _ hh
      cases b with
      |false=>exact hh
      | true =>
        obtain⟨cs',own',e1,e2⟩:=eg.1 hh
        have hne:i2≠t':=fun e=>by subst e;rw[hB]at e1;cases e1
        rw[he2]
        exact(ey hne).2 hh
    · intro τ hr
      simp at hr
    · refine ew.of h hid' (by simp [jF,ho]) ?_ Q
      unfold Eu
      rw[ho]
      simp only[lX,hp2,vad]
      rw[hd];rfl
  | callR d f args tys r ro oa ho hd hg =>
    have hop:∀x,x=f\/x∈args.toList->opv E.GE s.tmps x=opv E.GE st.tmps x:=fun x hx=>hopv x (by rw[ho];simp[Op.operands,Call.operands];simpa using hx)
    have hown:∀x∈oa,((x.t,x.k),x.e)∈s.own->((x.t,x.k),x.e)∈st.own:=fun x hx hm=>htok (false,(x.t,x.k),x.e) (vaM _ (van.2 ⟨x,hx,rfl⟩)) hm
    refine fin (st':=⟨st.tmps.set d r,st.boxes,(ro.map fun x=>((d,x.1),x.2))++bI d (st.own.filter fun z=>!oa.any fun x=>z.1==(x.t,x.k))⟩) ⟨by rw[hd];exact⟨_,rfl,rfl⟩,fun _=>rfl,fun hc=>by simp[aG,ho]at hc,?_,?_,fun _ _=>rfl⟩ (Aq (K:=(·=_)) h ho hd (hdd d hd) (hg st hop hown) rfl Q)
    · rintro ⟨b,⟨t',k⟩,e'⟩ hr _ hh
      cases b with
      |true=>exact hh
      | false =>
        simp only[cR,vaD,Prod.mk.injEq,vcn,vcB,van,not_or,not_exists,not_and]at hr
        refine va0 _ (eE (vaT.2 ⟨cp.1 hh,?_⟩) hr.1)
        simp only[vaW,vbw,vaP,Prod.mk.injEq,not_and]
        exact fun x hx e=>absurd e.symm (hr.2 x hx)
    · rintro ⟨b,⟨t',k⟩,e'⟩ hr hh
      cases b with
      |true=>simp[cR]at hr
      | false =>
        rcases vaR.1 (cp.1 hh)with hh|hh
        ·exact va3 _ hh
        · obtain ⟨h1,h2⟩:=cV hh
          obtain⟨h3,h4⟩:=bX h1
          have h5:((t',k),e')∈st.own:=htok (false,(t',k),e') hr h3
          exact va0 _ (eE (vaT.2 ⟨h5,h4⟩) h2)
  | cl d i f x tys g e es ho hd hb hf hx hC h0 h1 h2 =>
    have hop:∀y,y=f\/y=x->opv E.GE s.tmps y=opv E.GE st.tmps y:=fun y hy=>hopv y (by rw[ho];simp[Op.operands,Call.operands];exact hy)
    rw[hop f (.inl rfl)]at hf
    rw[hop x (.inr rfl)]at hx
    obtain⟨hbs,hBx⟩:=hbi i _ hb
    have hvf:=h.opv a.defers f
    have hvx:=h.opv a.defers x
    rw[hf]at hvf
    rw[hx]at hvx
    change VR Γ bs w _ (a.eval f)at hvf
    change VR Γ bs w _ (a.eval x)at hvx
    generalize hev:a.eval f=vf at hvf
    cases hvf with
    |func _ _ _ fs cs hl hl' k1 k2=>
    have hfs:fs=#[]:=vaO (by simpa using hl)
    have hcs:cs=#[]:=vaO (by simpa using hl')
    subst hfs;subst hcs
    have hrun:(execOp a.eval o).run P w=.ok (.enter g #[a.eval x]) w:=by
      simp[execOp,ho,resolve,hev,Deferred.ofValue,invoke,hC.1]
    unfold Oper.wp
    rw[hrun,Oper.upon_enter]
    refine(He h hbs hBx hC hvx h0 h1 h2).mono fun r w' hr=>?_
    obtain⟨v',xb,rfl,hS,hv'⟩:=hr
    have g1:=hS.set (d:=d) hv'
    have hput:(a.put o.dst v').tmps=a.tmps.setIfInBounds d v':=by rw[hd];rfl
    rw[<-hput]at g1
    refine⟨ck _ _ _,Γ,_,ow,⟨st.tmps.set d (.bsl i 0 es.length),st.boxes,bI d st.own⟩,g1,⟨by rw[hd];exact⟨_,rfl,rfl⟩,fun _=>rfl,fun hc=>by simp[aG,ho]at hc,Cq (L:=[]) (by simp),Hn (L:=[]),fun _ _=>rfl⟩,.inr (.inr ⟨i,_,xb,hb,rfl⟩)⟩
  | stR T x y i off cs cs' hd ho hx hB hp hi =>
    have hx':opv E.GE st.tmps x=.bptr i off:=(hopv x (by rw[ho];simp[Op.operands])).symm.trans hx
    have hy':opv E.GE s.tmps y=opv E.GE st.tmps y:=hopv y (by rw[ho];simp[Op.operands])
    rw[hy']at hp
    obtain⟨bb,hbb⟩:=live hx'
    have hst:=hbx (by simp[aG,bP,ho])
    obtain⟨own2,hB2⟩:=rp hst hB
    obtain⟨own',hp2⟩:=HF hp hB2
    refine fin (st':=⟨st.tmps,st.boxes.set i (.cells cs' own'),st.own⟩)
      ⟨by rw[hd];exact⟨rfl,rfl⟩,fun hc=>absurd (by simp[aG,bP,ho]) hc,fun _=>rR hst rfl,?_,fun τ hr=>by simp at hr,fun k hk=>by rw[vaj (fun e=>by subst e;rw[hbb]at hk;cases hk)]⟩ ?_
    · rintro ⟨b,⟨t',k⟩,e'⟩ hr hn hh
      cases b with
      |false=>exact hh
      |true=>exact(ey (fun e=>hn rfl (by subst e;exact hi))).2 hh
    · refine ew.of h hid' (by simp [jF,ho]) ?_ Q
      unfold Eu
      rw[ho]
      simp only[lX,hx',hp2,vad]
      rw[hd];rfl
end
end
end Go.Proofs.YtggeppllafbidaaGreatDoor
