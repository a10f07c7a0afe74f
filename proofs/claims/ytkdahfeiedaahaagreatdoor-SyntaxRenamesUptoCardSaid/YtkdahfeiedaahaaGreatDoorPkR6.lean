/- PROVED: a part of the proof. Conditions: none. -/
import Derived.Test.YtkdahfeiedaahaaGreatDoorPkR3
import Derived.Test.YtkdahfeiedaahaaGreatDoorPkR4
set_option linter.unusedSimpArgs false
set_option linter.unusedVariables false
noncomputable section
namespace Go.Proofs.YtkdahfeiedaahaaGreatDoor
open Go
abbrev Rs:=Bool×Nat×Nat
abbrev S9:=Bool×(Nat×Nat)×TypeId
def cJ(τ:S9):Rs:=match τ.1 with
 |false=>(false,τ.2.1.1,0)
 |true=>(true,τ.2.1.1,τ.2.1.2)
def g9(st:aB)(τ:S9):Prop:=match τ.1 with
 |false=>(τ.2.1,τ.2.2)∈st.own
 |true=>∃cs own,st.boxes[τ.2.1.1]? =some (.cells cs own)/\(τ.2.1.2,τ.2.2)∈own
def aL:aA->aA
 |.cells cs _=>.cells cs []
 |B=>B
theorem Py{H H2:List aA}(h:H2.map aL=H.map aL)(i:Nat):(H2[i]?).map aL=(H[i]?).map aL:=by
 have:=vbd (λl=>l[i]?) h
 simpa[vav]using this
theorem yd{H H2:List aA}(h:H2.map aL=H.map aL){i:Nat}{cs:List PVal}{own:List (Nat×TypeId)}(hi:H[i]? =some (.cells cs own)):∃own2,H2[i]? =some (.cells cs own2):=by
 have:=Py h i
 rw[hi]at this
 cases hB:H2[i]? with
 |none=>rw[hB]at this;cases this
 |some B=>
  rw[hB]at this
  cases B<;>simp[aL]at this
  subst this
  exact⟨_,rfl⟩
section
variable{P:Program}{GE:List (Nat×List PVal)}
theorem Rd{t:TypeId}{x:PVal}{H H2:List aA}(h:H2.map aL=H.map aL):jx P t x H2=jx P t x H:=by
 unfold jx
 split
 ·rfl
 ·rename_i i off
  have hi:=Py h i
  generalize H2[i]? =o at hi
  generalize H[i]? =o' at hi
  rcases o with _|(_|_|_)<;>rcases o' with _|(_|_|_)<;>simp[aL]at hi ⊢
  subst hi;rfl
 ·rfl
theorem SI{t:TypeId}{x:PVal}{H H2:List aA}(h:H2.map aL=H.map aL):AL P t x H2=AL P t x H:=by
 unfold AL
 split<;>first|rfl|skip
 rename_i i _
 have hi:=Py h i
 generalize H2[i]? =o at hi
 generalize H[i]? =o' at hi
 rcases o with _|(_|_|_)<;>rcases o' with _|(_|_|_)<;>simp[aL]at hi ⊢
 subst hi;rfl
theorem Nk{t:TypeId}{m k:PVal}{ok:Bool}{H H2:List aA}(h:H2.map aL=H.map aL):uR P t m k ok H2=uR P t m k ok H:=by
 unfold uR
 split
 ·rename_i kt e i _
  have hi:=Py h i
  generalize H2[i]? =o at hi
  generalize H[i]? =o' at hi
  rcases o with _|(_|_|_)<;>rcases o' with _|(_|_|_)<;>simp[aL]at hi ⊢
  subst hi;rfl
 ·rfl
theorem qaG{op:Op}{id:Nat}{v:Operand->PVal}{H H2:List aA}{p:PVal}(hc:bY P op≠3)(hm:aE op=false)(h:oT P op id v H=some (p,H))(h2:2<=bY P op->H2.map aL=H.map aL):oT P op id v H2=some (p,H2):=by
 by_cases hlt:bY P op<2
 ·exact YH hlt hm h H2
 ·have hs:=h2 (by omega)
  have key:∀{q q':Option PVal},q'=q->(q.map λp=>(p,H))=some (p,H)->(q'.map λp=>(p,H2))=some (p,H2):=by
   intro q q' e hq
   obtain⟨z,hz,he⟩:=ef hq
   cases he
   rw[e,hz];rfl
  unfold oT at h ⊢
  split at h
  all_goals first
   |(cases h;done)
   |(simp[bY]at hlt;done)
   |(simp[bY]at hc;done)
   |(simp[aE]at hm;done)
   |exact key (Rd hs) h
   |exact key (Nk hs) h
   |exact key (SI hs) h
def bB(P:Program)(rw:List Nat)(o:Oper):Nat:=match o.op with
 |.call {callee:=.value _,..}=>if(o.dst.any λd=>rw.contains (8 * d+1))=true then 3 else 0
 |op=>bY P op
theorem E2{rw:List Nat}{o:Oper}(h:∀f args tys,o.op≠.call {callee:=.value f,args,argTypes:=tys}):bB P rw o=bY P o.op:=by
 unfold bB
 split
 ·rename_i hx;exact absurd hx (h _ _ _)
 ·rfl
def NQ:Op->Bool
 |.call {callee:=.value _,..}=>true
 |_=>false
def uU(i off n:Nat):List Rs:=(List.range n).map λk=>(true,i,off+k)
def DP(t:Nat):Operand->Bool
 |.tmp t'=>t'==t
 |_=>false
theorem NP{t:Nat}{x:Operand}(h:DP t x=true):x=.tmp t:=by
 cases x<;>simp[DP]at h
 rw[h]
def Rn(GE:List (Nat×List PVal))(tmps:List PVal)(parts:List (Nat×Operand))(t:Nat)(q:PVal):List (Nat×PVal):=parts.map λx=>(x.1,if DP t x.2=true then q else opv GE tmps x.2)
def qd3(P:Program)(T:TypeId)(F:PVal->List (Nat×PVal))(k:Nat):Prop:=∀(b:Option Addr) (n m:Nat),∃cs,dh P T (F (.val (.slice b n m)))=some (.agg cs)/\cs[k]? =some (.val (.slice b n m))
inductive gy(P:Program)(GE:List (Nat×List PVal))(bi:Option (Nat×aA))(rw:List Nat)(o:Oper)(id:Nat)(s:aB):aB->List Rs->Prop where
 | call (d:Nat) (f:Operand) (args:Array Operand) (tys:Array TypeId) (g:FuncId) (first cap:List PVal) (r:PVal) (ro:List (Nat×TypeId)) (ho:o.op = .call { callee := .value f,args,argTypes:=tys }) (hd:o.dst = some d)
   (hf:opv GE s.tmps f=.func (.func g) first cap) (hcl:gZ 0 (first++args.toList.map (opv GE s.tmps)++cap)) (hc:C P GE g (first++args.toList.map (opv GE s.tmps)++cap) [] [] r ro []):
   gy P GE bi rw o id s ⟨s.tmps.set d r,s.boxes,(ro.map λx=>((d,x.1),x.2))++bu d s.own⟩ [(false,d,0)]
 |alloc (d:Nat) (t:TypeId) (zs:List PVal) (ho:o.op=.alloc t) (hd:o.dst=some d) (hz:eD P t=some zs):gy P GE bi rw o id s ⟨s.tmps.set d (.bptr id 0),s.boxes,bu d s.own⟩ [(false,d,0)]
 |mkmap (d:Nat) (t:TypeId) (ho:o.op=.makeMap t none) (hd:o.dst=some d):gy P GE bi rw o id s ⟨s.tmps.set d (.mapr id),s.boxes,bu d s.own⟩ [(false,d,0)]
 | ev (d:Nat) (p:PVal) (hd:o.dst = some d) (hn:NQ o.op = false) (hm:aE o.op = false) (hc:bY P o.op ≠ 3) (h:oT P o.op id (opv GE s.tmps) s.boxes = some (p,s.boxes)) :
   gy P GE bi rw o id s ⟨s.tmps.set d p,s.boxes,bu d s.own⟩ [(false,d,0)]
 | res (d:Nat) (p:PVal) (L:List (Nat×TypeId)) (hd:o.dst = some d)
   (h:(∃T len parts e,o.op=.buildSlice T len parts/\eV P T len (parts.toList.map λx=>(x.1,opv GE s.tmps x.2))=some p/\P.underlying T=some (.slice e)/\L=[(0,e)])\/
    (∃T parts,o.op=.build T parts/\dh P T (parts.toList.map λx=>(x.1,opv GE s.tmps x.2))=some p/\FJ P T (parts.toList.map λx=>(x.1,opv GE s.tmps x.2)) L)\/
    (∃v e,(o.op=.assign (.const v)\/o.op=.move (.const v))/\rC P o.type v=some e/\p=.slice []/\L=[(0,e)])):
   gy P GE bi rw o id s ⟨s.tmps.set d p,s.boxes,(L.map λx=>((d,x.1),x.2))++bu d s.own⟩ [(false,d,0)]
 | app (d t:Nat) (T e:TypeId) (y:Operand) (es ns:List (List PVal)) (p:PVal) (hd:o.dst = some d) (ho:o.op = .call { callee := .builtin .append,args:=⟨[.tmp t,y]⟩,argTypes:=⟨[T,T]⟩ })
   (hT:P.underlying T=some (.slice e)) (he:s.tmps.getD t .undef=.slice es) (hn:opv GE s.tmps y=.slice ns) (hp:hO P T es ns=some p) (hm:((t,0),e)∈s.own):
   gy P GE bi rw o id s ⟨s.tmps.set d p,s.boxes,((d,0),e)::bu d (s.own.filter λx=>x.1 !=(t,0))⟩ [(false,d,0),(false,t,0)]
 | mv (d t:Nat) (hd:o.dst = some d) (ho:o.op = .assign (.tmp t)∨o.op = .move (.tmp t)) (hdt:d ≠ t) :
   gy P GE bi rw o id s ⟨s.tmps.set d (s.tmps.getD t .undef),s.boxes,gi d (λx=>if x.1=t then(d,x.2)else x) s.own⟩ [(false,d,0),(false,t,0)]
 | bmv (d t k:Nat) (T:TypeId) (parts:Array (Nat×Operand)) (p:PVal) (es:List (List PVal)) (hd:o.dst = some d) (ho:o.op = .build T parts) (hdt:d ≠ t) (ht:s.tmps.getD t .undef = .slice es) (hin:(parts.toList.any fun x => DP t x.2) = true)
   (hp:dh P T (parts.toList.map λx=>(x.1,opv GE s.tmps x.2))=some p) (hm:qd3 P T (Rn GE s.tmps parts.toList t) k):
   gy P GE bi rw o id s ⟨s.tmps.set d p,s.boxes,gi d (λx=>if x=(t,0)then(d,k)else x) s.own⟩ [(false,d,0),(false,t,0)]
 | ext (d t k:Nat) (p:PVal) (hd:o.dst = some d) (ho:o.op = .extract (.tmp t) k) (hdt:d ≠ t) (hp:nS (s.tmps.getD t .undef) k = some p) :
   gy P GE bi rw o id s ⟨s.tmps.set d p,s.boxes,gi d (λx=>if x=(t,k)then(d,0)else x) s.own⟩ [(false,d,0),(false,t,0)]
 | ld (d:Nat) (T:TypeId) (x:Operand) (i off:Nat) (cs:List PVal) (own L:List (Nat×TypeId)) (p:PVal) (hd:o.dst = some d) (ho:o.op = .load T x) (hx:opv GE s.tmps x = .bptr i off) (hB:s.boxes[i]? = some (.cells cs own))
   (h:(∃e,P.underlying T=some (.slice e)/\cs[off]? =some p/\L=[(0,e)])\/(∃fs l,P.underlying T=some (.struct fs)/\aY P T (cs.drop off)=some (.agg l)/\p=.agg l/\(L.map (·.1)).Nodup/\∀y∈L,y.1<l.length))
   (hm:∀y∈L,(off+y.1,y.2)∈own):
   gy P GE bi rw o id s ⟨s.tmps.set d p,s.boxes.set i (.cells cs (own.filter λx=>!L.any λy=>x.1==off+y.1)),(L.map λy=>((d,y.1),y.2)).reverse++bu d s.own⟩ ((false,d,0)::L.map λy=>(true,i,off+y.1))
 | st (T:TypeId) (x y:Operand) (i off:Nat) (vs cs:List PVal) (own:List (Nat×TypeId)) (hd:o.dst = none) (ho:o.op = .store T x y) (hx:opv GE s.tmps x = .bptr i off) (hvs:cj (opv GE s.tmps y) = some vs) (hB:s.boxes[i]? = some (.cells cs own))
   (hp:di P T (.bptr i off) (opv GE s.tmps y) s.boxes=some (s.boxes.set i (.cells (cs.take off++vs++cs.drop (off+vs.length)) (own.filter λy=>y.1<off||off+vs.length<=y.1)))):
   gy P GE bi rw o id s ⟨s.tmps,s.boxes.set i (.cells (cs.take off++vs++cs.drop (off+vs.length)) (own.filter λy=>y.1<off||off+vs.length<=y.1)),s.own⟩ (uU i off vs.length)
 | sto (T:TypeId) (x:Operand) (t i off:Nat) (vs cs:List PVal) (own L:List (Nat×TypeId)) (hd:o.dst = none) (ho:o.op = .store T x (.tmp t)) (hx:opv GE s.tmps x = .bptr i off) (hvs:cj (s.tmps.getD t .undef) = some vs) (hB:s.boxes[i]? = some (.cells cs own))
   (hp:di P T (.bptr i off) (s.tmps.getD t .undef) s.boxes=some (s.boxes.set i (.cells (cs.take off++vs++cs.drop (off+vs.length)) (own.filter λy=>y.1<off||off+vs.length<=y.1))))
   (hk:(∃l,s.tmps.getD t .undef=.agg l)\/((s.tmps.getD t .undef).one=true/\∃e,L=[(0,e)])) (hm:∀y∈L,((t,y.1),y.2)∈s.own) (hn:(L.map (·.1)).Nodup) (hl:∀y∈L,y.1<vs.length):
   gy P GE bi rw o id s ⟨s.tmps,s.boxes.set i (.cells (cs.take off++vs++cs.drop (off+vs.length)) ((L.map λy=>(off+y.1,y.2)).reverse++own.filter λy=>y.1<off||off+vs.length<=y.1)),s.own.filter λx=>!L.any λy=>x.1==(t,y.1)⟩
    ((false,t,0)::uU i off vs.length)
 |mu (t:TypeId) (m k x:Operand) (H:List aA) (hd:o.dst=none) (ho:o.op=.mapUpdate t m k x) (hp:gG P t (opv GE s.tmps m) (opv GE s.tmps k) (opv GE s.tmps x) s.boxes=some H):gy P GE bi rw o id s ⟨s.tmps,H,s.own⟩ []
 | callR (d:Nat) (f:Operand) (args:Array Operand) (tys:Array TypeId) (r:PVal) (ro:List (Nat×TypeId)) (oa:List OA) (ho:o.op = .call { callee := .value f,args,argTypes:=tys }) (hd:o.dst = some d)
   (hg:∀st:aB,(∀x,x=f\/x∈args.toList->opv GE s.tmps x=opv GE st.tmps x)->(∀x∈oa,((x.t,x.k),x.e)∈s.own->((x.t,x.k),x.e)∈st.own)->El P GE f args.toList st r ro st.boxes oa):
   gy P GE bi rw o id s ⟨s.tmps.set d r,s.boxes,(ro.map λx=>((d,x.1),x.2))++bu d (s.own.filter λz=>!oa.any λx=>z.1==(x.t,x.k))⟩ ((false,d,0)::oa.map λx=>(false,x.t,0))
 | cl (d i:Nat) (f x:Operand) (tys:Array TypeId) (g:FuncId) (e:TypeId) (es:List (List PVal)) (ho:o.op = .call { callee := .value f,args:=⟨[x]⟩,argTypes:=tys }) (hd:o.dst = some d) (hb:bi = some (i,.cells es.flatten []))
   (hf:opv GE s.tmps f=.func (.func g) [] []) (hx:opv GE s.tmps x=.slice es) (hC:qd P g e) (h0:0<P.cellsOf e) (h1:∀x∈es,x.length=P.cellsOf e/\∀q∈x,q.one=true) (h2:es.length<=bo):
   gy P GE bi rw o id s ⟨s.tmps.set d (.bsl i 0 es.length),s.boxes,bu d s.own⟩ [(false,d,0)]
 | apb (d t i:Nat) (T e:TypeId) (y:Operand) (ns:List (List PVal)) (p:PVal) (hd:o.dst = some d) (ho:o.op = .call { callee := .builtin .append,args:=⟨[.tmp t,y]⟩,argTypes:=⟨[T,T]⟩ }) (hb:bi = some (i,.cells ns.flatten []))
   (hT:P.underlying T=some (.slice e)) (he:s.tmps.getD t .undef=.slice []) (hn:opv GE s.tmps y=.slice ns) (hp:hO P T [] ns=some p) (hm:((t,0),e)∈s.own):
   gy P GE bi rw o id s ⟨s.tmps.set d (.bsl i 0 ns.length),s.boxes,bu d (s.own.filter λx=>x.1 !=(t,0))⟩ [(false,d,0),(false,t,0)]
 | stR (T:TypeId) (x y:Operand) (i off:Nat) (cs cs':List PVal) (hd:o.dst = none) (ho:o.op = .store T x y) (hx:opv GE s.tmps x = .bptr i off) (hB:s.boxes[i]? = some (.cells cs []))
   (hp:di P T (.bptr 0 off) (opv GE s.tmps y) [.cells cs []]=some [.cells cs' []]) (hi:2 * i∈rw):
   gy P GE bi rw o id s ⟨s.tmps,s.boxes.set i (.cells cs' []),s.own⟩ []
structure qcK(P:Program)(rw:List Nat)(o:Oper)(s s':aB)(rs:List Rs):Prop where
 tm:match o.dst with
  |some d=>∃p,s'.tmps=s.tmps.set d p
  |none=>s'.tmps=s.tmps
 bx:bB P rw o≠3->s'.boxes.map aL=s.boxes.map aL
 back:∀τ,cJ τ∉rs->g9 s' τ->g9 s τ
theorem Oi{H:List aA}{i:Nat}{cs:List PVal}{own own':List (Nat×TypeId)}(hB:H[i]? =some (.cells cs own)):(H.set i (.cells cs own')).map aL=H.map aL:=by
 apply vbf
 intro j
 simp only[vav]
 by_cases hj:i=j
 ·subst hj
  rw[vae (aq hB),hB];rfl
 ·rw[vai hj]
theorem bT{st:aB}{t k:Nat}{e:TypeId}:g9 st (false,(t,k),e)↔((t,k),e)∈st.own:=Iff.rfl
theorem dK{st:aB}{i j:Nat}{e:TypeId}:g9 st (true,(i,j),e)↔∃cs own,st.boxes[i]? =some (.cells cs own)/\(j,e)∈own:=Iff.rfl
theorem p9{i off n i' j':Nat}:(true,i',j')∈uU i off n↔i'=i/\off<=j'/\j'<off+n:=by
 unfold uU
 simp only[vag,vbw,Prod.mk.injEq,vcj]
 constructor
 ·rintro⟨k,hk,rfl,rfl⟩;exact⟨rfl,by omega,by omega⟩
 ·rintro⟨rfl,h1,h2⟩;exact⟨j' - off,by omega,rfl,by omega⟩
theorem da{d:Nat}{own:List ((Nat×Nat)×TypeId)}{x:(Nat×Nat)×TypeId}(h:x∈own)(hd:x.1.1≠d):x∈bu d own:=by
 unfold bu;exact va1.2 ⟨h,by simpa using hd⟩
theorem AN{t:TypeId}{m k v:PVal}{H H':List aA}(h:gG P t m k v H=some H'):∃i es es',H[i]? =some (.map es)/\H'=H.set i (.map es'):=by
 unfold gG at h
 split at h
 ·rename_i kt e i _ _
  split at h
  ·rename_i es kd hB _
   split at h
   ·split at h
    ·cases h;exact⟨_,es,_,hB,rfl⟩
    ·cases h;exact⟨_,es,_,hB,rfl⟩
    ·cases h
   ·cases h
  ·cases h
 ·cases h
theorem gn{st:aB}{tm:List PVal}{ow:List ((Nat×Nat)×TypeId)}{i:Nat}{B:aA}{i' j':Nat}{e:TypeId}(hne:i≠i'):g9 ⟨tm,st.boxes.set i B,ow⟩ (true,(i',j'),e)↔g9 st (true,(i',j'),e):=by
 simp only[dK,vai hne]
theorem gy.eff{bi:Option (Nat×aA)}{rw:List Nat}{o:Oper}{id:Nat}{s s':aB}{rs:List Rs}(h:gy P GE bi rw o id s s' rs):qcK P rw o s s' rs:=by
 have slot:∀{d:Nat} {p:PVal} {L:List (Nat×TypeId)} {rs:List Rs} {τ:S9},(false,d,0)∈rs->cJ τ∉rs->g9 ⟨s.tmps.set d p,s.boxes,(L.map λx=>((d,x.1),x.2))++bu d s.own⟩ τ->g9 s τ:=by
  rintro d p L rs ⟨b,⟨t,k⟩,e⟩ hd hr hh
  cases b with
  |true=>exact hh
  | false =>
   rcases vaw.1 (bT.1 hh)with hh|hh
   ·simp only[vag,Prod.mk.injEq]at hh
    obtain⟨x,_,⟨rfl,_⟩,_⟩:=hh
    exact absurd hd hr
   ·exact(cE hh).1
 have slot0:∀{d:Nat} {p:PVal} {rs:List Rs} {τ:S9},(false,d,0)∈rs->cJ τ∉rs->g9 ⟨s.tmps.set d p,s.boxes,bu d s.own⟩ τ->g9 s τ:=λ{d p rs τ} hd hr hh=>slot (L:=[]) hd hr hh
 cases h with
 |call d f args tys g first cap r ro ho hd hf hcl hc=>exact⟨by rw[hd];exact⟨r,rfl⟩,λ_=>rfl,λτ hr hh=>slot (by simp) hr hh⟩
 |alloc d t zs ho hd hz=>exact⟨by rw[hd];exact⟨_,rfl⟩,λ_=>rfl,λτ hr hh=>slot0 (by simp) hr hh⟩
 |mkmap d t ho hd=>exact⟨by rw[hd];exact⟨_,rfl⟩,λ_=>rfl,λτ hr hh=>slot0 (by simp) hr hh⟩
 |ev d p hd hn hm hc h=>exact⟨by rw[hd];exact⟨_,rfl⟩,λ_=>rfl,λτ hr hh=>slot0 (by simp) hr hh⟩
 |res d p L hd h=>exact⟨by rw[hd];exact⟨_,rfl⟩,λ_=>rfl,λτ hr hh=>slot (by simp) hr hh⟩
 | app d t T e y es ns p hd ho hT he hn hp hm =>
  refine⟨by rw[hd];exact⟨_,rfl⟩,λ_=>rfl,?_⟩
  rintro⟨b,⟨t',k⟩,e'⟩ hr hh
  cases b with
  |true=>exact hh
  | false =>
   rcases vaB.1 (bT.1 hh)with hh|hh
   ·cases hh;exact absurd (by simp[cJ]) hr
   ·exact(bK (cE hh).1).1
 | mv d t hd ho hdt =>
  refine⟨by rw[hd];exact⟨_,rfl⟩,λ_=>rfl,?_⟩
  rintro⟨b,⟨t',k⟩,e'⟩ hr hh
  cases b with
  |true=>exact hh
  | false =>
   have hh:=bT.1 hh
   simp only[gi,vag]at hh
   obtain⟨⟨⟨t2,k2⟩,e2⟩,hx,he⟩:=hh
   simp only[Prod.mk.injEq]at he
   obtain⟨he,rfl⟩:=he
   split at he
   ·cases he;exact absurd (by simp[cJ]) hr
   ·cases he;exact(cE hx).1
 | bmv d t k T parts p es hd ho hdt ht hin hp hm =>
  refine⟨by rw[hd];exact⟨_,rfl⟩,λ_=>rfl,?_⟩
  rintro⟨b,⟨t',k'⟩,e'⟩ hr hh
  cases b with
  |true=>exact hh
  | false =>
   have hh:=bT.1 hh
   simp only[gi,vag]at hh
   obtain⟨⟨⟨t2,k2⟩,e2⟩,hx,he⟩:=hh
   simp only[Prod.mk.injEq]at he
   obtain⟨he,rfl⟩:=he
   split at he
   ·cases he;exact absurd (by simp[cJ]) hr
   ·cases he;exact(cE hx).1
 | ext d t k p hd ho hdt hp =>
  refine⟨by rw[hd];exact⟨_,rfl⟩,λ_=>rfl,?_⟩
  rintro⟨b,⟨t',k'⟩,e'⟩ hr hh
  cases b with
  |true=>exact hh
  | false =>
   have hh:=bT.1 hh
   simp only[gi,vag]at hh
   obtain⟨⟨⟨t2,k2⟩,e2⟩,hx,he⟩:=hh
   simp only[Prod.mk.injEq]at he
   obtain⟨he,rfl⟩:=he
   split at he
   ·cases he;exact absurd (by simp[cJ]) hr
   ·cases he;exact(cE hx).1
 | ld d T x i off cs own L p hd ho hx hB h hm =>
  refine⟨by rw[hd];exact⟨_,rfl⟩,λ_=>Oi hB,?_⟩
  rintro⟨b,⟨t',k⟩,e'⟩ hr hh
  cases b with
  | true =>
   by_cases hi:i=t'
   ·subst hi
    obtain⟨cs',own',h1,h2⟩:=dK.1 hh
    simp only[vae (aq hB),vax,aA.cells.injEq]at h1
    obtain⟨rfl,rfl⟩:=h1
    exact⟨_,_,hB,(bK h2).1⟩
   ·exact(gn hi).1 hh
  | false =>
   rcases vaw.1 (bT.1 hh)with hh|hh
   ·simp only[vbD,vag,Prod.mk.injEq]at hh
    obtain⟨y,_,⟨rfl,_⟩,_⟩:=hh
    exact absurd (by simp[cJ]) hr
   ·exact(cE hh).1
 | st T x y i off vs cs own hd ho hx hvs hB hp =>
  refine⟨by rw[hd],λhc=>absurd (by simp[bB,bY,ho]) hc,?_⟩
  rintro⟨b,⟨t',k⟩,e'⟩ hr hh
  cases b with
  |false=>exact hh
  | true =>
   by_cases hi:i=t'
   ·subst hi
    obtain⟨cs',own',h1,h2⟩:=dK.1 hh
    simp only[vae (aq hB),vax,aA.cells.injEq]at h1
    obtain⟨rfl,rfl⟩:=h1
    exact⟨_,_,hB,(bK h2).1⟩
   ·exact(gn hi).1 hh
 | sto T x t i off vs cs own L hd ho hx hvs hB hp hk hm hn hl =>
  refine⟨by rw[hd],λhc=>absurd (by simp[bB,bY,ho]) hc,?_⟩
  rintro⟨b,⟨t',k⟩,e'⟩ hr hh
  cases b with
  |false=>exact(bK (bT.1 hh)).1
  | true =>
   by_cases hi:i=t'
   ·subst hi
    obtain⟨cs',own',h1,h2⟩:=dK.1 hh
    simp only[vae (aq hB),vax,aA.cells.injEq]at h1
    obtain⟨rfl,rfl⟩:=h1
    rcases vaw.1 h2 with h2|h2
    ·simp only[vbD,vag,Prod.mk.injEq]at h2
     obtain⟨y,hy,rfl,_⟩:=h2
     refine absurd (vaZ _ (p9.2 ⟨rfl,?_,?_⟩)) hr
     ·simp
     ·have:=hl y hy;simp;omega
    ·exact⟨_,_,hB,(bK h2).1⟩
   ·exact(gn hi).1 hh
 | mu t m k x H hd ho hp =>
  refine⟨by rw[hd],λhc=>absurd (by simp[bB,bY,ho]) hc,?_⟩
  obtain⟨i,es,es',hB,rfl⟩:=AN hp
  rintro⟨b,⟨t',k⟩,e'⟩ hr hh
  cases b with
  |false=>exact hh
  | true =>
   by_cases hi:i=t'
   ·subst hi
    obtain⟨cs',own',h1,h2⟩:=dK.1 hh
    simp only[vae (aq hB),vax]at h1
    cases h1
   ·exact(gn hi).1 hh
 | callR d f args tys r ro oa ho hd hg =>
  refine⟨by rw[hd];exact⟨r,rfl⟩,λ_=>rfl,?_⟩
  rintro⟨b,⟨t',k⟩,e'⟩ hr hh
  cases b with
  |true=>exact hh
  | false =>
   rcases vaw.1 (bT.1 hh)with hh|hh
   ·simp only[vag,Prod.mk.injEq]at hh
    obtain⟨x,_,⟨rfl,_⟩,_⟩:=hh
    exact absurd (by simp[cJ]) hr
   ·exact(bK (cE hh).1).1
 |cl d i f x tys g e es ho hd hb hf hx hC h0 h1 h2=>exact⟨by rw[hd];exact⟨_,rfl⟩,λ_=>rfl,λτ hr hh=>slot0 (by simp) hr hh⟩
 |apb d t i T e y ns p hd ho hb hT he hn hp hm=>
  refine⟨by rw[hd];exact⟨_,rfl⟩,λ_=>rfl,?_⟩
  rintro⟨b,⟨t',k⟩,e'⟩ hr hh
  cases b with
  |true=>exact hh
  |false=>exact(bK (cE (bT.1 hh)).1).1
 | stR T x y i off cs cs' hd ho hx hB hp hi =>
  refine⟨by rw[hd],λhc=>absurd (by simp[bB,bY,ho]) hc,?_⟩
  rintro⟨b,⟨t',k⟩,e'⟩ hr hh
  cases b with
  |false=>exact hh
  | true =>
   by_cases hi':i=t'
   ·subst hi'
    obtain⟨cs1,oJ,k1,k2⟩:=dK.1 hh
    simp only[vae (aq hB),vax,aA.cells.injEq]at k1
    obtain⟨rfl,rfl⟩:=k1
    cases k2
   ·exact(gn hi').1 hh
theorem QL{H H2:List aA}(h:H2.map aL=H.map aL){i:Nat}{es:List (PVal×PVal)}(hi:H[i]? =some (.map es)):H2[i]? =some (.map es):=by
 have:=Py h i
 rw[hi]at this
 cases hB:H2[i]? with
 |none=>rw[hB]at this;cases this
 |some B=>
  rw[hB]at this
  cases B<;>simp[aL]at this
  subst this
  rfl
theorem yu{H H2:List aA}(h:H2.map aL=H.map aL){i:Nat}{B B2:aA}(hB:aL B2=aL B):(H2.set i B2).map aL=(H.set i B).map aL:=by
 rw[List.map_set,List.map_set,h,hB]
theorem Nl{t:TypeId}{m k v:PVal}{H H' H2:List aA}(hs:H2.map aL=H.map aL)(h:gG P t m k v H=some H'):∃i es',m=.mapr i/\H'=H.set i (.map es')/\gG P t m k v H2=some (H2.set i (.map es')):=by
 unfold gG at h ⊢
 split at h
 ·split at h
  ·rename_i es kd hB hk
   split at h
   ·rename_i hkk
    split at h
    ·rename_i hf;cases h;refine⟨_,_,rfl,rfl,?_⟩;simp only[QL hs hB,hk,vah hkk,hf]
    ·rename_i hf;cases h;refine⟨_,_,rfl,rfl,?_⟩;simp only[QL hs hB,hk,vah hkk,hf]
    ·cases h
   ·cases h
  ·cases h
 ·cases h
structure Vv(P:Program)(bs:be)(rw:List Nat)(o:Oper)(st st' s s':aB)(rs:List Rs):Prop where
 tm:match o.dst with
  |some d=>∃p,st'.tmps=st.tmps.set d p/\s'.tmps=s.tmps.set d p
  |none=>st'.tmps=st.tmps/\s'.tmps=s.tmps
 b1:bB P rw o≠3->st'.boxes.map aL=st.boxes.map aL
 b2:bB P rw o=3->st'.boxes.map aL=s'.boxes.map aL
 keep:∀τ,cJ τ∉rs->(τ.1=true->2 * τ.2.1.1∉rw)->g9 st τ->g9 st' τ
 got:∀τ,cJ τ∈rs->g9 s' τ->g9 st' τ
 un:∀i:Nat,bs[i]? =some none->st'.boxes[i]? =st.boxes[i]?
theorem Ik{st:aB}{tm:List PVal}{d:Nat}{L:List (Nat×TypeId)}{rs:List Rs}{R:S9->Prop}(hd:(false,d,0)∈rs)(τ:S9)(hr:cJ τ∉rs)(_:R τ)(h:g9 st τ):g9 ⟨tm,st.boxes,(L.map λx=>((d,x.1),x.2))++bu d st.own⟩ τ:=by
 obtain⟨b,⟨t,k⟩,e⟩:=τ
 cases b with
 |true=>exact h
 |false=>exact vaU _ (da (bT.1 h) λhx=>by simp only at hx;subst hx;exact hr hd)
theorem QN{st s:aB}{tm tm':List PVal}{d:Nat}{L:List (Nat×TypeId)}(τ:S9)(hr:cJ τ∈[(false,d,0)])(h:g9 ⟨tm',s.boxes,(L.map λx=>((d,x.1),x.2))++bu d s.own⟩ τ):g9 ⟨tm,st.boxes,(L.map λx=>((d,x.1),x.2))++bu d st.own⟩ τ:=by
 obtain⟨b,⟨t,k⟩,e⟩:=τ
 cases b with
 |true=>simp[cJ]at hr
 | false =>
  rcases vaw.1 (bT.1 h)with h|h
  ·exact va9 _ h
  ·have:=(cE h).2
   simp[cJ]at hr
   exact absurd hr this
section
variable{E:lh}{Γ:aP}{bs:be}{ow:Nat->Option iL}{w:World}{a:Act}{st:aB}
theorem FP{T:TypeId}{i off:Nat}{y:PVal}{vs cs:List PVal}{own:List (Nat×TypeId)}{H H':List aA}(hvs:cj y=some vs)(hB:H[i]? =some (.cells cs own))(hp:di P T (.bptr i off) y H=some H'){H2:List aA}{own2:List (Nat×TypeId)}(hB2:H2[i]? =some (.cells cs own2)):di P T (.bptr i off) y H2=some (H2.set i (.cells (cs.take off++vs++cs.drop (off+vs.length)) (own2.filter λy=>y.1<off||off+vs.length<=y.1))):=by
 simp only[di,hvs,hB]at hp
 simp only[di,hvs,hB2]
 split at hp
 ·rename_i hc;rw[vah hc]
 ·cases hp
theorem SO{T:TypeId}{i off:Nat}{y:PVal}{cs cs':List PVal}{own2:List (Nat×TypeId)}{H:List aA}(hp:di P T (.bptr 0 off) y [.cells cs []]=some [.cells cs' []])(hB:H[i]? =some (.cells cs own2)):∃own',di P T (.bptr i off) y H=some (H.set i (.cells cs' own')):=by
 unfold di at hp ⊢
 split at hp
 ·rename_i i' off' vs h1 h2
  cases h1
  simp only[List.getElem?_cons_zero]at hp
  simp only[h2,hB]
  split at hp
  ·rename_i hc
   rw[vah hc]
   simp only[List.set_cons_zero,vax,vbN,aA.cells.injEq,vci]at hp
   obtain⟨rfl,_⟩:=hp
   exact⟨_,rfl⟩
  ·cases hp
 ·cases hp
theorem SR.fillBox{a:Array Value}(h:SR P E Γ bs ow w a st){i:Nat}(hid:bs[i]? =some none){cs:List PVal}(hB:st.boxes[i]? =some (.cells cs []))(hno:Fx cs=true)(xb:Option Nat)
  (hx:∀b,xb=some b->(∃cur t,w.heap[b]? =some (.cells cur t (0,0))/\cs.length<=cur.size/\∀(j:Nat) p v,cs[j]? =some p->cur[j]? =some v->VR Γ bs w p v)/\Γ b=none/\(E.T b\/E.w.heap.size<=b)/\∀i:Nat,bs[i]? ≠some (some b)):
  SR P E Γ (bs.set i xb) ow w a st:=by
 have hs:bs.Sub (bs.set i xb):=λj b hb=>AQ hid hb
 have hlt:i<bs.length:=aq hid
 have hcase:∀{j b:Nat},(bs.set i xb)[j]? =some (some b)->(j=i/\xb=some b)\/(j≠i/\bs[j]? =some (some b)):=by
  intro j b hb
  by_cases hj:j=i
  ·subst hj
   rw[vae hlt]at hb
   exact .inl ⟨rfl,by simpa using hb⟩
  ·rw[vai (λe=>hj e.symm)]at hb
   exact .inr ⟨hj,hb⟩
 exact{h with
  tm:=λt p v hp hv=>(h.tm t p v hp hv).mono (.refl _ _) hs
  bl:=by simp[h.bl]
  bx:=λj b B hb hB'=>by
   rcases hcase hb with⟨rfl,hb'⟩|⟨hj,hb'⟩
   ·obtain⟨⟨cur,t,k1,k2,k3⟩,k4,k5,k6⟩:=hx b hb'
    rw[hB]at hB'
    cases hB'
    exact⟨k4,(vaj.1 k1).1,cur,t,k1,k2,λj p v hp hv=>(k3 j p v hp hv).mono (.refl _ _) hs,HB hno _ _⟩
   ·obtain⟨h1,h2,h3⟩:=h.bx j b B hb' hB'
    exact⟨h1,h2,h3.mono (.refl _ _) hs rfl⟩
  inj:=λj k b hj hk=>by
   rcases hcase hj with⟨rfl,hj'⟩|⟨_,hj'⟩<;>rcases hcase hk with⟨rfl,hk'⟩|⟨_,hk'⟩
   ·rfl
   ·exact absurd hk' ((hx b hj').2.2.2 k)
   ·exact absurd hj' ((hx b hk').2.2.2 j)
   ·exact h.inj j k b hj' hk'
  bn:=λj b hb=>by
   rcases hcase hb with⟨rfl,hb'⟩|⟨_,hb'⟩
   ·exact(hx b hb').2.2.1
   ·exact h.bn j b hb'
  ob:=λj k e cs' own b hB' hj hb=>by
   rcases hcase hb with⟨rfl,hb'⟩|⟨_,hb'⟩
   ·rw[hB]at hB'
    cases hB'
    simp at hj
   ·exact h.ob j k e cs' own b hB' hj hb'
  gl:=λg cs hg=>(h.gl g cs hg).mono (.refl _ _) hs}
theorem Si{a:Array Value}(h:SR P E Γ bs ow w a st){i:Nat}(hid:bs[i]? =some none){ns:List (List PVal)}(hB:st.boxes[i]? =some (.cells ns.flatten [])){f:FuncId}{e:TypeId}{x:Value}(hC:qd P f e)(hx:VR Γ bs w (.slice ns) x)(hsz0:0<P.cellsOf e)(hns1:∀x∈ns,x.length=P.cellsOf e/\∀q∈x,q.one=true)(hlen:ns.length<=bo):Calls P f #[x] w λr w'=>∃v' xb,r=.returned v'/\SR P E Γ (bs.set i xb) ow w' a st/\VR Γ (bs.set i xb) w' (.bsl i 0 ns.length) v':=by
 obtain⟨news,hnx,hnl,hn1,hnv⟩:=JU hx hsz0 hns1
 refine(hC.2 w x ns.length news hnx hnl hn1 hlen).mono λr w' hr=>?_
 obtain⟨v',rfl,hown,hb,hbd⟩:=hr
 obtain⟨hle,hS⟩:=An h hb hbd
 rcases hown.2 with⟨rfl,hn⟩|⟨g,cap,cur,rfl,hge,hheap,hnc,hcm,hcs,htake⟩
 ·have hns0:ns=[]:=vat hn
  subst hns0
  exact⟨_,none,rfl,hS.fillBox hid hB (na hns1) none (λb hb=>by cases hb),.bsl _ _ _ _ _ (vaN _) (λ_=>rfl) (.inl rfl)⟩
 ·refine⟨_,some g,rfl,hS.fillBox hid hB (na hns1) (some g) (λb hb'=>?_),?_⟩
  ·cases hb'
   refine⟨⟨cur,e,hheap,BY hsz0 (λx hx=>(hns1 x hx).1) λi x k q hx hq=>?_⟩,?_,.inr (vaH h.step.size hge),λi hi=>?_⟩
   ·obtain⟨u,k1,k2⟩:=hnv i x k q hx hq
    refine⟨u,?_,k2.mono hle (.refl _)⟩
    have hlt:=aq k1
    rw[<-htake,vap (by omega)]at k1
    simpa using k1
   ·cases hg:Γ g with
    |none=>rfl
    |some m=>exact absurd (h.lt_of_ghost hg) (by omega)
   ·have:=(h.bx i g (st.boxes[i]'(by rw[<-h.bl];exact aq hi)) hi (by simp)).2.1
    omega
  ·exact .bsl _ _ _ _ _ hnc (λh=>by cases h) (.inr ⟨g,rfl,vae (aq hid)⟩)
theorem U9{es:List (List PVal)}{u:Value}(h:VR Γ bs w (.slice es) u):∃b n m,u=.slice b n m:=by
 cases h<;>exact⟨_,_,_,rfl⟩
theorem MZ(h:SR P E Γ bs ow w a.tmps st){o:Oper}{id d t k:Nat}{T:TypeId}{parts:Array (Nat×Operand)}{p:PVal}{es:List (List PVal)}{K:aB->Prop}(ho:o.op=.build T parts)(hdst:o.dst=some d)(hd:d<st.tmps.length)(hg:st.tmps.getD t .undef=.slice es)
  (hp:dh P T (parts.toList.map λx=>(x.1,opv E.GE st.tmps x.2))=some p) (hm:qd3 P T (Rn E.GE st.tmps parts.toList t) k)
  (hK:K ⟨st.tmps.set d p,st.boxes,gi d (λx=>if x=(t,0)then(d,k)else x) st.own⟩) (Q:Exit->Act->World->Prop):
  o.wp P a w (fP P E bs id (aE o.op) a.defers K) Q:=by
 have hρ:∀x,VR Γ bs w (opv E.GE st.tmps x) (a.eval x):=λx=>h.opv a.defers x
 obtain⟨k1,k2⟩:=wU hρ parts.toList
 obtain⟨v,r1,r2⟩:=yi k1 k2 hp
 have hu:VR Γ bs w (.slice es) (a.eval (.tmp t)):=by
  have:=hρ (.tmp t)
  rwa[show opv E.GE st.tmps (.tmp t)=st.tmps.getD t .undef from rfl,hg]at this
 obtain⟨b,n,m,hu⟩:=U9 hu
 obtain⟨cs,hcs,hck⟩:=hm b n m
 have hρ2:∀x:Operand,VR Γ bs w (if DP t x=true then .val (.slice b n m)else opv E.GE st.tmps x) (a.eval x):=λx=>by
  split
  ·rename_i hx
   rw[NP hx,hu]
   exact .val _
  ·exact hρ x
 obtain⟨l1,l2⟩:=wU (v:=λx=>if DP t x=true then .val (.slice b n m)else opv E.GE st.tmps x) hρ2 parts.toList
 obtain⟨v2,s1,s2⟩:=yi l1 l2 hcs
 rw[r1]at s1
 cases s1
 have hrun:(execOp a.eval o).run P w=.ok (.value v) w:=by
  have:(parts.map λx=>(x.1,a.eval x.2))=(parts.toList.map λx=>(x.1,a.eval x.2)).toArray:=by apply vbO;simp
  simp only[execOp,ho]
  rw[this]
  simp[r1]
 unfold Oper.wp
 rw[hrun,Oper.upon_value]
 have hpv:jU v k=some (.slice b n m):=by
  cases s2 with
  |agg _ vs hl hv=>
   have hlt:k<vs.size:=by rw[hl];exact aq hck
   have:=hv k _ vs[k] hck (by simp[hlt])
   show vs[k]? =_
   rw[vaE hlt]
   generalize vs[k]=q at this
   cases this
   rfl
 have:=h.setRen (d:=d) (p:=p) r2 (λx=>if x=(t,0)then(d,k)else x) (by rw[h.sz];exact hd) λt' k' e' _ ht'=>by
  by_cases hx:((t',k'):Nat×Nat)=(t,0)
  ·cases hx
   refine .inr ⟨k,by simp,λu v' hu' hv' _=>?_⟩
   rw[dA hu']at hu
   subst hu
   have:v'=.slice b n m:=by
    simp only[jU,if_true,vax]at hv'
    exact hv'.symm
   rw[this];exact hpv
  ·exact .inl (van hx)
 have hput:∀v,(a.put o.dst v).tmps=a.tmps.setIfInBounds d v:=λv=>by rw[hdst];rfl
 rw[<-hput]at this
 exact⟨bC _ _ _,Γ,bs,_,_,this,hK,.inl rfl⟩
theorem gy.sound(h:SR P E Γ bs ow w a.tmps st){bi:Option (Nat×aA)}{rw:List Nat}{o:Oper}{id:Nat}{s s':aB}{rs:List Rs}(hs:gy P E.GE bi rw o id s s' rs)(hid:aE o.op=true->bs[id]? =some none/\st.boxes[id]? =lP P o)(hbi:∀i B,bi=some (i,B)->bs[i]? =some none/\st.boxes[i]? =some B)
    (hopv:∀x∈o.op.operands.toList,opv E.GE s.tmps x=opv E.GE st.tmps x) (hbx:2<=bB P rw o->st.boxes.map aL=s.boxes.map aL) (htok:∀τ,cJ τ∈rs->g9 s τ->g9 st τ) (hdd:∀d,o.dst=some d->d<st.tmps.length)
    (Q:Exit->Act->World->Prop):
    o.wp P a w (λa' w'=>a'.defers=a.defers/\∃Γ' bs' ow' st',SR P E Γ' bs' ow' w' a'.tmps st'/\Vv P bs rw o st st' s s' rs/\(bs'=bs\/(aE o.op=true/\∃b,bs'=bs.set id (some b))\/∃i B x,bi=some (i,B)/\bs'=bs.set i x)) Q:=by
  have fin:∀{st'},Vv P bs rw o st st' s s' rs->o.wp P a w (fP P E bs id (aE o.op) a.defers (·=st')) Q->o.wp P a w (λa' w'=>a'.defers=a.defers/\∃Γ' bs' ow' st',SR P E Γ' bs' ow' w' a'.tmps st'/\Vv P bs rw o st st' s s' rs/\(bs'=bs\/(aE o.op=true/\∃b,bs'=bs.set id (some b))\/∃i B x,bi=some (i,B)/\bs'=bs.set i x)) Q:=by
    intro st' hD hw
    refine Oper.wp_mono (λa' w' hA=>?_) hw
    obtain⟨h1,Γ',bs',ow',st2,h2,rfl,h3⟩:=hA
    exact⟨h1,Γ',bs',ow',_,h2,hD,h3.imp_right .inl⟩
  have hid':aE o.op=true->bs[id]? =some none:=λhm=>(hid hm).1
  have live:∀{x:Operand} {i off:Nat},opv E.GE st.tmps x=.bptr i off->∃b,bs[i]? =some (some b):=by
    intro x i off hx
    have hv:=h.opv a.defers x
    rw[hx]at hv
    generalize (Act.mk a.tmps a.defers).eval x=vx at hv
    cases hv with
    |bptr _ _ b hb=>exact⟨b,hb⟩
  cases hs with
  | call d f args tys g first cap r ro ho hd hf hcl hc =>
    have hop:∀x,x=f\/x∈args.toList->opv E.GE s.tmps x=opv E.GE st.tmps x:=λx hx=>hopv x (by rw[ho];simp[Op.operands,Call.operands];simpa using hx)
    have hargs:args.toList.map (opv E.GE s.tmps)=args.toList.map (opv E.GE st.tmps):=vbk λx hx=>hop x (.inr hx)
    rw[hargs]at hcl hc
    rw[hop f (.inl rfl)]at hf
    refine fin (st':=⟨st.tmps.set d r,st.boxes,(ro.map λx=>((d,x.1),x.2))++bu d st.own⟩) ⟨by rw[hd];exact⟨r,rfl,rfl⟩,λ_=>rfl,λhc=>hbx (by rw[hc];decide),Ik (by simp),QN,λ_ _=>rfl⟩ ?_
    refine fP.of h hid' (by simp[lL,ho,hd,hdd d hd]) ?_ Q
    unfold Nj
    rw[ho]
    simp only[DX,hf]
    refine .inl ⟨hcl,r,ro,hc,?_⟩
    rw[hd];rfl
  | alloc d t zs ho hd hz =>
    have hpre:=(hid (by rw[ho];rfl)).2
    simp only[lP,ho,hz]at hpre
    refine fin (st':=⟨st.tmps.set d (.bptr id 0),st.boxes,bu d st.own⟩) ⟨by rw[hd];exact⟨_,rfl,rfl⟩,λ_=>rfl,λhc=>by simp[bB,bY,ho]at hc,Ik (L:=[]) (by simp),QN (L:=[]),λ_ _=>rfl⟩ ?_
    refine fP.of h hid' (by simp[lL,ho]) ?_ Q
    unfold Nj
    rw[ho]
    simp only[oT,hz,vak,FX hpre]
    rw[hd];rfl
  | mkmap d t ho hd =>
    have hpre:=(hid (by rw[ho];rfl)).2
    simp only[lP,ho]at hpre
    refine fin (st':=⟨st.tmps.set d (.mapr id),st.boxes,bu d st.own⟩) ⟨by rw[hd];exact⟨_,rfl,rfl⟩,λ_=>rfl,λhc=>by simp[bB,bY,ho]at hc,Ik (L:=[]) (by simp),QN (L:=[]),λ_ _=>rfl⟩ ?_
    refine fP.of h hid' (by simp[lL,ho]) ?_ Q
    unfold Nj
    rw[ho]
    simp only[oT,FX hpre]
    rw[hd];rfl
  | ev d p hd hn hm hc hp =>
    have hnc:∀f args tys,o.op≠.call {callee:=.value f,args,argTypes:=tys}:=λf args tys e=>by rw[e]at hn;cases hn
    rw[E2 hnc]at hbx
    have hp2:=qaG (H2:=st.boxes) hc hm hp λh2=>hbx h2
    rw[W6 hopv]at hp2
    refine fin (st':=⟨st.tmps.set d p,st.boxes,bu d st.own⟩) ⟨by rw[hd];exact⟨_,rfl,rfl⟩,λ_=>rfl,λhc'=>by rw[E2 hnc]at hc';exact absurd hc' hc,Ik (L:=[]) (by simp),QN (L:=[]),λ_ _=>rfl⟩ ?_
    refine fP.of h hid' ?_ ?_ Q
    · unfold lL
      split
      ·rename_i f args tys ho;exact absurd ho (hnc _ _ _)
      ·rfl
    · unfold Nj
      split
      ·rename_i f args tys ho;exact absurd ho (hnc _ _ _)
      · rw [hp2]
        show vY st o.dst p [] st.boxes=_
        rw[hd];rfl
  | res d p L hd hh =>
    have hcl:bB P rw o≠3:=by
      rcases hh with⟨T,len,parts,e,ho,_⟩|⟨T,parts,ho,_⟩|⟨v,e,ho|ho,_⟩<;>simp[bB,bY,ho]
    refine fin (st':=⟨st.tmps.set d p,st.boxes,(L.map λx=>((d,x.1),x.2))++bu d st.own⟩) ⟨by rw[hd];exact⟨_,rfl,rfl⟩,λ_=>rfl,λhc=>absurd hc hcl,Ik (by simp),QN,λ_ _=>rfl⟩ ?_
    rcases hh with⟨T,len,parts,e,ho,h1,h2,rfl⟩|⟨T,parts,ho,h1,h2⟩|⟨v,e,ho,h1,rfl,rfl⟩
    · have hpt:(parts.toList.map fun x => (x.1,opv E.GE s.tmps x.2)) = parts.toList.map fun x => (x.1,opv E.GE st.tmps x.2):=vbk fun x hx => by rw [hopv x.2 (by rw [ho]; simp only [Op.operands]; exact vag.2 ⟨x,hx,rfl⟩)]
      rw[hpt]at h1
      exact wu (K:=(·=_)) h ho hd (hdd d hd) h2 h1 rfl Q
    · have hpt:(parts.toList.map fun x => (x.1,opv E.GE s.tmps x.2)) = parts.toList.map fun x => (x.1,opv E.GE st.tmps x.2):=vbk fun x hx => by rw [hopv x.2 (by rw [ho]; simp only [Op.operands]; exact vag.2 ⟨x,hx,rfl⟩)]
      rw[hpt]at h1 h2
      exact Al (K:=(·=_)) h ho hd (hdd d hd) h1 h2 rfl Q
    ·exact HA (K:=(·=_)) h ho hd (hdd d hd) h1 rfl Q
  | app d t T e y es ns p hd ho hT he hn hp hm =>
    have hop:∀x,x=.tmp t\/x=y->opv E.GE s.tmps x=opv E.GE st.tmps x:=λx hx=>hopv x (by rw[ho];simp[Op.operands,Call.operands];rcases hx with rfl|rfl<;>simp)
    have he':st.tmps.getD t .undef=.slice es:=(hop (.tmp t) (.inl rfl)).symm.trans he
    rw[hop y (.inr rfl)]at hn
    have hm':((t,0),e)∈st.own:=htok (false,(t,0),e) (by simp[cJ]) hm
    refine fin (st':=⟨st.tmps.set d p,st.boxes,((d,0),e)::bu d (st.own.filter λx=>x.1 !=(t,0))⟩) ⟨by rw[hd];exact⟨_,rfl,rfl⟩,λ_=>rfl,λhc=>by simp[bB,bY,ho]at hc,?_,?_,λ_ _=>rfl⟩ (E1 (K:=(·=_)) h ho hd (hdd d hd) hT he' hn hp hm' rfl Q)
    · rintro ⟨b,⟨t',k⟩,e'⟩ hr _ hh
      cases b with
      |true=>exact hh
      | false =>
        simp[cJ]at hr
        refine vaZ _ (da (va1.2 ⟨bT.1 hh,?_⟩) hr.1)
        simp only[bne_iff_ne,ne_eq,Prod.mk.injEq,not_and]
        exact λe=>absurd e hr.2
    · rintro ⟨b,⟨t',k⟩,e'⟩ hr hh
      cases b with
      |true=>simp[cJ]at hr
      | false =>
        rcases vaB.1 (bT.1 hh)with hh|hh
        ·rw[hh];exact vcw
        · obtain ⟨h1,h2⟩:=cE hh
          obtain⟨h3,h4⟩:=bK h1
          have h5:((t',k),e')∈st.own:=htok (false,(t',k),e') hr h3
          exact vaZ _ (da (va1.2 ⟨h5,h4⟩) h2)
  | mv d t hd ho hdt =>
    have hg:s.tmps.getD t .undef=st.tmps.getD t .undef:=hopv (.tmp t) (by rcases ho with ho|ho<;>rw[ho]<;>simp[Op.operands])
    have hcl:bB P rw o≠3:=by rcases ho with ho|ho<;>simp[bB,bY,ho]
    refine fin (st':=⟨st.tmps.set d (st.tmps.getD t .undef),st.boxes,gi d (λx=>if x.1=t then(d,x.2)else x) st.own⟩) ⟨by rw[hd];exact⟨_,rfl,by rw[hg]⟩,λ_=>rfl,λhc=>absurd hc hcl,?_,?_,λ_ _=>rfl⟩ (DR (K:=(·=_)) h ho hd (hdd d hd) rfl Q)
    · rintro ⟨b,⟨t',k⟩,e'⟩ hr _ hh
      cases b with
      |true=>exact hh
      | false =>
        simp[cJ]at hr
        refine vag.2 ⟨((t',k),e'),da (bT.1 hh) hr.1,?_⟩
        simp only
        rw[van hr.2]
    · rintro ⟨b,⟨t',k⟩,e'⟩ hr hh
      cases b with
      |true=>simp[cJ]at hr
      | false =>
        obtain⟨⟨⟨t2,k2⟩,e2⟩,hx,he⟩:=vag.1 (bT.1 hh)
        simp only[Prod.mk.injEq]at he
        obtain⟨he,rfl⟩:=he
        obtain⟨h1,h2⟩:=cE hx
        by_cases ht:t2=t
        · subst ht
          rw[vah rfl]at he
          cases he
          have h5:((t2,k),e2)∈st.own:=htok (false,(t2,k),e2) (by simp[cJ]) h1
          exact vag.2 ⟨((t2,k),e2),da h5 h2,by simp⟩
        · rw [van ht] at he
          cases he
          simp[cJ]at hr
          rcases hr with hr|hr
          ·exact absurd hr h2
          ·exact absurd hr ht
  | bmv d t k T parts p es hd ho hdt ht hin hp hm =>
    have hin2:Operand.tmp t∈o.op.operands.toList:=by
      obtain⟨x,hx,hx2⟩:=vbn.1 hin
      rw[ho];simp only[Op.operands]
      exact vag.2 ⟨x,hx,NP hx2⟩
    have hpar:∀x∈parts.toList,opv E.GE s.tmps x.2=opv E.GE st.tmps x.2:=λx hx=>hopv x.2 (by rw[ho];simp only[Op.operands];exact vag.2 ⟨x,hx,rfl⟩)
    have hpt:(parts.toList.map λx=>(x.1,opv E.GE s.tmps x.2))=parts.toList.map λx=>(x.1,opv E.GE st.tmps x.2):=vbk λx hx=>by rw[hpar x hx]
    have hpw:Rn E.GE s.tmps parts.toList t=Rn E.GE st.tmps parts.toList t:=by
      funext q
      exact vbk λx hx=>by rw[hpar x hx]
    rw[hpt]at hp
    rw[hpw]at hm
    have hg:st.tmps.getD t .undef=.slice es:=(hopv (.tmp t) hin2).symm.trans ht
    have hcl:bB P rw o≠3:=by simp[bB,bY,ho]
    refine fin (st':=⟨st.tmps.set d p,st.boxes,gi d (λx=>if x=(t,0)then(d,k)else x) st.own⟩) ⟨by rw[hd];exact⟨_,rfl,rfl⟩,λ_=>rfl,λhc=>absurd hc hcl,?_,?_,λ_ _=>rfl⟩ (MZ (K:=(·=_)) h ho hd (hdd d hd) hg hp hm rfl Q)
    · rintro ⟨b,⟨t',k'⟩,e'⟩ hr _ hh
      cases b with
      |true=>exact hh
      | false =>
        simp[cJ]at hr
        refine vag.2 ⟨((t',k'),e'),da (bT.1 hh) hr.1,?_⟩
        simp only
        rw[van (λe=>hr.2 (vbd Prod.fst e))]
    · rintro ⟨b,⟨t',k'⟩,e'⟩ hr hh
      cases b with
      |true=>simp[cJ]at hr
      | false =>
        obtain⟨⟨⟨t2,k2⟩,e2⟩,hx,he⟩:=vag.1 (bT.1 hh)
        have h6:e2=e':=vbd Prod.snd he
        subst h6
        have he1:(if((t2,k2):Nat×Nat)=(t,0)then(d,k)else(t2,k2))=(t',k'):=vbd Prod.fst he
        obtain⟨h1,h2⟩:=cE hx
        by_cases ht2:((t2,k2):Nat×Nat)=(t,0)
        · have h5:((t2,k2),e2) ∈ st.own:=htok (false,(t2,k2),e2) (by cases ht2; simp [cJ]) h1
          exact vag.2 ⟨((t2,k2),e2),da h5 h2,he⟩
        · rw [van ht2] at he1
          cases he1
          simp[cJ]at hr
          rcases hr with hr|hr
          ·exact absurd hr h2
          · subst hr
            have h5:((t',k'),e2)∈st.own:=htok (false,(t',k'),e2) (by simp[cJ]) h1
            exact vag.2 ⟨((t',k'),e2),da h5 h2,he⟩
  | ext d t k p hd ho hdt hp =>
    have hg:s.tmps.getD t .undef=st.tmps.getD t .undef:=hopv (.tmp t) (by rw[ho];simp[Op.operands])
    rw[hg]at hp
    have hcl:bB P rw o≠3:=by simp[bB,bY,ho]
    refine fin (st':=⟨st.tmps.set d p,st.boxes,gi d (λx=>if x=(t,k)then(d,0)else x) st.own⟩) ⟨by rw[hd];exact⟨_,rfl,rfl⟩,λ_=>rfl,λhc=>absurd hc hcl,?_,?_,λ_ _=>rfl⟩ (CS (K:=(·=_)) h ho hd (hdd d hd) hp rfl Q)
    · rintro ⟨b,⟨t',k'⟩,e'⟩ hr _ hh
      cases b with
      |true=>exact hh
      | false =>
        simp[cJ]at hr
        refine vag.2 ⟨((t',k'),e'),da (bT.1 hh) hr.1,?_⟩
        simp only
        rw[van (λe=>hr.2 (vbd Prod.fst e))]
    · rintro ⟨b,⟨t',k'⟩,e'⟩ hr hh
      cases b with
      |true=>simp[cJ]at hr
      | false =>
        obtain⟨⟨⟨t2,k2⟩,e2⟩,hx,he⟩:=vag.1 (bT.1 hh)
        have h6:e2=e':=vbd Prod.snd he
        subst h6
        have he1:(if((t2,k2):Nat×Nat)=(t,k)then(d,0)else(t2,k2))=(t',k'):=vbd Prod.fst he
        obtain⟨h1,h2⟩:=cE hx
        by_cases ht2:((t2,k2):Nat×Nat)=(t,k)
        · have h5:((t2,k2),e2) ∈ st.own:=htok (false,(t2,k2),e2) (by cases ht2; simp [cJ]) h1
          exact vag.2 ⟨((t2,k2),e2),da h5 h2,he⟩
        · rw [van ht2] at he1
          cases he1
          simp[cJ]at hr
          rcases hr with hr|hr
          ·exact absurd hr h2
          · subst hr
            have h5:((t',k'),e2)∈st.own:=htok (false,(t',k'),e2) (by simp[cJ]) h1
            exact vag.2 ⟨((t',k'),e2),da h5 h2,he⟩
  | ld d T x i off cs own L p hd ho hx hB hh hm =>
    have hx':opv E.GE st.tmps x=.bptr i off:=(hopv x (by rw[ho];simp[Op.operands])).symm.trans hx
    obtain⟨bb,hbb⟩:=live hx'
    obtain⟨own2,hB2⟩:=yd (hbx (by simp[bB,bY,ho])) hB
    have hm2:∀y∈L,(off+y.1,y.2)∈own2:=λy hy=>by
      obtain⟨cs',own',e1,e2⟩:=dK.1 (htok (true,(i,off+y.1),y.2) (vaZ _ (vag.2 ⟨y,hy,rfl⟩)) ⟨cs,own,hB,hm y hy⟩)
      rw[hB2]at e1;cases e1;exact e2
    refine fin (st':=⟨st.tmps.set d p,st.boxes.set i (.cells cs (own2.filter λx=>!L.any λy=>x.1==off+y.1)),(L.map λy=>((d,y.1),y.2)).reverse++bu d st.own⟩)
      ⟨by rw[hd];exact⟨_,rfl,rfl⟩,λ_=>Oi hB2,λhc=>by simp[bB,bY,ho]at hc,?_,?_,λk hk=>by rw[vai (λe=>by subst e;rw[hbb]at hk;cases hk)]⟩ ?_
    · rintro ⟨b,⟨t',k⟩,e'⟩ hr _ hh
      cases b with
      |false=>exact vaU _ (da (bT.1 hh) λhx=>hr (by simp only at hx;subst hx;simp[cJ]))
      | true =>
        by_cases hi:i=t'
        · subst hi
          obtain⟨cs',own',e1,e2⟩:=dK.1 hh
          rw[hB2]at e1;cases e1
          refine⟨_,_,vae (aq hB2),va1.2 ⟨e2,?_⟩⟩
          simp only[va0,vbq,vaP]
          intro y hy e
          exact hr (vaZ _ (vag.2 ⟨y,hy,by simp[cJ,e]⟩))
        ·exact(gn hi).2 hh
    · rintro ⟨b,⟨t',k⟩,e'⟩ hr hh
      cases b with
      | false =>
        rcases vaw.1 (bT.1 hh)with hh|hh
        ·exact va9 _ hh
        · have h2:=(cE hh).2
          simp[cJ]at hr
          exact absurd hr h2
      | true =>
        exfalso
        have hr2:(true,t',k)∈L.map λy=>(true,i,off+y.1):=by simpa[cJ]using hr
        obtain⟨y,hy,e⟩:=vag.1 hr2
        simp only[Prod.mk.injEq,vcj]at e
        obtain⟨rfl,rfl⟩:=e
        obtain⟨cs',own',e1,e2⟩:=dK.1 hh
        simp only[vae (aq hB),vax,aA.cells.injEq]at e1
        obtain⟨rfl,rfl⟩:=e1
        have:=(bK e2).2
        simp only[va0,vbq,vaP]at this
        exact this y hy rfl
    · rcases hh with ⟨e,hT,hp,rfl⟩ | ⟨fs,l,hT,hp,rfl,hn,hl⟩
      · refine CV (K:=(· = _)) h ho hd (hdd d hd) hT hx' hB2 hp (hm2 _ (vcJ _)) ?_ Q
        simp only[vaz,vbr,vc9,List.reverse_nil,vaR,List.singleton_append,aB.mk.injEq,vcj,vci]
        congr 3
        funext z
        simp[bne]
      · refine DZ h (K:=(· = _)) ?_ Q
        unfold L4
        simp only[ho,hd]
        exact⟨i,off,cs,own2,L,l,⟨fs,hT⟩,hx',hB2,hp,hm2,hn,hl,hdd d hd,rfl⟩
  | st T x y i off vs cs own hd ho hx hvs hB hp =>
    have hx':opv E.GE st.tmps x=.bptr i off:=(hopv x (by rw[ho];simp[Op.operands])).symm.trans hx
    have hy':opv E.GE s.tmps y=opv E.GE st.tmps y:=hopv y (by rw[ho];simp[Op.operands])
    rw[hy']at hvs hp
    obtain⟨bb,hbb⟩:=live hx'
    have hst:=hbx (by simp[bB,bY,ho])
    obtain⟨own2,hB2⟩:=yd hst hB
    have hp2:=FP hvs hB hp hB2
    refine fin (st':=⟨st.tmps,st.boxes.set i (.cells (cs.take off++vs++cs.drop (off+vs.length)) (own2.filter λy=>y.1<off||off+vs.length<=y.1)),st.own⟩)
      ⟨by rw[hd];exact⟨rfl,rfl⟩,λhc=>absurd (by simp[bB,bY,ho]) hc,λ_=>yu hst rfl,?_,?_,λk hk=>by rw[vai (λe=>by subst e;rw[hbb]at hk;cases hk)]⟩ ?_
    · rintro ⟨b,⟨t',k⟩,e'⟩ hr _ hh
      cases b with
      |false=>exact hh
      | true =>
        by_cases hi:i=t'
        · subst hi
          obtain⟨cs',own',e1,e2⟩:=dK.1 hh
          rw[hB2]at e1;cases e1
          refine⟨_,_,vae (aq hB2),va1.2 ⟨e2,?_⟩⟩
          simp only[va3,vao]
          by_cases h1:k<off
          ·exact .inl h1
          ·exact .inr (vb5 λh2=>hr (p9.2 ⟨rfl,by simp only;omega,by simp only;omega⟩))
        ·exact(gn hi).2 hh
    · rintro ⟨b,⟨t',k⟩,e'⟩ hr hh
      cases b with
      |false=>simp[cJ,uU]at hr
      | true =>
        exfalso
        obtain⟨rfl,h1,h2⟩:=p9.1 hr
        obtain⟨cs',own',e1,e2⟩:=dK.1 hh
        simp only[vae (aq hB),vax,aA.cells.injEq]at e1
        obtain⟨rfl,rfl⟩:=e1
        have:=(bK e2).2
        simp only[va3,vao]at this
        simp only at h1 h2
        omega
    · refine fP.of h hid' (by simp [lL,ho]) ?_ Q
      unfold Nj
      rw[ho]
      simp only[oT,hx',hp2,vak]
      rw[hd];rfl
  | sto T x t i off vs cs own L hd ho hx hvs hB hp hk hm hn hl =>
    have hx':opv E.GE st.tmps x=.bptr i off:=(hopv x (by rw[ho];simp[Op.operands])).symm.trans hx
    have hy':s.tmps.getD t .undef=st.tmps.getD t .undef:=hopv (.tmp t) (by rw[ho];simp[Op.operands])
    rw[hy']at hvs hp hk
    obtain⟨bb,hbb⟩:=live hx'
    have hst:=hbx (by simp[bB,bY,ho])
    obtain⟨own2,hB2⟩:=yd hst hB
    have hp2:=FP hvs hB hp hB2
    have hm2:∀y∈L,((t,y.1),y.2)∈st.own:=λy hy=>htok (false,(t,y.1),y.2) (by simp[cJ]) (hm y hy)
    have hset:=vae (a:=aA.cells (cs.take off++vs++cs.drop (off+vs.length)) (own2.filter λy=>y.1<off||off+vs.length<=y.1)) (aq hB2)
    refine fin (st':=⟨st.tmps,st.boxes.set i (.cells (cs.take off++vs++cs.drop (off+vs.length)) ((L.map λy=>(off+y.1,y.2)).reverse++own2.filter λy=>y.1<off||off+vs.length<=y.1)),st.own.filter λx=>!L.any λy=>x.1==(t,y.1)⟩)
      ⟨by rw[hd];exact⟨rfl,rfl⟩,λhc=>absurd (by simp[bB,bY,ho]) hc,λ_=>yu hst rfl,?_,?_,λk hk=>by rw[vai (λe=>by subst e;rw[hbb]at hk;cases hk)]⟩ ?_
    · rintro ⟨b,⟨t',k⟩,e'⟩ hr _ hh
      cases b with
      | false =>
        refine va1.2 ⟨bT.1 hh,?_⟩
        simp only[va0,vbq,vaP,Prod.mk.injEq,not_and]
        intro y hy e
        exact absurd (by simp[cJ,e]) hr
      | true =>
        by_cases hi:i=t'
        · subst hi
          obtain⟨cs',own',e1,e2⟩:=dK.1 hh
          rw[hB2]at e1;cases e1
          refine⟨_,_,vae (aq hB2),vaU _ (va1.2 ⟨e2,?_⟩)⟩
          simp only[va3,vao]
          by_cases h1:k<off
          ·exact .inl h1
          ·exact .inr (vb5 λh2=>hr (vaZ _ (p9.2 ⟨rfl,by simp only;omega,by simp only;omega⟩)))
        ·exact(gn hi).2 hh
    · rintro ⟨b,⟨t',k⟩,e'⟩ hr hh
      cases b with
      | false =>
        obtain⟨h1,h2⟩:=bK (bT.1 hh)
        exact va1.2 ⟨htok (false,(t',k),e') hr h1,h2⟩
      | true =>
        have hr2:(true,t',k)∈uU i off vs.length:=by simpa[cJ]using hr
        obtain⟨rfl,h1,h2⟩:=p9.1 hr2
        obtain⟨cs',own',e1,e2⟩:=dK.1 hh
        simp only[vae (aq hB),vax,aA.cells.injEq]at e1
        obtain⟨rfl,rfl⟩:=e1
        rcases vaw.1 e2 with e2|e2
        ·exact⟨_,_,vae (aq hB2),va9 _ e2⟩
        · exfalso
          have:=(bK e2).2
          simp only[va3,vao]at this
          omega
    · rcases hk with ⟨l,hl⟩ | ⟨hone,e,rfl⟩
      · refine DZ h (K:=(· = _)) ?_ Q
        unfold L4
        simp only[ho,hd]
        refine⟨i,off,_,_,_,L,l,hx',hl,by rw[<-hl];exact hp2,hset,hm2,hn,?_⟩
        rw[vbR]
      · refine AS (K:=(· = _)) h ho hx' (by rw [hx']; exact hp2) hset hone (hm2 _ (vcJ _)) ?_ Q
        rw[hd,vbR]
        simp only[vY,vaz,vbr,vc9,List.reverse_nil,vaR,List.singleton_append,aB.mk.injEq,vcj,Nat.add_zero]
        congr 1
        funext z
        simp[bne]
  | mu t m k x H hd ho hp =>
    have hst:=hbx (by simp[bB,bY,ho])
    have o1:opv E.GE s.tmps m=opv E.GE st.tmps m:=hopv m (by rw[ho];simp[Op.operands])
    have o2:opv E.GE s.tmps k=opv E.GE st.tmps k:=hopv k (by rw[ho];simp[Op.operands])
    have o3:opv E.GE s.tmps x=opv E.GE st.tmps x:=hopv x (by rw[ho];simp[Op.operands])
    rw[o1,o2,o3]at hp
    obtain⟨i,es',hmi,rfl,hp2⟩:=Nl hst hp
    have hlive:∃b,bs[i]? =some (some b):=by
      have hv:=h.opv a.defers m
      rw[hmi]at hv
      generalize (Act.mk a.tmps a.defers).eval m=vx at hv
      cases hv with
      |mapr _ b hb=>exact⟨b,hb⟩
    obtain⟨bb,hbb⟩:=hlive
    obtain⟨i2,es,es2,hB,he2⟩:=AN hp2
    refine fin (st':=⟨st.tmps,st.boxes.set i (.map es'),st.own⟩) ⟨by rw[hd];exact⟨rfl,rfl⟩,λhc=>absurd (by simp[bB,bY,ho]) hc,λ_=>yu hst rfl,?_,?_,λk hk=>by rw[vai (λe=>by subst e;rw[hbb]at hk;cases hk)]⟩ ?_
    · rintro ⟨b,⟨t',k'⟩,e'⟩ hr _ hh
      cases b with
      |false=>exact hh
      | true =>
        obtain⟨cs',own',e1,e2⟩:=dK.1 hh
        have hne:i2≠t':=λe=>by subst e;rw[hB]at e1;cases e1
        rw[he2]
        exact(gn hne).2 hh
    · intro τ hr
      simp at hr
    · refine fP.of h hid' (by simp [lL,ho]) ?_ Q
      unfold Nj
      rw[ho]
      simp only[oT,hp2,vak]
      rw[hd];rfl
  | callR d f args tys r ro oa ho hd hg =>
    have hop:∀x,x=f\/x∈args.toList->opv E.GE s.tmps x=opv E.GE st.tmps x:=λx hx=>hopv x (by rw[ho];simp[Op.operands,Call.operands];simpa using hx)
    have hown:∀x∈oa,((x.t,x.k),x.e)∈s.own->((x.t,x.k),x.e)∈st.own:=λx hx hm=>htok (false,(x.t,x.k),x.e) (vaZ _ (vag.2 ⟨x,hx,rfl⟩)) hm
    refine fin (st':=⟨st.tmps.set d r,st.boxes,(ro.map λx=>((d,x.1),x.2))++bu d (st.own.filter λz=>!oa.any λx=>z.1==(x.t,x.k))⟩) ⟨by rw[hd];exact⟨_,rfl,rfl⟩,λ_=>rfl,λhc=>hbx (by rw[hc];decide),?_,?_,λ_ _=>rfl⟩ (uH (K:=(·=_)) h ho hd (hdd d hd) (hg st hop hown) rfl Q)
    · rintro ⟨b,⟨t',k⟩,e'⟩ hr _ hh
      cases b with
      |true=>exact hh
      | false =>
        simp only[cJ,vaB,Prod.mk.injEq,vcj,vci,vag,vcZ,not_exists,not_and]at hr
        refine vaU _ (da (va1.2 ⟨bT.1 hh,?_⟩) hr.1)
        simp only[va0,vbq,vaP,Prod.mk.injEq,not_and]
        exact λx hx e=>absurd e.symm (hr.2 x hx)
    · rintro ⟨b,⟨t',k⟩,e'⟩ hr hh
      cases b with
      |true=>simp[cJ]at hr
      | false =>
        rcases vaw.1 (bT.1 hh)with hh|hh
        ·exact va9 _ hh
        · obtain ⟨h1,h2⟩:=cE hh
          obtain⟨h3,h4⟩:=bK h1
          have h5:((t',k),e')∈st.own:=htok (false,(t',k),e') hr h3
          exact vaU _ (da (va1.2 ⟨h5,h4⟩) h2)
  | cl d i f x tys g e es ho hd hb hf hx hC h0 h1 h2 =>
    have hop:∀y,y=f\/y=x->opv E.GE s.tmps y=opv E.GE st.tmps y:=λy hy=>hopv y (by rw[ho];simp[Op.operands,Call.operands];exact hy)
    rw[hop f (.inl rfl)]at hf
    rw[hop x (.inr rfl)]at hx
    obtain⟨hbs,hBx⟩:=hbi i _ hb
    have hvf:=h.opv a.defers f
    have hvx:=h.opv a.defers x
    rw[hf]at hvf
    rw[hx]at hvx
    change VR Γ bs w _ (a.eval f)at hvf
    change VR Γ bs w _ (a.eval x)at hvx
    generalize hev:a.eval f=vf at hvf
    cases hvf with
    |func _ _ _ fs cs hl hl' k1 k2=>
    have hfs:fs=#[]:=vba (by simpa using hl)
    have hcs:cs=#[]:=vba (by simpa using hl')
    subst hfs;subst hcs
    have hrun:(execOp a.eval o).run P w=.ok (.enter g #[a.eval x]) w:=by
      simp[execOp,ho,resolve,hev,Deferred.ofValue,invoke,hC.1]
    unfold Oper.wp
    rw[hrun,Oper.upon_enter]
    refine(Si h hbs hBx hC hvx h0 h1 h2).mono λr w' hr=>?_
    obtain⟨v',xb,rfl,hS,hv'⟩:=hr
    have g1:=hS.set (d:=d) hv'
    have hput:(a.put o.dst v').tmps=a.tmps.setIfInBounds d v':=by rw[hd];rfl
    rw[<-hput]at g1
    refine⟨bC _ _ _,Γ,_,ow,⟨st.tmps.set d (.bsl i 0 es.length),st.boxes,bu d st.own⟩,g1,⟨by rw[hd];exact⟨_,rfl,rfl⟩,λ_=>rfl,λhc=>hbx (by rw[hc];decide),Ik (L:=[]) (by simp),QN (L:=[]),λ_ _=>rfl⟩,.inr (.inr ⟨i,_,xb,hb,rfl⟩)⟩
  | apb d t i T e y ns p hd ho hb hT he hn hp hm =>
    have het:st.tmps.getD t .undef=.slice []:=(hopv (.tmp t) (by rw[ho];simp[Op.operands,Call.operands])).symm.trans he
    have hen:opv E.GE st.tmps y=.slice ns:=(hopv y (by rw[ho];simp[Op.operands,Call.operands])).symm.trans hn
    have hm2:((t,0),e)∈st.own:=htok (false,(t,0),e) (by simp[cJ]) hm
    obtain⟨hbs,hBx⟩:=hbi i _ hb
    obtain⟨u,v,k1,k2,k3,k4⟩:=h.ot t 0 e hm2
    have hvt:=yD h k1
    rw[het]at hvt
    have huv:u=v:=FA k2 (λvs hx=>by subst hx;cases hvt) (λvs hx=>by subst hx;cases hvt)
    subst huv
    have hf:=h.freeT t 0
    have hy:VR Γ bs w (opv E.GE st.tmps y) (a.eval y):=h.opv a.defers y
    rw[hen]at hy
    obtain⟨v',w',Γ',xb,r1,r2,r3,r4,r5⟩:=FD (ty:=o.type) hf hT hvt hy k3 (λb hb=>⟨by simp[k4 b hb],(h.on b _ (k4 b hb)).2⟩) hp
    have hrun:(execOp a.eval o).run P w=.ok (.value v') w':=by
      simp[execOp,ho,resolve,invoke,builtin,dA k1,r1]
    unfold Oper.wp
    rw[hrun,Oper.upon_value]
    have g0:=r2.fillBox hbs hBx r3 xb r4
    have g1:=g0.set (d:=d) (r5 (bs.set i xb) i (vae (aq hbs)))
    have hput:(a.put o.dst v').tmps=a.tmps.setIfInBounds d v':=by rw[hd];rfl
    rw[<-hput]at g1
    have hcl:bB P rw o≠3:=by simp[bB,bY,ho]
    refine⟨bC _ _ _,Γ',_,_,⟨st.tmps.set d (.bsl i 0 ns.length),st.boxes,bu d (st.own.filter λx=>x.1 !=(t,0))⟩,g1,⟨by rw[hd];exact⟨_,rfl,rfl⟩,λ_=>rfl,λhc=>absurd hc hcl,?_,?_,λ_ _=>rfl⟩,.inr (.inr ⟨i,_,xb,hb,rfl⟩)⟩
    · rintro ⟨b,⟨t',k⟩,e'⟩ hr _ hh
      cases b with
      |true=>exact hh
      | false =>
        simp[cJ]at hr
        refine da (va1.2 ⟨bT.1 hh,?_⟩) hr.1
        simp only[bne_iff_ne,ne_eq,Prod.mk.injEq,not_and]
        exact λe=>absurd e hr.2
    · rintro ⟨b,⟨t',k⟩,e'⟩ hr hh
      cases b with
      |true=>simp[cJ]at hr
      | false =>
        obtain⟨h1,h2⟩:=cE (bT.1 hh)
        obtain⟨h3,h4⟩:=bK h1
        have h5:((t',k),e')∈st.own:=htok (false,(t',k),e') hr h3
        exact da (va1.2 ⟨h5,h4⟩) h2
  | stR T x y i off cs cs' hd ho hx hB hp hi =>
    have hx':opv E.GE st.tmps x=.bptr i off:=(hopv x (by rw[ho];simp[Op.operands])).symm.trans hx
    have hy':opv E.GE s.tmps y=opv E.GE st.tmps y:=hopv y (by rw[ho];simp[Op.operands])
    rw[hy']at hp
    obtain⟨bb,hbb⟩:=live hx'
    have hst:=hbx (by simp[bB,bY,ho])
    obtain⟨own2,hB2⟩:=yd hst hB
    obtain⟨own',hp2⟩:=SO hp hB2
    refine fin (st':=⟨st.tmps,st.boxes.set i (.cells cs' own'),st.own⟩)
      ⟨by rw[hd];exact⟨rfl,rfl⟩,λhc=>absurd (by simp[bB,bY,ho]) hc,λ_=>yu hst rfl,?_,λτ hr=>by simp at hr,λk hk=>by rw[vai (λe=>by subst e;rw[hbb]at hk;cases hk)]⟩ ?_
    · rintro ⟨b,⟨t',k⟩,e'⟩ hr hn hh
      cases b with
      |false=>exact hh
      |true=>exact(gn (λe=>hn rfl (by subst e;exact hi))).2 hh
    · refine fP.of h hid' (by simp [lL,ho]) ?_ Q
      unfold Nj
      rw[ho]
      simp only[oT,hx',hp2,vak]
      rw[hd];rfl
end
end
def Vg(τ:S9)(rs:List Rs):Prop:=cJ τ∈rs\/(τ.1=true/\(false,τ.2.1.1,1)∈rs)
def Lp(rw:List Nat)(o:Oper):Bool:=match o.op,o.dst with
 |.load _ _,some d=>rw.contains (8 * d+5)
 |_,_=>false
def Na(rw:List Nat)(o:Oper):Bool:=match o.op,o.dst with
 |.call {callee:=.value _,..},some d=>rw.contains (8 * d+7)
 |_,_=>false
def me(P:Program)(rw:List Nat)(o:Oper):Nat:=if Lp rw o=true then 0 else if Na rw o=true then 2 else bB P rw o
inductive lZ(P:Program)(GE:List (Nat×List PVal))(bi:Option (Nat×aA))(rw:List Nat)(o:Oper)(id:Nat)(s:aB):aB->List Rs->Prop where
 |old {s':aB} {rs:List Rs} (h:gy P GE bi rw o id s s' rs) (hu:Lp rw o=false) (hh:Na rw o=false):lZ P GE bi rw o id s s' rs
 |ldE (d:Nat) (T:TypeId) (x:Operand) (cs:List PVal) (p:PVal) (ho:o.op=.load T x) (hd:o.dst=some d) (hi:rw.contains (8 * d+5)=true) (hx:opv GE s.tmps x=.eptr cs) (hp:aY P T cs=some p):lZ P GE bi rw o id s ⟨s.tmps.set d p,s.boxes,bu d s.own⟩ [(false,d,0)]
 | callG (d:Nat) (f:Operand) (args:Array Operand) (tys:Array TypeId) (r:PVal) (ro:List (Nat×TypeId)) (oa:List OA) (ρ:List Nat) (F:List aA→List aA) (ho:o.op = .call { callee := .value f,args,argTypes:=tys }) (hd:o.dst = some d) (hi:rw.contains (8 * d + 1) = true) (hh:rw.contains (8 * d + 7) = false)
   (F1:∀(H:List aA) (i:Nat),i∉ρ->(F H)[i]? =H[i]?) (F3:∀(H H2:List aA) (i:Nat),H2.map aL=H.map aL->i∈ρ->(F H2)[i]? =(F H)[i]?)
   (hg:∀st:aB,(∀x,x=f\/x∈args.toList->opv GE s.tmps x=opv GE st.tmps x)->(∀x∈oa,((x.t,x.k),x.e)∈s.own->((x.t,x.k),x.e)∈st.own)->st.boxes.map aL=s.boxes.map aL->(∀i∈ρ,∀k e,g9 s (true,(i,k),e)->g9 st (true,(i,k),e))->El P GE f args.toList st r ro (F st.boxes) oa):
   lZ P GE bi rw o id s ⟨s.tmps.set d r,F s.boxes,(ro.map λx=>((d,x.1),x.2))++bu d (s.own.filter λz=>!oa.any λx=>z.1==(x.t,x.k))⟩ (((false,d,0)::oa.map λx=>(false,x.t,0))++ρ.map λi=>(false,i,1))
 | callH (d:Nat) (f:Operand) (args:Array Operand) (tys:Array TypeId) (r:PVal) (ro:List (Nat×TypeId)) (oa:List OA) (ρ:List Nat) (F:List aA→List aA) (ho:o.op = .call { callee := .value f,args,argTypes:=tys }) (hd:o.dst = some d) (hi:rw.contains (8 * d + 7) = true)
   (F1:∀(H:List aA) (i:Nat),i∉ρ->(F H)[i]? =H[i]?) (F4:∀H:List aA,H.map aL=s.boxes.map aL->(F H).map aL=H.map aL) (F5:∀(H:List aA) (i:Nat) cs own,i∈ρ->(F H)[i]? =some (.cells cs own)->own=[]) (F6:∀i∈ρ,2 * i∈rw/\8 * i+3∈rw)
   (hg:∀st:aB,(∀x,x=f\/x∈args.toList->opv GE s.tmps x=opv GE st.tmps x)->(∀x∈oa,((x.t,x.k),x.e)∈s.own->((x.t,x.k),x.e)∈st.own)->st.boxes.map aL=s.boxes.map aL->El P GE f args.toList st r ro (F st.boxes) oa):
   lZ P GE bi rw o id s ⟨s.tmps.set d r,F s.boxes,(ro.map λx=>((d,x.1),x.2))++bu d (s.own.filter λz=>!oa.any λx=>z.1==(x.t,x.k))⟩ ((false,d,0)::oa.map λx=>(false,x.t,0))
section
variable{P:Program}{GE:List (Nat×List PVal)}
theorem gy.nw{bi:Option (Nat×aA)}{rw:List Nat}{o:Oper}{id:Nat}{s s':aB}{rs:List Rs}(h:gy P GE bi rw o id s s' rs)(i:Nat):(false,i,1)∉rs:=by
 cases h<;>simp[uU]
theorem gy.rs_of{bi:Option (Nat×aA)}{rw:List Nat}{o:Oper}{id:Nat}{s s':aB}{rs:List Rs}(h:gy P GE bi rw o id s s' rs){τ:S9}(ht:Vg τ rs):cJ τ∈rs:=ht.elim (λx=>x) λhx=>absurd hx.2 (h.nw _)
structure Vu(P:Program)(rw:List Nat)(o:Oper)(s s':aB)(rs:List Rs):Prop where
 tm:match o.dst with
  |some d=>∃p,s'.tmps=s.tmps.set d p
  |none=>s'.tmps=s.tmps
 bx:me P rw o≠3->s'.boxes.map aL=s.boxes.map aL
 back:∀τ,¬Vg τ rs->g9 s' τ->g9 s τ
theorem Hb{rw:List Nat}{o:Oper}(hu:Lp rw o=false)(hh:Na rw o=false):me P rw o=bB P rw o:=by unfold me;rw[hu,hh];rfl
theorem Wc{rw:List Nat}{o:Oper}{f:Operand}{args:Array Operand}{tys:Array TypeId}{d:Nat}(ho:o.op=.call {callee:=.value f,args,argTypes:=tys})(hd:o.dst=some d)(hi:rw.contains (8 * d+7)=true):me P rw o=2:=by
 unfold me Lp Na
 rw[ho,hd]
 simp only[hi]
 rfl
theorem pT{rw:List Nat}{o:Oper}{f:Operand}{args:Array Operand}{tys:Array TypeId}{d:Nat}(ho:o.op=.call {callee:=.value f,args,argTypes:=tys})(hd:o.dst=some d)(hi:rw.contains (8 * d+1)=true)(hh:rw.contains (8 * d+7)=false):me P rw o=3:=by
 rw[Hb (by unfold Lp;rw[ho]) (by unfold Na;rw[ho,hd];exact hh)]
 unfold bB
 rw[ho,hd]
 simp only[Option.any_some,hi,if_true]
theorem Yc{rw:List Nat}{o:Oper}{T:TypeId}{x:Operand}{d:Nat}(ho:o.op=.load T x)(hd:o.dst=some d)(hi:rw.contains (8 * d+5)=true):me P rw o=0:=by
 unfold me Lp
 rw[ho,hd]
 simp only[hi,if_true]
theorem lZ.eff{bi:Option (Nat×aA)}{rw:List Nat}{o:Oper}{id:Nat}{s s':aB}{rs:List Rs}(h:lZ P GE bi rw o id s s' rs):Vu P rw o s s' rs:=by
 cases h with
 |old h hu hh=>exact⟨h.eff.tm,by rw[Hb hu hh];exact h.eff.bx,λτ ht hh=>h.eff.back τ (λhx=>ht (.inl hx)) hh⟩
 |ldE d T x cs p ho hd hi hx hp=>
  refine⟨by rw[hd];exact⟨_,rfl⟩,λ_=>rfl,?_⟩
  rintro⟨b,⟨t',k⟩,e'⟩ hr hh
  cases b with
  |true=>exact hh
  |false=>exact(cE hh).1
 | callG d f args tys r ro oa ρ F ho hd hi hh F1 F3 hg =>
  refine⟨by rw[hd];exact⟨r,rfl⟩,λhc=>absurd (pT ho hd hi hh) hc,?_⟩
  rintro⟨b,⟨t',k⟩,e'⟩ hr hh
  cases b with
  |true=>
   have hn:t'∉ρ:=λhx=>hr (.inr ⟨rfl,vaU _ (vag.2 ⟨t',hx,rfl⟩)⟩)
   obtain⟨cs,own,h1,h2⟩:=dK.1 hh
   simp only at h1
   rw[F1 _ _ hn]at h1
   exact⟨cs,own,h1,h2⟩
  | false =>
   rcases vaw.1 (bT.1 hh)with hh|hh
   ·simp only[vag,Prod.mk.injEq]at hh
    obtain⟨x,_,⟨rfl,_⟩,_⟩:=hh
    exact absurd (.inl (by simp[cJ])) hr
   ·exact(bK (cE hh).1).1
 | callH d f args tys r ro oa ρ F ho hd hi F1 F4 F5 F6 hg =>
  refine⟨by rw[hd];exact⟨r,rfl⟩,λ_=>F4 _ rfl,?_⟩
  rintro⟨b,⟨t',k⟩,e'⟩ hr hh
  cases b with
  | true =>
   obtain⟨cs,own,h1,h2⟩:=dK.1 hh
   simp only at h1
   by_cases hn:t'∈ρ
   ·rw[F5 _ _ _ _ hn h1]at h2
    cases h2
   ·rw[F1 _ _ hn]at h1
    exact⟨cs,own,h1,h2⟩
  | false =>
   rcases vaw.1 (bT.1 hh)with hh|hh
   ·simp only[vag,Prod.mk.injEq]at hh
    obtain⟨x,_,⟨rfl,_⟩,_⟩:=hh
    exact absurd (.inl (by simp[cJ])) hr
   ·exact(bK (cE hh).1).1
theorem lZ.cls{bi:Option (Nat×aA)}{rw:List Nat}{o:Oper}{id:Nat}{s s':aB}{rs:List Rs}(h:lZ P GE bi rw o id s s' rs){i k:Nat}(hr:(true,i,k)∈rs):2<=me P rw o:=by
 cases h with
 |ldE d T x cs p ho hd hi hx hp=>simp at hr
 |callH d f args tys r ro oa ρ F ho hd hi F1 F4 F5 F6 hg=>simp at hr
 |old h hu hh=>
  rw[Hb hu hh]
  cases h with
  |ld d T x i off cs own L p hd ho hx hB h hm=>simp[bB,bY,ho]
  |st T x y i off vs cs own hd ho hx hvs hB hp=>simp[bB,bY,ho]
  |sto T x t i off vs cs own L hd ho hx hvs hB hp hk hm hn hl=>simp[bB,bY,ho]
  |_=>simp at hr
 |callG d f args tys r ro oa ρ F ho hd hi hh F1 F3 hg=>rw[pT ho hd hi hh];decide
theorem lZ.whole{bi:Option (Nat×aA)}{rw:List Nat}{o:Oper}{id:Nat}{s s':aB}{rs:List Rs}(h:lZ P GE bi rw o id s s' rs){i:Nat}(hr:(false,i,1)∈rs):me P rw o=3:=by
 cases h with
 |ldE d T x cs p ho hd hi hx hp=>simp at hr
 |old h hu hh=>exact absurd hr (h.nw i)
 |callH d f args tys r ro oa ρ F ho hd hi F1 F4 F5 F6 hg=>simp at hr
 |callG d f args tys r ro oa ρ F ho hd hi hh F1 F3 hg=>exact pT ho hd hi hh
theorem Mf{o:Oper}{rs:List Rs}(h:rs=match o.dst with
 |some d=>[(false,d,0)]
 |none=>[]) {τ:S9} (ht:Vg τ rs):cJ τ∈rs/\τ.1=false:=by
 subst h
 cases hd:o.dst with
 |none=>rw[hd]at ht;rcases ht with hx|hx<;>simp at hx
 | some d =>
  rw[hd]at ht
  rcases ht with hx|hx
  ·refine⟨hx,?_⟩
   obtain⟨b,⟨t,k⟩,e⟩:=τ
   cases b with
   |false=>rfl
   |true=>simp[cJ]at hx
  ·simp at hx
structure Vw(P:Program)(bs:be)(rw:List Nat)(o:Oper)(st st' s s':aB)(rs:List Rs):Prop where
 tm:match o.dst with
  |some d=>∃p,st'.tmps=st.tmps.set d p/\s'.tmps=s.tmps.set d p
  |none=>st'.tmps=st.tmps/\s'.tmps=s.tmps
 b1:me P rw o≠3->st'.boxes.map aL=st.boxes.map aL
 b2:me P rw o=3->st'.boxes.map aL=s'.boxes.map aL
 keep:∀τ,¬Vg τ rs->(τ.1=true->2 * τ.2.1.1∉rw)->g9 st τ->g9 st' τ
 got:∀τ,Vg τ rs->g9 s' τ->g9 st' τ
 un:∀i:Nat,bs[i]? =some none->(false,i,1)∉rs->8 * i+3∉rw->st'.boxes[i]? =st.boxes[i]?
end
section
variable{P:Program}{E:lh}{Γ:aP}{bs:be}{ow:Nat->Option iL}{w:World}{a:Act}{st:aB}
theorem lZ.sound(h:SR P E Γ bs ow w a.tmps st){bi:Option (Nat×aA)}{rw:List Nat}{o:Oper}{id:Nat}{s s':aB}{rs:List Rs}(hs:lZ P E.GE bi rw o id s s' rs)(hid:aE o.op=true->bs[id]? =some none/\st.boxes[id]? =lP P o)(hbi:∀i B,bi=some (i,B)->bs[i]? =some none/\st.boxes[i]? =some B)
    (hopv:∀x∈o.op.operands.toList,opv E.GE s.tmps x=opv E.GE st.tmps x) (hbx:2<=me P rw o->st.boxes.map aL=s.boxes.map aL) (htok:∀τ,Vg τ rs->g9 s τ->g9 st τ) (hdd:∀d,o.dst=some d->d<st.tmps.length)
    (Q:Exit->Act->World->Prop):
    o.wp P a w (λa' w'=>a'.defers=a.defers/\∃Γ' bs' ow' st',SR P E Γ' bs' ow' w' a'.tmps st'/\Vw P bs rw o st st' s s' rs/\(bs'=bs\/(aE o.op=true/\∃b,bs'=bs.set id (some b))\/∃i B x,bi=some (i,B)/\bs'=bs.set i x)) Q:=by
  cases hs with
  | ldE d T x cs p ho hd hi hx hp =>
    have hx':opv E.GE st.tmps x=.eptr cs:=(hopv x (by rw[ho];simp[Op.operands])).symm.trans hx
    have hw:o.wp P a w (fP P E bs id (aE o.op) a.defers (·=⟨st.tmps.set d p,st.boxes,bu d st.own⟩)) Q:=by
      refine fP.of h (λhm=>by rw[ho]at hm;cases hm) (by simp[lL,ho]) ?_ Q
      unfold Nj
      rw[ho]
      simp only[oT,hx',jx,hp,vak]
      rw[hd];rfl
    refine Oper.wp_mono (λa' w' hA=>?_) hw
    obtain⟨h1,Γ',bs',ow',st2,h2,rfl,h3⟩:=hA
    exact⟨h1,Γ',bs',ow',_,h2,⟨by rw[hd];exact⟨_,rfl,rfl⟩,λ_=>rfl,λhc=>absurd ((Yc (P:=P) ho hd hi).symm.trans hc) (by decide),λτ hr _ hh=>Ik (st:=st) (tm:=st.tmps.set d p) (R:=λ_=>True) (rs:=[(false,d,0)]) (d:=d) (L:=[]) (by simp) τ (λhx=>hr (.inl hx)) trivial hh,
      λτ hr hh=>QN (L:=[]) (tm:=st.tmps.set d p) τ (hr.elim (λx=>x) λhx=>by simp at hx) hh,λ_ _ _ _=>rfl⟩,h3.imp_right .inl⟩
  | old hs hu hh =>
    rw[Hb hu hh]at hbx
    refine Oper.wp_mono (λa' w' hA=>?_) (hs.sound h hid hbi hopv hbx (λτ ht=>htok τ (.inl ht)) hdd Q)
    obtain⟨h1,Γ',bs',ow',st',h2,h3,h4⟩:=hA
    exact⟨h1,Γ',bs',ow',st',h2,⟨h3.tm,by rw[Hb hu hh];exact h3.b1,by rw[Hb hu hh];exact h3.b2,λτ ht=>h3.keep τ λhx=>ht (.inl hx),λτ ht=>h3.got τ (hs.rs_of ht),λi hi _ _=>h3.un i hi⟩,h4⟩
  | callG d f args tys r ro oa ρ F ho hd hi hh F1 F3 hg =>
    have hop:∀x,x=f\/x∈args.toList->opv E.GE s.tmps x=opv E.GE st.tmps x:=λx hx=>hopv x (by rw[ho];simp[Op.operands,Call.operands];simpa using hx)
    have hown:∀x∈oa,((x.t,x.k),x.e)∈s.own->((x.t,x.k),x.e)∈st.own:=λx hx hm=>htok (false,(x.t,x.k),x.e) (.inl (va9 _ (vaZ _ (vag.2 ⟨x,hx,rfl⟩)))) hm
    have hst:=hbx (by rw[pT ho hd hi hh];decide)
    have hbox:∀i∈ρ,∀k e,g9 s (true,(i,k),e)->g9 st (true,(i,k),e):=λi hi k e hh=>htok _ (.inr ⟨rfl,vaU _ (vag.2 ⟨i,hi,rfl⟩)⟩) hh
    have hF:(F st.boxes).map aL=(F s.boxes).map aL:=by
      refine vbf λi=>?_
      rw[vav,vav]
      by_cases hi:i∈ρ
      ·rw[F3 _ _ i hst hi]
      ·rw[F1 _ _ hi,F1 _ _ hi];exact Py hst i
    refine Oper.wp_mono (λa' w' hA=>?_) (uH (id:=id) (K:=(·=⟨st.tmps.set d r,F st.boxes,(ro.map λx=>((d,x.1),x.2))++bu d (st.own.filter λz=>!oa.any λx=>z.1==(x.t,x.k))⟩)) h ho hd (hdd d hd) (hg st hop hown hst hbox) rfl Q)
    obtain⟨h1,Γ',bs',ow',st2,h2,rfl,h3⟩:=hA
    refine⟨h1,Γ',bs',ow',_,h2,⟨by rw[hd];exact⟨_,rfl,rfl⟩,λhc=>absurd (pT ho hd hi hh) hc,λ_=>hF,?_,?_,λi hb hn _=>F1 _ _ λhx=>hn (vaU _ (vag.2 ⟨i,hx,rfl⟩))⟩,h3.imp_right .inl⟩
    · rintro ⟨b,⟨t',k⟩,e'⟩ hr _ hh
      cases b with
      | true =>
        have hn:t'∉ρ:=λhx=>hr (.inr ⟨rfl,vaU _ (vag.2 ⟨t',hx,rfl⟩)⟩)
        obtain⟨cs,own,k1,k2⟩:=dK.1 hh
        exact⟨cs,own,by simp only;rw[F1 _ _ hn];exact k1,k2⟩
      | false =>
        have hr':cJ (false,(t',k),e')∉((false,d,0)::oa.map λx=>(false,x.t,0)):=λhx=>hr (.inl (va9 _ hx))
        simp only[cJ,vaB,Prod.mk.injEq,vcj,vci,vag,vcZ,not_exists,not_and]at hr'
        refine vaU _ (da (va1.2 ⟨bT.1 hh,?_⟩) hr'.1)
        simp only[va0,vbq,vaP,Prod.mk.injEq,not_and]
        exact λx hx e=>absurd e.symm (hr'.2 x hx)
    · rintro ⟨b,⟨t',k⟩,e'⟩ hr hh
      cases b with
      | true =>
        have hin:t'∈ρ:=by
          rcases hr with hx|⟨_,hx⟩
          ·simp[cJ]at hx
          · rcases vaw.1 hx with hx | hx
            ·simp at hx
            · obtain ⟨i,hi,he⟩:=vag.1 hx
              simp only[Prod.mk.injEq,vci,vcj]at he
              subst he;exact hi
        obtain⟨cs,own,k1,k2⟩:=dK.1 hh
        exact⟨cs,own,by simp only at k1 ⊢;rw[F3 _ _ t' hst hin];exact k1,k2⟩
      | false =>
        rcases vaw.1 (bT.1 hh)with hh|hh
        ·exact va9 _ hh
        · obtain ⟨h1,h2⟩:=cE hh
          obtain⟨h3,h4⟩:=bK h1
          have h5:((t',k),e')∈st.own:=htok (false,(t',k),e') hr h3
          exact vaU _ (da (va1.2 ⟨h5,h4⟩) h2)
  | callH d f args tys r ro oa ρ F ho hd hi F1 F4 F5 F6 hg =>
    have hop:∀x,x=f\/x∈args.toList->opv E.GE s.tmps x=opv E.GE st.tmps x:=λx hx=>hopv x (by rw[ho];simp[Op.operands,Call.operands];simpa using hx)
    have hown:∀x∈oa,((x.t,x.k),x.e)∈s.own->((x.t,x.k),x.e)∈st.own:=λx hx hm=>htok (false,(x.t,x.k),x.e) (.inl (vaZ _ (vag.2 ⟨x,hx,rfl⟩))) hm
    have hst:=hbx (by rw[Wc ho hd hi];decide)
    refine Oper.wp_mono (λa' w' hA=>?_) (uH (id:=id) (K:=(·=⟨st.tmps.set d r,F st.boxes,(ro.map λx=>((d,x.1),x.2))++bu d (st.own.filter λz=>!oa.any λx=>z.1==(x.t,x.k))⟩)) h ho hd (hdd d hd) (hg st hop hown hst) rfl Q)
    obtain⟨h1,Γ',bs',ow',st2,h2,rfl,h3⟩:=hA
    refine⟨h1,Γ',bs',ow',_,h2,⟨by rw[hd];exact⟨_,rfl,rfl⟩,λ_=>F4 _ hst,λhc=>absurd ((Wc (P:=P) ho hd hi).symm.trans hc) (by decide),?_,?_,λi _ _ hn=>F1 _ _ λhx=>hn (F6 i hx).2⟩,h3.imp_right .inl⟩
    · rintro ⟨b,⟨t',k⟩,e'⟩ hr hrow hh
      cases b with
      | true =>
        have hn:t'∉ρ:=λhx=>hrow rfl (F6 t' hx).1
        obtain⟨cs,own,k1,k2⟩:=dK.1 hh
        exact⟨cs,own,by simp only;rw[F1 _ _ hn];exact k1,k2⟩
      | false =>
        have hr':cJ (false,(t',k),e')∉((false,d,0)::oa.map λx=>(false,x.t,0)):=λhx=>hr (.inl hx)
        simp only[cJ,vaB,Prod.mk.injEq,vcj,vci,vag,vcZ,not_exists,not_and]at hr'
        refine vaU _ (da (va1.2 ⟨bT.1 hh,?_⟩) hr'.1)
        simp only[va0,vbq,vaP,Prod.mk.injEq,not_and]
        exact λx hx e=>absurd e.symm (hr'.2 x hx)
    · rintro ⟨b,⟨t',k⟩,e'⟩ hr hh
      cases b with
      | true =>
        rcases hr with hx|⟨_,hx⟩
        ·simp[cJ]at hx
        ·simp at hx
      | false =>
        rcases vaw.1 (bT.1 hh)with hh|hh
        ·exact va9 _ hh
        · obtain ⟨h1,h2⟩:=cE hh
          obtain⟨h3,h4⟩:=bK h1
          have h5:((t',k),e')∈st.own:=htok (false,(t',k),e') hr h3
          exact vaU _ (da (va1.2 ⟨h5,h4⟩) h2)
end
end Go.Proofs.YtkdahfeiedaahaaGreatDoor
