/- PROVED: a part of the proof. Conditions: none. -/
import Derived.Test.YtjddnhkahpfhdaaGreatDoorPkC3
import Derived.Test.YtjddnhkahpfhdaaGreatDoorPkC4
set_option linter.unusedSimpArgs false
set_option linter.unusedVariables false
noncomputable section
namespace Go.Proofs.YtjddnhkahpfhdaaGreatDoor
open Go
abbrev Rs:=Bool×Nat×Nat
abbrev Lw:=Bool×(Nat×Nat)×TypeId
def cx(τ:Lw):Rs:=match τ.1 with
 |false=>(false,τ.2.1.1,0)
 |true=>(true,τ.2.1.1,τ.2.1.2)
def fS(st:az)(τ:Lw):Prop:=match τ.1 with
 |false=>(τ.2.1,τ.2.2)∈st.own
 |true=>∃cs own,st.boxes[τ.2.1.1]? =some (.cells cs own)/\(τ.2.1.2,τ.2.2)∈own
def aD:av->av
 |.cells cs _=>.cells cs []
 |B=>B
theorem HE{H H2:List av}(h:H2.map aD=H.map aD)(i:Nat):(H2[i]?).map aD=(H[i]?).map aD:=by
 have:=vbp (λl=>l[i]?) h
 simpa[vax]using this
theorem rT{H H2:List av}(h:H2.map aD=H.map aD){i:Nat}{cs:List PVal}{own:List (Nat×TypeId)}(hi:H[i]? =some (.cells cs own)):∃own2,H2[i]? =some (.cells cs own2):=by
 have:=HE h i
 rw[hi]at this
 cases hB:H2[i]? with
 |none=>rw[hB]at this;cases this
 |some B=>
  rw[hB]at this
  cases B<;>simp[aD]at this
  subst this
  exact⟨_,rfl⟩
section
variable{P:Program}{GE:List (Nat×List PVal)}
theorem Jw{t:TypeId}{x:PVal}{H H2:List av}(h:H2.map aD=H.map aD):kI P t x H2=kI P t x H:=by
 unfold kI
 split
 ·rfl
 ·rename_i i off
  have hi:=HE h i
  generalize H2[i]? =o at hi
  generalize H[i]? =o' at hi
  rcases o with _|(_|_|_)<;>rcases o' with _|(_|_|_)<;>simp[aD]at hi ⊢
  subst hi;rfl
 ·rfl
theorem K7{t:TypeId}{x:PVal}{H H2:List av}(h:H2.map aD=H.map aD):wm P t x H2=wm P t x H:=by
 unfold wm
 split<;>first|rfl|skip
 rename_i i _
 have hi:=HE h i
 generalize H2[i]? =o at hi
 generalize H[i]? =o' at hi
 rcases o with _|(_|_|_)<;>rcases o' with _|(_|_|_)<;>simp[aD]at hi ⊢
 subst hi;rfl
theorem FA{t:TypeId}{m k:PVal}{ok:Bool}{H H2:List av}(h:H2.map aD=H.map aD):pN P t m k ok H2=pN P t m k ok H:=by
 unfold pN
 split
 ·rename_i kt e i _
  have hi:=HE h i
  generalize H2[i]? =o at hi
  generalize H[i]? =o' at hi
  rcases o with _|(_|_|_)<;>rcases o' with _|(_|_|_)<;>simp[aD]at hi ⊢
  subst hi;rfl
 ·rfl
theorem S0{op:Op}{id:Nat}{v:Operand->PVal}{H H2:List av}{p:PVal}(hc:bE P op≠3)(hm:aw op=false)(h:iW P op id v H=some (p,H))(h2:2<=bE P op->H2.map aD=H.map aD):iW P op id v H2=some (p,H2):=by
 by_cases hlt:bE P op<2
 ·exact Ri hlt hm h H2
 ·have hs:=h2 (by omega)
  have key:∀{q q':Option PVal},q'=q->(q.map λp=>(p,H))=some (p,H)->(q'.map λp=>(p,H2))=some (p,H2):=by
   intro q q' e hq
   obtain⟨z,hz,he⟩:=da hq
   cases he
   rw[e,hz];rfl
  unfold iW at h ⊢
  split at h
  all_goals first
   |(cases h;done)
   |(simp[bE]at hlt;done)
   |(simp[bE]at hc;done)
   |(simp[aw]at hm;done)
   |exact key (Jw hs) h
   |exact key (FA hs) h
   |exact key (K7 hs) h
def bq(P:Program)(rw:List Nat)(o:Oper):Nat:=match o.op with
 |.call {callee:=.value _,..}=>if(o.dst.any λd=>rw.contains (8 * d+1))=true then 3 else 0
 |op=>bE P op
theorem yz{rw:List Nat}{o:Oper}(h:∀f args tys,o.op≠.call {callee:=.value f,args,argTypes:=tys}):bq P rw o=bE P o.op:=by
 unfold bq
 split
 ·rename_i hx;exact absurd hx (h _ _ _)
 ·rfl
def Gs:Op->Bool
 |.call {callee:=.value _,..}=>true
 |_=>false
def pP(i off n:Nat):List Rs:=(List.range n).map λk=>(true,i,off+k)
def xy(t:Nat):Operand->Bool
 |.tmp t'=>t'==t
 |_=>false
theorem Gr{t:Nat}{x:Operand}(h:xy t x=true):x=.tmp t:=by
 cases x<;>simp[xy]at h
 rw[h]
def JL(GE:List (Nat×List PVal))(tmps:List PVal)(parts:List (Nat×Operand))(t:Nat)(q:PVal):List (Nat×PVal):=parts.map λx=>(x.1,if xy t x.2=true then q else opv GE tmps x.2)
def Wb(P:Program)(T:TypeId)(F:PVal->List (Nat×PVal))(k:Nat):Prop:=∀(b:Option Addr) (n m:Nat),∃cs,dF P T (F (.val (.slice b n m)))=some (.agg cs)/\cs[k]? =some (.val (.slice b n m))
inductive fM(P:Program)(GE:List (Nat×List PVal))(bi:Option (Nat×av))(rw:List Nat)(o:Oper)(id:Nat)(s:az):az->List Rs->Prop where
 | call (d:Nat) (f:Operand) (args:Array Operand) (tys:Array TypeId) (g:FuncId) (first cap:List PVal) (r:PVal) (ro:List (Nat×TypeId)) (ho:o.op = .call { callee := .value f,args,argTypes:=tys }) (hd:o.dst = some d)
   (hf:opv GE s.tmps f=.func (.func g) first cap) (hcl:dU 0 (first++args.toList.map (opv GE s.tmps)++cap)) (hc:C P GE g (first++args.toList.map (opv GE s.tmps)++cap) [] [] r ro []):
   fM P GE bi rw o id s ⟨s.tmps.set d r,s.boxes,(ro.map λx=>((d,x.1),x.2))++be d s.own⟩ [(false,d,0)]
 |alloc (d:Nat) (t:TypeId) (zs:List PVal) (ho:o.op=.alloc t) (hd:o.dst=some d) (hz:eX P t=some zs):fM P GE bi rw o id s ⟨s.tmps.set d (.bptr id 0),s.boxes,be d s.own⟩ [(false,d,0)]
 |mkmap (d:Nat) (t:TypeId) (ho:o.op=.makeMap t none) (hd:o.dst=some d):fM P GE bi rw o id s ⟨s.tmps.set d (.mapr id),s.boxes,be d s.own⟩ [(false,d,0)]
 | ev (d:Nat) (p:PVal) (hd:o.dst = some d) (hn:Gs o.op = false) (hm:aw o.op = false) (hc:bE P o.op ≠ 3) (h:iW P o.op id (opv GE s.tmps) s.boxes = some (p,s.boxes)) :
   fM P GE bi rw o id s ⟨s.tmps.set d p,s.boxes,be d s.own⟩ [(false,d,0)]
 | res (d:Nat) (p:PVal) (L:List (Nat×TypeId)) (hd:o.dst = some d)
   (h:(∃T len parts e,o.op=.buildSlice T len parts/\dS P T len (parts.toList.map λx=>(x.1,opv GE s.tmps x.2))=some p/\P.underlying T=some (.slice e)/\L=[(0,e)])\/
    (∃T parts,o.op=.build T parts/\dF P T (parts.toList.map λx=>(x.1,opv GE s.tmps x.2))=some p/\tB P T (parts.toList.map λx=>(x.1,opv GE s.tmps x.2)) L)\/
    (∃v e,(o.op=.assign (.const v)\/o.op=.move (.const v))/\nq P o.type v=some e/\p=.slice []/\L=[(0,e)])):
   fM P GE bi rw o id s ⟨s.tmps.set d p,s.boxes,(L.map λx=>((d,x.1),x.2))++be d s.own⟩ [(false,d,0)]
 | app (d t:Nat) (T e:TypeId) (y:Operand) (es ns:List (List PVal)) (p:PVal) (hd:o.dst = some d) (ho:o.op = .call { callee := .builtin .append,args:=⟨[.tmp t,y]⟩,argTypes:=⟨[T,T]⟩ })
   (hT:P.underlying T=some (.slice e)) (he:s.tmps.getD t .undef=.slice es) (hn:opv GE s.tmps y=.slice ns) (hp:eP P T es ns=some p) (hm:((t,0),e)∈s.own):
   fM P GE bi rw o id s ⟨s.tmps.set d p,s.boxes,((d,0),e)::be d (s.own.filter λx=>x.1 !=(t,0))⟩ [(false,d,0),(false,t,0)]
 | mv (d t:Nat) (hd:o.dst = some d) (ho:o.op = .assign (.tmp t)∨o.op = .move (.tmp t)) (hdt:d ≠ t) :
   fM P GE bi rw o id s ⟨s.tmps.set d (s.tmps.getD t .undef),s.boxes,gy d (λx=>if x.1=t then(d,x.2)else x) s.own⟩ [(false,d,0),(false,t,0)]
 | bmv (d t k:Nat) (T:TypeId) (parts:Array (Nat×Operand)) (p:PVal) (es:List (List PVal)) (hd:o.dst = some d) (ho:o.op = .build T parts) (hdt:d ≠ t) (ht:s.tmps.getD t .undef = .slice es) (hin:(parts.toList.any fun x => xy t x.2) = true)
   (hp:dF P T (parts.toList.map λx=>(x.1,opv GE s.tmps x.2))=some p) (hm:Wb P T (JL GE s.tmps parts.toList t) k):
   fM P GE bi rw o id s ⟨s.tmps.set d p,s.boxes,gy d (λx=>if x=(t,0)then(d,k)else x) s.own⟩ [(false,d,0),(false,t,0)]
 | ld (d:Nat) (T:TypeId) (x:Operand) (i off:Nat) (cs:List PVal) (own L:List (Nat×TypeId)) (p:PVal) (hd:o.dst = some d) (ho:o.op = .load T x) (hx:opv GE s.tmps x = .bptr i off) (hB:s.boxes[i]? = some (.cells cs own))
   (h:(∃e,P.underlying T=some (.slice e)/\cs[off]? =some p/\L=[(0,e)])\/(∃fs l,P.underlying T=some (.struct fs)/\aC P T (cs.drop off)=some (.agg l)/\p=.agg l/\(L.map (·.1)).Nodup/\∀y∈L,y.1<l.length))
   (hm:∀y∈L,(off+y.1,y.2)∈own):
   fM P GE bi rw o id s ⟨s.tmps.set d p,s.boxes.set i (.cells cs (own.filter λx=>!L.any λy=>x.1==off+y.1)),(L.map λy=>((d,y.1),y.2)).reverse++be d s.own⟩ ((false,d,0)::L.map λy=>(true,i,off+y.1))
 | st (T:TypeId) (x y:Operand) (i off:Nat) (vs cs:List PVal) (own:List (Nat×TypeId)) (hd:o.dst = none) (ho:o.op = .store T x y) (hx:opv GE s.tmps x = .bptr i off) (hvs:bv (opv GE s.tmps y) = some vs) (hB:s.boxes[i]? = some (.cells cs own))
   (hp:dh P T (.bptr i off) (opv GE s.tmps y) s.boxes=some (s.boxes.set i (.cells (cs.take off++vs++cs.drop (off+vs.length)) (own.filter λy=>y.1<off||off+vs.length<=y.1)))):
   fM P GE bi rw o id s ⟨s.tmps,s.boxes.set i (.cells (cs.take off++vs++cs.drop (off+vs.length)) (own.filter λy=>y.1<off||off+vs.length<=y.1)),s.own⟩ (pP i off vs.length)
 | sto (T:TypeId) (x:Operand) (t i off:Nat) (vs cs:List PVal) (own L:List (Nat×TypeId)) (hd:o.dst = none) (ho:o.op = .store T x (.tmp t)) (hx:opv GE s.tmps x = .bptr i off) (hvs:bv (s.tmps.getD t .undef) = some vs) (hB:s.boxes[i]? = some (.cells cs own))
   (hp:dh P T (.bptr i off) (s.tmps.getD t .undef) s.boxes=some (s.boxes.set i (.cells (cs.take off++vs++cs.drop (off+vs.length)) (own.filter λy=>y.1<off||off+vs.length<=y.1))))
   (hk:(∃l,s.tmps.getD t .undef=.agg l)\/((s.tmps.getD t .undef).one=true/\∃e,L=[(0,e)])) (hm:∀y∈L,((t,y.1),y.2)∈s.own) (hn:(L.map (·.1)).Nodup) (hl:∀y∈L,y.1<vs.length):
   fM P GE bi rw o id s ⟨s.tmps,s.boxes.set i (.cells (cs.take off++vs++cs.drop (off+vs.length)) ((L.map λy=>(off+y.1,y.2)).reverse++own.filter λy=>y.1<off||off+vs.length<=y.1)),s.own.filter λx=>!L.any λy=>x.1==(t,y.1)⟩
    ((false,t,0)::pP i off vs.length)
 |mu (t:TypeId) (m k x:Operand) (H:List av) (hd:o.dst=none) (ho:o.op=.mapUpdate t m k x) (hp:fh P t (opv GE s.tmps m) (opv GE s.tmps k) (opv GE s.tmps x) s.boxes=some H):fM P GE bi rw o id s ⟨s.tmps,H,s.own⟩ []
 | callR (d:Nat) (f:Operand) (args:Array Operand) (tys:Array TypeId) (r:PVal) (ro:List (Nat×TypeId)) (oa:List OA) (ho:o.op = .call { callee := .value f,args,argTypes:=tys }) (hd:o.dst = some d)
   (hg:∀st:az,(∀x,x=f\/x∈args.toList->opv GE s.tmps x=opv GE st.tmps x)->(∀x∈oa,((x.t,x.k),x.e)∈s.own->((x.t,x.k),x.e)∈st.own)->yf P GE f args.toList st r ro st.boxes oa):
   fM P GE bi rw o id s ⟨s.tmps.set d r,s.boxes,(ro.map λx=>((d,x.1),x.2))++be d (s.own.filter λz=>!oa.any λx=>z.1==(x.t,x.k))⟩ ((false,d,0)::oa.map λx=>(false,x.t,0))
 | cl (d i:Nat) (f x:Operand) (tys:Array TypeId) (g:FuncId) (e:TypeId) (es:List (List PVal)) (ho:o.op = .call { callee := .value f,args:=⟨[x]⟩,argTypes:=tys }) (hd:o.dst = some d) (hb:bi = some (i,.cells es.flatten []))
   (hf:opv GE s.tmps f=.func (.func g) [] []) (hx:opv GE s.tmps x=.slice es) (hC:rr P g e) (h0:0<P.cellsOf e) (h1:∀x∈es,x.length=P.cellsOf e/\∀q∈x,q.one=true) (h2:es.length<=cy):
   fM P GE bi rw o id s ⟨s.tmps.set d (.bsl i 0 es.length),s.boxes,be d s.own⟩ [(false,d,0)]
 | stR (T:TypeId) (x y:Operand) (i off:Nat) (cs cs':List PVal) (hd:o.dst = none) (ho:o.op = .store T x y) (hx:opv GE s.tmps x = .bptr i off) (hB:s.boxes[i]? = some (.cells cs []))
   (hp:dh P T (.bptr 0 off) (opv GE s.tmps y) [.cells cs []]=some [.cells cs' []]) (hi:2 * i∈rw):
   fM P GE bi rw o id s ⟨s.tmps,s.boxes.set i (.cells cs' []),s.own⟩ []
structure Va(P:Program)(rw:List Nat)(o:Oper)(s s':az)(rs:List Rs):Prop where
 tm:match o.dst with
  |some d=>∃p,s'.tmps=s.tmps.set d p
  |none=>s'.tmps=s.tmps
 bx:bq P rw o≠3->s'.boxes.map aD=s.boxes.map aD
 back:∀τ,cx τ∉rs->fS s' τ->fS s τ
theorem G0{H:List av}{i:Nat}{cs:List PVal}{own own':List (Nat×TypeId)}(hB:H[i]? =some (.cells cs own)):(H.set i (.cells cs own')).map aD=H.map aD:=by
 apply vbi
 intro j
 simp only[vax]
 by_cases hj:i=j
 ·subst hj
  rw[vag (ag hB),hB];rfl
 ·rw[vap hj]
theorem bL{st:az}{t k:Nat}{e:TypeId}:fS st (false,(t,k),e)↔((t,k),e)∈st.own:=Iff.rfl
theorem cK{st:az}{i j:Nat}{e:TypeId}:fS st (true,(i,j),e)↔∃cs own,st.boxes[i]? =some (.cells cs own)/\(j,e)∈own:=Iff.rfl
theorem mm{i off n i' j':Nat}:(true,i',j')∈pP i off n↔i'=i/\off<=j'/\j'<off+n:=by
 unfold pP
 simp only[vah,vbg,Prod.mk.injEq,vb6]
 constructor
 ·rintro⟨k,hk,rfl,rfl⟩;exact⟨rfl,by omega,by omega⟩
 ·rintro⟨rfl,h1,h2⟩;exact⟨j' - off,by omega,rfl,by omega⟩
theorem dg{d:Nat}{own:List ((Nat×Nat)×TypeId)}{x:(Nat×Nat)×TypeId}(h:x∈own)(hd:x.1.1≠d):x∈be d own:=by
 unfold be;exact vaW.2 ⟨h,by simpa using hd⟩
theorem uV{t:TypeId}{m k v:PVal}{H H':List av}(h:fh P t m k v H=some H'):∃i es es',H[i]? =some (.map es)/\H'=H.set i (.map es'):=by
 unfold fh at h
 split at h
 ·rename_i kt e i _ _
  split at h
  ·rename_i es kd hB _
   split at h
   ·split at h
    ·cases h;exact⟨_,es,_,hB,rfl⟩
    ·cases h;exact⟨_,es,_,hB,rfl⟩
    ·cases h
   ·cases h
  ·cases h
 ·cases h
theorem eT{st:az}{tm:List PVal}{ow:List ((Nat×Nat)×TypeId)}{i:Nat}{B:av}{i' j':Nat}{e:TypeId}(hne:i≠i'):fS ⟨tm,st.boxes.set i B,ow⟩ (true,(i',j'),e)↔fS st (true,(i',j'),e):=by
 simp only[cK,vap hne]
theorem fM.eff{bi:Option (Nat×av)}{rw:List Nat}{o:Oper}{id:Nat}{s s':az}{rs:List Rs}(h:fM P GE bi rw o id s s' rs):Va P rw o s s' rs:=by
 have slot:∀{d:Nat} {p:PVal} {L:List (Nat×TypeId)} {rs:List Rs} {τ:Lw},(false,d,0)∈rs->cx τ∉rs->fS ⟨s.tmps.set d p,s.boxes,(L.map λx=>((d,x.1),x.2))++be d s.own⟩ τ->fS s τ:=by
  rintro d p L rs ⟨b,⟨t,k⟩,e⟩ hd hr hh
  cases b with
  |true=>exact hh
  | false =>
   rcases vaJ.1 (bL.1 hh)with hh|hh
   ·simp only[vah,Prod.mk.injEq]at hh
    obtain⟨x,_,⟨rfl,_⟩,_⟩:=hh
    exact absurd hd hr
   ·exact(ck hh).1
 have slot0:∀{d:Nat} {p:PVal} {rs:List Rs} {τ:Lw},(false,d,0)∈rs->cx τ∉rs->fS ⟨s.tmps.set d p,s.boxes,be d s.own⟩ τ->fS s τ:=λ{d p rs τ} hd hr hh=>slot (L:=[]) hd hr hh
 cases h with
 |call d f args tys g first cap r ro ho hd hf hcl hc=>exact⟨by rw[hd];exact⟨r,rfl⟩,λ_=>rfl,λτ hr hh=>slot (by simp) hr hh⟩
 |alloc d t zs ho hd hz=>exact⟨by rw[hd];exact⟨_,rfl⟩,λ_=>rfl,λτ hr hh=>slot0 (by simp) hr hh⟩
 |mkmap d t ho hd=>exact⟨by rw[hd];exact⟨_,rfl⟩,λ_=>rfl,λτ hr hh=>slot0 (by simp) hr hh⟩
 |ev d p hd hn hm hc h=>exact⟨by rw[hd];exact⟨_,rfl⟩,λ_=>rfl,λτ hr hh=>slot0 (by simp) hr hh⟩
 |res d p L hd h=>exact⟨by rw[hd];exact⟨_,rfl⟩,λ_=>rfl,λτ hr hh=>slot (by simp) hr hh⟩
 | app d t T e y es ns p hd ho hT he hn hp hm =>
  refine⟨by rw[hd];exact⟨_,rfl⟩,λ_=>rfl,?_⟩
  rintro⟨b,⟨t',k⟩,e'⟩ hr hh
  cases b with
  |true=>exact hh
  | false =>
   rcases vat.1 (bL.1 hh)with hh|hh
   ·cases hh;exact absurd (by simp[cx]) hr
   ·exact(bk (ck hh).1).1
 | mv d t hd ho hdt =>
  refine⟨by rw[hd];exact⟨_,rfl⟩,λ_=>rfl,?_⟩
  rintro⟨b,⟨t',k⟩,e'⟩ hr hh
  cases b with
  |true=>exact hh
  | false =>
   have hh:=bL.1 hh
   simp only[gy,vah]at hh
   obtain⟨⟨⟨t2,k2⟩,e2⟩,hx,he⟩:=hh
   simp only[Prod.mk.injEq]at he
   obtain⟨he,rfl⟩:=he
   split at he
   ·cases he;exact absurd (by simp[cx]) hr
   ·cases he;exact(ck hx).1
 | bmv d t k T parts p es hd ho hdt ht hin hp hm =>
  refine⟨by rw[hd];exact⟨_,rfl⟩,λ_=>rfl,?_⟩
  rintro⟨b,⟨t',k'⟩,e'⟩ hr hh
  cases b with
  |true=>exact hh
  | false =>
   have hh:=bL.1 hh
   simp only[gy,vah]at hh
   obtain⟨⟨⟨t2,k2⟩,e2⟩,hx,he⟩:=hh
   simp only[Prod.mk.injEq]at he
   obtain⟨he,rfl⟩:=he
   split at he
   ·cases he;exact absurd (by simp[cx]) hr
   ·cases he;exact(ck hx).1
 | ld d T x i off cs own L p hd ho hx hB h hm =>
  refine⟨by rw[hd];exact⟨_,rfl⟩,λ_=>G0 hB,?_⟩
  rintro⟨b,⟨t',k⟩,e'⟩ hr hh
  cases b with
  | true =>
   by_cases hi:i=t'
   ·subst hi
    obtain⟨cs',own',h1,h2⟩:=cK.1 hh
    simp only[vag (ag hB),var,av.cells.injEq]at h1
    obtain⟨rfl,rfl⟩:=h1
    exact⟨_,_,hB,(bk h2).1⟩
   ·exact(eT hi).1 hh
  | false =>
   rcases vaJ.1 (bL.1 hh)with hh|hh
   ·simp only[vcr,vah,Prod.mk.injEq]at hh
    obtain⟨y,_,⟨rfl,_⟩,_⟩:=hh
    exact absurd (by simp[cx]) hr
   ·exact(ck hh).1
 | st T x y i off vs cs own hd ho hx hvs hB hp =>
  refine⟨by rw[hd],λhc=>absurd (by simp[bq,bE,ho]) hc,?_⟩
  rintro⟨b,⟨t',k⟩,e'⟩ hr hh
  cases b with
  |false=>exact hh
  | true =>
   by_cases hi:i=t'
   ·subst hi
    obtain⟨cs',own',h1,h2⟩:=cK.1 hh
    simp only[vag (ag hB),var,av.cells.injEq]at h1
    obtain⟨rfl,rfl⟩:=h1
    exact⟨_,_,hB,(bk h2).1⟩
   ·exact(eT hi).1 hh
 | sto T x t i off vs cs own L hd ho hx hvs hB hp hk hm hn hl =>
  refine⟨by rw[hd],λhc=>absurd (by simp[bq,bE,ho]) hc,?_⟩
  rintro⟨b,⟨t',k⟩,e'⟩ hr hh
  cases b with
  |false=>exact(bk (bL.1 hh)).1
  | true =>
   by_cases hi:i=t'
   ·subst hi
    obtain⟨cs',own',h1,h2⟩:=cK.1 hh
    simp only[vag (ag hB),var,av.cells.injEq]at h1
    obtain⟨rfl,rfl⟩:=h1
    rcases vaJ.1 h2 with h2|h2
    ·simp only[vcr,vah,Prod.mk.injEq]at h2
     obtain⟨y,hy,rfl,_⟩:=h2
     refine absurd (vaH _ (mm.2 ⟨rfl,?_,?_⟩)) hr
     ·simp
     ·have:=hl y hy;simp;omega
    ·exact⟨_,_,hB,(bk h2).1⟩
   ·exact(eT hi).1 hh
 | mu t m k x H hd ho hp =>
  refine⟨by rw[hd],λhc=>absurd (by simp[bq,bE,ho]) hc,?_⟩
  obtain⟨i,es,es',hB,rfl⟩:=uV hp
  rintro⟨b,⟨t',k⟩,e'⟩ hr hh
  cases b with
  |false=>exact hh
  | true =>
   by_cases hi:i=t'
   ·subst hi
    obtain⟨cs',own',h1,h2⟩:=cK.1 hh
    simp only[vag (ag hB),var]at h1
    cases h1
   ·exact(eT hi).1 hh
 | callR d f args tys r ro oa ho hd hg =>
  refine⟨by rw[hd];exact⟨r,rfl⟩,λ_=>rfl,?_⟩
  rintro⟨b,⟨t',k⟩,e'⟩ hr hh
  cases b with
  |true=>exact hh
  | false =>
   rcases vaJ.1 (bL.1 hh)with hh|hh
   ·simp only[vah,Prod.mk.injEq]at hh
    obtain⟨x,_,⟨rfl,_⟩,_⟩:=hh
    exact absurd (by simp[cx]) hr
   ·exact(bk (ck hh).1).1
 |cl d i f x tys g e es ho hd hb hf hx hC h0 h1 h2=>exact⟨by rw[hd];exact⟨_,rfl⟩,λ_=>rfl,λτ hr hh=>slot0 (by simp) hr hh⟩
 | stR T x y i off cs cs' hd ho hx hB hp hi =>
  refine⟨by rw[hd],λhc=>absurd (by simp[bq,bE,ho]) hc,?_⟩
  rintro⟨b,⟨t',k⟩,e'⟩ hr hh
  cases b with
  |false=>exact hh
  | true =>
   by_cases hi':i=t'
   ·subst hi'
    obtain⟨cs1,own1,k1,k2⟩:=cK.1 hh
    simp only[vag (ag hB),var,av.cells.injEq]at k1
    obtain⟨rfl,rfl⟩:=k1
    cases k2
   ·exact(eT hi').1 hh
theorem I4{H H2:List av}(h:H2.map aD=H.map aD){i:Nat}{es:List (PVal×PVal)}(hi:H[i]? =some (.map es)):H2[i]? =some (.map es):=by
 have:=HE h i
 rw[hi]at this
 cases hB:H2[i]? with
 |none=>rw[hB]at this;cases this
 |some B=>
  rw[hB]at this
  cases B<;>simp[aD]at this
  subst this
  rfl
theorem sn{H H2:List av}(h:H2.map aD=H.map aD){i:Nat}{B B2:av}(hB:aD B2=aD B):(H2.set i B2).map aD=(H.set i B).map aD:=by
 rw[List.map_set,List.map_set,h,hB]
theorem FB{t:TypeId}{m k v:PVal}{H H' H2:List av}(hs:H2.map aD=H.map aD)(h:fh P t m k v H=some H'):∃i es',m=.mapr i/\H'=H.set i (.map es')/\fh P t m k v H2=some (H2.set i (.map es')):=by
 unfold fh at h ⊢
 split at h
 ·split at h
  ·rename_i es kd hB hk
   split at h
   ·rename_i hkk
    split at h
    ·rename_i hf;cases h;refine⟨_,_,rfl,rfl,?_⟩;simp only[I4 hs hB,hk,vaA hkk,hf]
    ·rename_i hf;cases h;refine⟨_,_,rfl,rfl,?_⟩;simp only[I4 hs hB,hk,vaA hkk,hf]
    ·cases h
   ·cases h
  ·cases h
 ·cases h
structure N3(P:Program)(bs:bp)(rw:List Nat)(o:Oper)(st st' s s':az)(rs:List Rs):Prop where
 tm:match o.dst with
  |some d=>∃p,st'.tmps=st.tmps.set d p/\s'.tmps=s.tmps.set d p
  |none=>st'.tmps=st.tmps/\s'.tmps=s.tmps
 b1:bq P rw o≠3->st'.boxes.map aD=st.boxes.map aD
 b2:bq P rw o=3->st'.boxes.map aD=s'.boxes.map aD
 keep:∀τ,cx τ∉rs->(τ.1=true->2 * τ.2.1.1∉rw)->fS st τ->fS st' τ
 got:∀τ,cx τ∈rs->fS s' τ->fS st' τ
 un:∀i:Nat,bs[i]? =some none->st'.boxes[i]? =st.boxes[i]?
theorem Br{st:az}{tm:List PVal}{d:Nat}{L:List (Nat×TypeId)}{rs:List Rs}{R:Lw->Prop}(hd:(false,d,0)∈rs)(τ:Lw)(hr:cx τ∉rs)(_:R τ)(h:fS st τ):fS ⟨tm,st.boxes,(L.map λx=>((d,x.1),x.2))++be d st.own⟩ τ:=by
 obtain⟨b,⟨t,k⟩,e⟩:=τ
 cases b with
 |true=>exact h
 |false=>exact vaO _ (dg (bL.1 h) λhx=>by simp only at hx;subst hx;exact hr hd)
theorem I5{st s:az}{tm tm':List PVal}{d:Nat}{L:List (Nat×TypeId)}(τ:Lw)(hr:cx τ∈[(false,d,0)])(h:fS ⟨tm',s.boxes,(L.map λx=>((d,x.1),x.2))++be d s.own⟩ τ):fS ⟨tm,st.boxes,(L.map λx=>((d,x.1),x.2))++be d st.own⟩ τ:=by
 obtain⟨b,⟨t,k⟩,e⟩:=τ
 cases b with
 |true=>simp[cx]at hr
 | false =>
  rcases vaJ.1 (bL.1 h)with h|h
  ·exact va5 _ h
  ·have:=(ck h).2
   simp[cx]at hr
   exact absurd hr this
section
variable{E:mo}{Γ:ax}{bs:bp}{ow:Nat->Option jx}{w:World}{a:Act}{st:az}
theorem y9{T:TypeId}{i off:Nat}{y:PVal}{vs cs:List PVal}{own:List (Nat×TypeId)}{H H':List av}(hvs:bv y=some vs)(hB:H[i]? =some (.cells cs own))(hp:dh P T (.bptr i off) y H=some H'){H2:List av}{own2:List (Nat×TypeId)}(hB2:H2[i]? =some (.cells cs own2)):dh P T (.bptr i off) y H2=some (H2.set i (.cells (cs.take off++vs++cs.drop (off+vs.length)) (own2.filter λy=>y.1<off||off+vs.length<=y.1))):=by
 simp only[dh,hvs,hB]at hp
 simp only[dh,hvs,hB2]
 split at hp
 ·rename_i hc;rw[vaA hc]
 ·cases hp
theorem Lc{T:TypeId}{i off:Nat}{y:PVal}{cs cs':List PVal}{own2:List (Nat×TypeId)}{H:List av}(hp:dh P T (.bptr 0 off) y [.cells cs []]=some [.cells cs' []])(hB:H[i]? =some (.cells cs own2)):∃own',dh P T (.bptr i off) y H=some (H.set i (.cells cs' own')):=by
 unfold dh at hp ⊢
 split at hp
 ·rename_i i' off' vs h1 h2
  cases h1
  simp only[List.getElem?_cons_zero]at hp
  simp only[h2,hB]
  split at hp
  ·rename_i hc
   rw[vaA hc]
   simp only[List.set_cons_zero,var,vbM,av.cells.injEq,vb5]at hp
   obtain⟨rfl,_⟩:=hp
   exact⟨_,rfl⟩
  ·cases hp
 ·cases hp
theorem SR.fillBox{a:Array Value}(h:SR P E Γ bs ow w a st){i:Nat}(hid:bs[i]? =some none){cs:List PVal}(hB:st.boxes[i]? =some (.cells cs []))(hno:AD cs=true)(xb:Option Nat)
  (hx:∀b,xb=some b->(∃cur t,w.heap[b]? =some (.cells cur t (0,0))/\cs.length<=cur.size/\∀(j:Nat) p v,cs[j]? =some p->cur[j]? =some v->VR Γ bs w p v)/\Γ b=none/\(E.T b\/E.w.heap.size<=b)/\∀i:Nat,bs[i]? ≠some (some b)):
  SR P E Γ (bs.set i xb) ow w a st:=by
 have hs:bs.Sub (bs.set i xb):=λj b hb=>vd hid hb
 have hlt:i<bs.length:=ag hid
 have hcase:∀{j b:Nat},(bs.set i xb)[j]? =some (some b)->(j=i/\xb=some b)\/(j≠i/\bs[j]? =some (some b)):=by
  intro j b hb
  by_cases hj:j=i
  ·subst hj
   rw[vag hlt]at hb
   exact .inl ⟨rfl,by simpa using hb⟩
  ·rw[vap (λe=>hj e.symm)]at hb
   exact .inr ⟨hj,hb⟩
 exact{h with
  tm:=λt p v hp hv=>(h.tm t p v hp hv).mono (.refl _ _) hs
  bl:=by simp[h.bl]
  bx:=λj b B hb hB'=>by
   rcases hcase hb with⟨rfl,hb'⟩|⟨hj,hb'⟩
   ·obtain⟨⟨cur,t,k1,k2,k3⟩,k4,k5,k6⟩:=hx b hb'
    rw[hB]at hB'
    cases hB'
    exact⟨k4,(vaf.1 k1).1,cur,t,k1,k2,λj p v hp hv=>(k3 j p v hp hv).mono (.refl _ _) hs,AE hno _ _⟩
   ·obtain⟨h1,h2,h3⟩:=h.bx j b B hb' hB'
    exact⟨h1,h2,h3.mono (.refl _ _) hs rfl⟩
  inj:=λj k b hj hk=>by
   rcases hcase hj with⟨rfl,hj'⟩|⟨_,hj'⟩<;>rcases hcase hk with⟨rfl,hk'⟩|⟨_,hk'⟩
   ·rfl
   ·exact absurd hk' ((hx b hj').2.2.2 k)
   ·exact absurd hj' ((hx b hk').2.2.2 j)
   ·exact h.inj j k b hj' hk'
  bn:=λj b hb=>by
   rcases hcase hb with⟨rfl,hb'⟩|⟨_,hb'⟩
   ·exact(hx b hb').2.2.1
   ·exact h.bn j b hb'
  ob:=λj k e cs' own b hB' hj hb=>by
   rcases hcase hb with⟨rfl,hb'⟩|⟨_,hb'⟩
   ·rw[hB]at hB'
    cases hB'
    simp at hj
   ·exact h.ob j k e cs' own b hB' hj hb'
  gl:=λg cs hg=>(h.gl g cs hg).mono (.refl _ _) hs}
theorem Ki{a:Array Value}(h:SR P E Γ bs ow w a st){i:Nat}(hid:bs[i]? =some none){ns:List (List PVal)}(hB:st.boxes[i]? =some (.cells ns.flatten [])){f:FuncId}{e:TypeId}{x:Value}(hC:rr P f e)(hx:VR Γ bs w (.slice ns) x)(hsz0:0<P.cellsOf e)(hns1:∀x∈ns,x.length=P.cellsOf e/\∀q∈x,q.one=true)(hlen:ns.length<=cy):Calls P f #[x] w λr w'=>∃v' xb,r=.returned v'/\SR P E Γ (bs.set i xb) ow w' a st/\VR Γ (bs.set i xb) w' (.bsl i 0 ns.length) v':=by
 obtain⟨news,hnx,hnl,hn1,hnv⟩:=CF hx hsz0 hns1
 refine(hC.2 w x ns.length news hnx hnl hn1 hlen).mono λr w' hr=>?_
 obtain⟨v',rfl,hown,hb,hbd⟩:=hr
 obtain⟨hle,hS⟩:=Bl h hb hbd
 rcases hown.2 with⟨rfl,hn⟩|⟨g,cap,cur,rfl,hge,hheap,hnc,hcm,hcs,htake⟩
 ·have hns0:ns=[]:=vai hn
  subst hns0
  exact⟨_,none,rfl,hS.fillBox hid hB (lj hns1) none (λb hb=>by cases hb),.bsl _ _ _ _ _ (vaQ _) (λ_=>rfl) (.inl rfl)⟩
 ·refine⟨_,some g,rfl,hS.fillBox hid hB (lj hns1) (some g) (λb hb'=>?_),?_⟩
  ·cases hb'
   refine⟨⟨cur,e,hheap,vW hsz0 (λx hx=>(hns1 x hx).1) λi x k q hx hq=>?_⟩,?_,.inr (vav h.step.size hge),λi hi=>?_⟩
   ·obtain⟨u,k1,k2⟩:=hnv i x k q hx hq
    refine⟨u,?_,k2.mono hle (.refl _)⟩
    have hlt:=ag k1
    rw[<-htake,vas (by omega)]at k1
    simpa using k1
   ·cases hg:Γ g with
    |none=>rfl
    |some m=>exact absurd (h.lt_of_ghost hg) (by omega)
   ·have:=(h.bx i g (st.boxes[i]'(by rw[<-h.bl];exact ag hi)) hi (by simp)).2.1
    omega
  ·exact .bsl _ _ _ _ _ hnc (λh=>by cases h) (.inr ⟨g,rfl,vag (ag hid)⟩)
theorem NI{es:List (List PVal)}{u:Value}(h:VR Γ bs w (.slice es) u):∃b n m,u=.slice b n m:=by
 cases h<;>exact⟨_,_,_,rfl⟩
theorem E6(h:SR P E Γ bs ow w a.tmps st){o:Oper}{id d t k:Nat}{T:TypeId}{parts:Array (Nat×Operand)}{p:PVal}{es:List (List PVal)}{K:az->Prop}(ho:o.op=.build T parts)(hdst:o.dst=some d)(hd:d<st.tmps.length)(hg:st.tmps.getD t .undef=.slice es)
  (hp:dF P T (parts.toList.map λx=>(x.1,opv E.GE st.tmps x.2))=some p) (hm:Wb P T (JL E.GE st.tmps parts.toList t) k)
  (hK:K ⟨st.tmps.set d p,st.boxes,gy d (λx=>if x=(t,0)then(d,k)else x) st.own⟩) (Q:Exit->Act->World->Prop):
  o.wp P a w (ez P E bs id (aw o.op) a.defers K) Q:=by
 have hρ:∀x,VR Γ bs w (opv E.GE st.tmps x) (a.eval x):=λx=>h.opv a.defers x
 obtain⟨k1,k2⟩:=qJ hρ parts.toList
 obtain⟨v,r1,r2⟩:=rX k1 k2 hp
 have hu:VR Γ bs w (.slice es) (a.eval (.tmp t)):=by
  have:=hρ (.tmp t)
  rwa[show opv E.GE st.tmps (.tmp t)=st.tmps.getD t .undef from rfl,hg]at this
 obtain⟨b,n,m,hu⟩:=NI hu
 obtain⟨cs,hcs,hck⟩:=hm b n m
 have hρ2:∀x:Operand,VR Γ bs w (if xy t x=true then .val (.slice b n m)else opv E.GE st.tmps x) (a.eval x):=λx=>by
  split
  ·rename_i hx
   rw[Gr hx,hu]
   exact .val _
  ·exact hρ x
 obtain⟨l1,l2⟩:=qJ (v:=λx=>if xy t x=true then .val (.slice b n m)else opv E.GE st.tmps x) hρ2 parts.toList
 obtain⟨v2,s1,s2⟩:=rX l1 l2 hcs
 rw[r1]at s1
 cases s1
 have hrun:(execOp a.eval o).run P w=.ok (.value v) w:=by
  have:(parts.map λx=>(x.1,a.eval x.2))=(parts.toList.map λx=>(x.1,a.eval x.2)).toArray:=by apply vbB;simp
  simp only[execOp,ho]
  rw[this]
  simp[r1]
 unfold Oper.wp
 rw[hrun,Oper.upon_value]
 have hpv:eW v k=some (.slice b n m):=by
  cases s2 with
  |agg _ vs hl hv=>
   have hlt:k<vs.size:=by rw[hl];exact ag hck
   have:=hv k _ vs[k] hck (by simp[hlt])
   show vs[k]? =_
   rw[vaE hlt]
   generalize vs[k]=q at this
   cases this
   rfl
 have:=h.setRen (d:=d) (p:=p) r2 (λx=>if x=(t,0)then(d,k)else x) (by rw[h.sz];exact hd) λt' k' e' _ ht'=>by
  by_cases hx:((t',k'):Nat×Nat)=(t,0)
  ·cases hx
   refine .inr ⟨k,by simp,λu v' hu' hv' _=>?_⟩
   rw[aL hu']at hu
   subst hu
   have:v'=.slice b n m:=by
    simp only[eW,if_true,var]at hv'
    exact hv'.symm
   rw[this];exact hpv
  ·exact .inl (vaz hx)
 have hput:∀v,(a.put o.dst v).tmps=a.tmps.setIfInBounds d v:=λv=>by rw[hdst];rfl
 rw[<-hput]at this
 exact⟨aT _ _ _,Γ,bs,_,_,this,hK,.inl rfl⟩
theorem fM.sound(h:SR P E Γ bs ow w a.tmps st){bi:Option (Nat×av)}{rw:List Nat}{o:Oper}{id:Nat}{s s':az}{rs:List Rs}(hs:fM P E.GE bi rw o id s s' rs)(hid:aw o.op=true->bs[id]? =some none/\st.boxes[id]? =jD P o)(hbi:∀i B,bi=some (i,B)->bs[i]? =some none/\st.boxes[i]? =some B)
    (hopv:∀x∈o.op.operands.toList,opv E.GE s.tmps x=opv E.GE st.tmps x) (hbx:2<=bq P rw o->st.boxes.map aD=s.boxes.map aD) (htok:∀τ,cx τ∈rs->fS s τ->fS st τ) (hdd:∀d,o.dst=some d->d<st.tmps.length)
    (Q:Exit->Act->World->Prop):
    o.wp P a w (λa' w'=>a'.defers=a.defers/\∃Γ' bs' ow' st',SR P E Γ' bs' ow' w' a'.tmps st'/\N3 P bs rw o st st' s s' rs/\(bs'=bs\/(aw o.op=true/\∃b,bs'=bs.set id (some b))\/∃i B x,bi=some (i,B)/\bs'=bs.set i x)) Q:=by
  have fin:∀{st'},N3 P bs rw o st st' s s' rs->o.wp P a w (ez P E bs id (aw o.op) a.defers (·=st')) Q->o.wp P a w (λa' w'=>a'.defers=a.defers/\∃Γ' bs' ow' st',SR P E Γ' bs' ow' w' a'.tmps st'/\N3 P bs rw o st st' s s' rs/\(bs'=bs\/(aw o.op=true/\∃b,bs'=bs.set id (some b))\/∃i B x,bi=some (i,B)/\bs'=bs.set i x)) Q:=by
    intro st' hD hw
    refine Oper.wp_mono (λa' w' hA=>?_) hw
    obtain⟨h1,Γ',bs',ow',st2,h2,rfl,h3⟩:=hA
    exact⟨h1,Γ',bs',ow',_,h2,hD,h3.imp_right .inl⟩
  have hid':aw o.op=true->bs[id]? =some none:=λhm=>(hid hm).1
  have live:∀{x:Operand} {i off:Nat},opv E.GE st.tmps x=.bptr i off->∃b,bs[i]? =some (some b):=by
    intro x i off hx
    have hv:=h.opv a.defers x
    rw[hx]at hv
    generalize (Act.mk a.tmps a.defers).eval x=vx at hv
    cases hv with
    |bptr _ _ b hb=>exact⟨b,hb⟩
  cases hs with
  | call d f args tys g first cap r ro ho hd hf hcl hc =>
    have hop:∀x,x=f\/x∈args.toList->opv E.GE s.tmps x=opv E.GE st.tmps x:=λx hx=>hopv x (by rw[ho];simp[Op.operands,Call.operands];simpa using hx)
    have hargs:args.toList.map (opv E.GE s.tmps)=args.toList.map (opv E.GE st.tmps):=va9 λx hx=>hop x (.inr hx)
    rw[hargs]at hcl hc
    rw[hop f (.inl rfl)]at hf
    refine fin (st':=⟨st.tmps.set d r,st.boxes,(ro.map λx=>((d,x.1),x.2))++be d st.own⟩) ⟨by rw[hd];exact⟨r,rfl,rfl⟩,λ_=>rfl,λhc=>hbx (by rw[hc];decide),Br (by simp),I5,λ_ _=>rfl⟩ ?_
    refine ez.of h hid' (by simp[jA,ho,hd,hdd d hd]) ?_ Q
    unfold Fx
    rw[ho]
    simp only[xG,hf]
    refine .inl ⟨hcl,r,ro,hc,?_⟩
    rw[hd];rfl
  | alloc d t zs ho hd hz =>
    have hpre:=(hid (by rw[ho];rfl)).2
    simp only[jD,ho,hz]at hpre
    refine fin (st':=⟨st.tmps.set d (.bptr id 0),st.boxes,be d st.own⟩) ⟨by rw[hd];exact⟨_,rfl,rfl⟩,λ_=>rfl,λhc=>by simp[bq,bE,ho]at hc,Br (L:=[]) (by simp),I5 (L:=[]),λ_ _=>rfl⟩ ?_
    refine ez.of h hid' (by simp[jA,ho]) ?_ Q
    unfold Fx
    rw[ho]
    simp only[iW,hz,vak,zd hpre]
    rw[hd];rfl
  | mkmap d t ho hd =>
    have hpre:=(hid (by rw[ho];rfl)).2
    simp only[jD,ho]at hpre
    refine fin (st':=⟨st.tmps.set d (.mapr id),st.boxes,be d st.own⟩) ⟨by rw[hd];exact⟨_,rfl,rfl⟩,λ_=>rfl,λhc=>by simp[bq,bE,ho]at hc,Br (L:=[]) (by simp),I5 (L:=[]),λ_ _=>rfl⟩ ?_
    refine ez.of h hid' (by simp[jA,ho]) ?_ Q
    unfold Fx
    rw[ho]
    simp only[iW,zd hpre]
    rw[hd];rfl
  | ev d p hd hn hm hc hp =>
    have hnc:∀f args tys,o.op≠.call {callee:=.value f,args,argTypes:=tys}:=λf args tys e=>by rw[e]at hn;cases hn
    rw[yz hnc]at hbx
    have hp2:=S0 (H2:=st.boxes) hc hm hp λh2=>hbx h2
    rw[PE hopv]at hp2
    refine fin (st':=⟨st.tmps.set d p,st.boxes,be d st.own⟩) ⟨by rw[hd];exact⟨_,rfl,rfl⟩,λ_=>rfl,λhc'=>by rw[yz hnc]at hc';exact absurd hc' hc,Br (L:=[]) (by simp),I5 (L:=[]),λ_ _=>rfl⟩ ?_
    refine ez.of h hid' ?_ ?_ Q
    · unfold jA
      split
      ·rename_i f args tys ho;exact absurd ho (hnc _ _ _)
      ·rfl
    · unfold Fx
      split
      ·rename_i f args tys ho;exact absurd ho (hnc _ _ _)
      · rw [hp2]
        show qg st o.dst p [] st.boxes=_
        rw[hd];rfl
  | res d p L hd hh =>
    have hcl:bq P rw o≠3:=by
      rcases hh with⟨T,len,parts,e,ho,_⟩|⟨T,parts,ho,_⟩|⟨v,e,ho|ho,_⟩<;>simp[bq,bE,ho]
    refine fin (st':=⟨st.tmps.set d p,st.boxes,(L.map λx=>((d,x.1),x.2))++be d st.own⟩) ⟨by rw[hd];exact⟨_,rfl,rfl⟩,λ_=>rfl,λhc=>absurd hc hcl,Br (by simp),I5,λ_ _=>rfl⟩ ?_
    rcases hh with⟨T,len,parts,e,ho,h1,h2,rfl⟩|⟨T,parts,ho,h1,h2⟩|⟨v,e,ho,h1,rfl,rfl⟩
    · have hpt:(parts.toList.map fun x => (x.1,opv E.GE s.tmps x.2)) = parts.toList.map fun x => (x.1,opv E.GE st.tmps x.2):=va9 fun x hx => by rw [hopv x.2 (by rw [ho]; simp only [Op.operands]; exact vah.2 ⟨x,hx,rfl⟩)]
      rw[hpt]at h1
      exact qz (K:=(·=_)) h ho hd (hdd d hd) h2 h1 rfl Q
    · have hpt:(parts.toList.map fun x => (x.1,opv E.GE s.tmps x.2)) = parts.toList.map fun x => (x.1,opv E.GE st.tmps x.2):=va9 fun x hx => by rw [hopv x.2 (by rw [ho]; simp only [Op.operands]; exact vah.2 ⟨x,hx,rfl⟩)]
      rw[hpt]at h1 h2
      exact um (K:=(·=_)) h ho hd (hdd d hd) h1 h2 rfl Q
    ·exact AC (K:=(·=_)) h ho hd (hdd d hd) h1 rfl Q
  | app d t T e y es ns p hd ho hT he hn hp hm =>
    have hop:∀x,x=.tmp t\/x=y->opv E.GE s.tmps x=opv E.GE st.tmps x:=λx hx=>hopv x (by rw[ho];simp[Op.operands,Call.operands];rcases hx with rfl|rfl<;>simp)
    have he':st.tmps.getD t .undef=.slice es:=(hop (.tmp t) (.inl rfl)).symm.trans he
    rw[hop y (.inr rfl)]at hn
    have hm':((t,0),e)∈st.own:=htok (false,(t,0),e) (by simp[cx]) hm
    refine fin (st':=⟨st.tmps.set d p,st.boxes,((d,0),e)::be d (st.own.filter λx=>x.1 !=(t,0))⟩) ⟨by rw[hd];exact⟨_,rfl,rfl⟩,λ_=>rfl,λhc=>by simp[bq,bE,ho]at hc,?_,?_,λ_ _=>rfl⟩ (yy (K:=(·=_)) h ho hd (hdd d hd) hT he' hn hp hm' rfl Q)
    · rintro ⟨b,⟨t',k⟩,e'⟩ hr _ hh
      cases b with
      |true=>exact hh
      | false =>
        simp[cx]at hr
        refine vaH _ (dg (vaW.2 ⟨bL.1 hh,?_⟩) hr.1)
        simp only[bne_iff_ne,ne_eq,Prod.mk.injEq,not_and]
        exact λe=>absurd e hr.2
    · rintro ⟨b,⟨t',k⟩,e'⟩ hr hh
      cases b with
      |true=>simp[cx]at hr
      | false =>
        rcases vat.1 (bL.1 hh)with hh|hh
        ·rw[hh];exact List.mem_cons_self
        · obtain ⟨h1,h2⟩:=ck hh
          obtain⟨h3,h4⟩:=bk h1
          have h5:((t',k),e')∈st.own:=htok (false,(t',k),e') hr h3
          exact vaH _ (dg (vaW.2 ⟨h5,h4⟩) h2)
  | mv d t hd ho hdt =>
    have hg:s.tmps.getD t .undef=st.tmps.getD t .undef:=hopv (.tmp t) (by rcases ho with ho|ho<;>rw[ho]<;>simp[Op.operands])
    have hcl:bq P rw o≠3:=by rcases ho with ho|ho<;>simp[bq,bE,ho]
    refine fin (st':=⟨st.tmps.set d (st.tmps.getD t .undef),st.boxes,gy d (λx=>if x.1=t then(d,x.2)else x) st.own⟩) ⟨by rw[hd];exact⟨_,rfl,by rw[hg]⟩,λ_=>rfl,λhc=>absurd hc hcl,?_,?_,λ_ _=>rfl⟩ (xD (K:=(·=_)) h ho hd (hdd d hd) rfl Q)
    · rintro ⟨b,⟨t',k⟩,e'⟩ hr _ hh
      cases b with
      |true=>exact hh
      | false =>
        simp[cx]at hr
        refine vah.2 ⟨((t',k),e'),dg (bL.1 hh) hr.1,?_⟩
        simp only
        rw[vaz hr.2]
    · rintro ⟨b,⟨t',k⟩,e'⟩ hr hh
      cases b with
      |true=>simp[cx]at hr
      | false =>
        obtain⟨⟨⟨t2,k2⟩,e2⟩,hx,he⟩:=vah.1 (bL.1 hh)
        simp only[Prod.mk.injEq]at he
        obtain⟨he,rfl⟩:=he
        obtain⟨h1,h2⟩:=ck hx
        by_cases ht:t2=t
        · subst ht
          rw[vaA rfl]at he
          cases he
          have h5:((t2,k),e2)∈st.own:=htok (false,(t2,k),e2) (by simp[cx]) h1
          exact vah.2 ⟨((t2,k),e2),dg h5 h2,by simp⟩
        · rw [vaz ht] at he
          cases he
          simp[cx]at hr
          rcases hr with hr|hr
          ·exact absurd hr h2
          ·exact absurd hr ht
  | bmv d t k T parts p es hd ho hdt ht hin hp hm =>
    have hin2:Operand.tmp t∈o.op.operands.toList:=by
      obtain⟨x,hx,hx2⟩:=vcS.1 hin
      rw[ho];simp only[Op.operands]
      exact vah.2 ⟨x,hx,Gr hx2⟩
    have hpar:∀x∈parts.toList,opv E.GE s.tmps x.2=opv E.GE st.tmps x.2:=λx hx=>hopv x.2 (by rw[ho];simp only[Op.operands];exact vah.2 ⟨x,hx,rfl⟩)
    have hpt:(parts.toList.map λx=>(x.1,opv E.GE s.tmps x.2))=parts.toList.map λx=>(x.1,opv E.GE st.tmps x.2):=va9 λx hx=>by rw[hpar x hx]
    have hpw:JL E.GE s.tmps parts.toList t=JL E.GE st.tmps parts.toList t:=by
      funext q
      exact va9 λx hx=>by rw[hpar x hx]
    rw[hpt]at hp
    rw[hpw]at hm
    have hg:st.tmps.getD t .undef=.slice es:=(hopv (.tmp t) hin2).symm.trans ht
    have hcl:bq P rw o≠3:=by simp[bq,bE,ho]
    refine fin (st':=⟨st.tmps.set d p,st.boxes,gy d (λx=>if x=(t,0)then(d,k)else x) st.own⟩) ⟨by rw[hd];exact⟨_,rfl,rfl⟩,λ_=>rfl,λhc=>absurd hc hcl,?_,?_,λ_ _=>rfl⟩ (E6 (K:=(·=_)) h ho hd (hdd d hd) hg hp hm rfl Q)
    · rintro ⟨b,⟨t',k'⟩,e'⟩ hr _ hh
      cases b with
      |true=>exact hh
      | false =>
        simp[cx]at hr
        refine vah.2 ⟨((t',k'),e'),dg (bL.1 hh) hr.1,?_⟩
        simp only
        rw[vaz (λe=>hr.2 (vbp Prod.fst e))]
    · rintro ⟨b,⟨t',k'⟩,e'⟩ hr hh
      cases b with
      |true=>simp[cx]at hr
      | false =>
        obtain⟨⟨⟨t2,k2⟩,e2⟩,hx,he⟩:=vah.1 (bL.1 hh)
        have h6:e2=e':=vbp Prod.snd he
        subst h6
        have he1:(if((t2,k2):Nat×Nat)=(t,0)then(d,k)else(t2,k2))=(t',k'):=vbp Prod.fst he
        obtain⟨h1,h2⟩:=ck hx
        by_cases ht2:((t2,k2):Nat×Nat)=(t,0)
        · have h5:((t2,k2),e2) ∈ st.own:=htok (false,(t2,k2),e2) (by cases ht2; simp [cx]) h1
          exact vah.2 ⟨((t2,k2),e2),dg h5 h2,he⟩
        · rw [vaz ht2] at he1
          cases he1
          simp[cx]at hr
          rcases hr with hr|hr
          ·exact absurd hr h2
          · subst hr
            have h5:((t',k'),e2)∈st.own:=htok (false,(t',k'),e2) (by simp[cx]) h1
            exact vah.2 ⟨((t',k'),e2),dg h5 h2,he⟩
  | ld d T x i off cs own L p hd ho hx hB hh hm =>
    have hx':opv E.GE st.tmps x=.bptr i off:=(hopv x (by rw[ho];simp[Op.operands])).symm.trans hx
    obtain⟨bb,hbb⟩:=live hx'
    obtain⟨own2,hB2⟩:=rT (hbx (by simp[bq,bE,ho])) hB
    have hm2:∀y∈L,(off+y.1,y.2)∈own2:=λy hy=>by
      obtain⟨cs',own',e1,e2⟩:=cK.1 (htok (true,(i,off+y.1),y.2) (vaH _ (vah.2 ⟨y,hy,rfl⟩)) ⟨cs,own,hB,hm y hy⟩)
      rw[hB2]at e1;cases e1;exact e2
    refine fin (st':=⟨st.tmps.set d p,st.boxes.set i (.cells cs (own2.filter λx=>!L.any λy=>x.1==off+y.1)),(L.map λy=>((d,y.1),y.2)).reverse++be d st.own⟩)
      ⟨by rw[hd];exact⟨_,rfl,rfl⟩,λ_=>G0 hB2,λhc=>by simp[bq,bE,ho]at hc,?_,?_,λk hk=>by rw[vap (λe=>by subst e;rw[hbb]at hk;cases hk)]⟩ ?_
    · rintro ⟨b,⟨t',k⟩,e'⟩ hr _ hh
      cases b with
      |false=>exact vaO _ (dg (bL.1 hh) λhx=>hr (by simp only at hx;subst hx;simp[cx]))
      | true =>
        by_cases hi:i=t'
        · subst hi
          obtain⟨cs',own',e1,e2⟩:=cK.1 hh
          rw[hB2]at e1;cases e1
          refine⟨_,_,vag (ag hB2),vaW.2 ⟨e2,?_⟩⟩
          simp only[va4,vby,vaY]
          intro y hy e
          exact hr (vaH _ (vah.2 ⟨y,hy,by simp[cx,e]⟩))
        ·exact(eT hi).2 hh
    · rintro ⟨b,⟨t',k⟩,e'⟩ hr hh
      cases b with
      | false =>
        rcases vaJ.1 (bL.1 hh)with hh|hh
        ·exact va5 _ hh
        · have h2:=(ck hh).2
          simp[cx]at hr
          exact absurd hr h2
      | true =>
        exfalso
        have hr2:(true,t',k)∈L.map λy=>(true,i,off+y.1):=by simpa[cx]using hr
        obtain⟨y,hy,e⟩:=vah.1 hr2
        simp only[Prod.mk.injEq,vb6]at e
        obtain⟨rfl,rfl⟩:=e
        obtain⟨cs',own',e1,e2⟩:=cK.1 hh
        simp only[vag (ag hB),var,av.cells.injEq]at e1
        obtain⟨rfl,rfl⟩:=e1
        have:=(bk e2).2
        simp only[va4,vby,vaY]at this
        exact this y hy rfl
    · rcases hh with ⟨e,hT,hp,rfl⟩ | ⟨fs,l,hT,hp,rfl,hn,hl⟩
      · refine wM (K:=(· = _)) h ho hd (hdd d hd) hT hx' hB2 hp (hm2 _ (vco _)) ?_ Q
        simp only[vaM,vbV,vcQ,List.reverse_nil,va3,List.singleton_append,az.mk.injEq,vb6,vb5]
        congr 3
        funext z
        simp[bne]
      · refine xI h (K:=(· = _)) ?_ Q
        unfold Eg
        simp only[ho,hd]
        exact⟨i,off,cs,own2,L,l,⟨fs,hT⟩,hx',hB2,hp,hm2,hn,hl,hdd d hd,rfl⟩
  | st T x y i off vs cs own hd ho hx hvs hB hp =>
    have hx':opv E.GE st.tmps x=.bptr i off:=(hopv x (by rw[ho];simp[Op.operands])).symm.trans hx
    have hy':opv E.GE s.tmps y=opv E.GE st.tmps y:=hopv y (by rw[ho];simp[Op.operands])
    rw[hy']at hvs hp
    obtain⟨bb,hbb⟩:=live hx'
    have hst:=hbx (by simp[bq,bE,ho])
    obtain⟨own2,hB2⟩:=rT hst hB
    have hp2:=y9 hvs hB hp hB2
    refine fin (st':=⟨st.tmps,st.boxes.set i (.cells (cs.take off++vs++cs.drop (off+vs.length)) (own2.filter λy=>y.1<off||off+vs.length<=y.1)),st.own⟩)
      ⟨by rw[hd];exact⟨rfl,rfl⟩,λhc=>absurd (by simp[bq,bE,ho]) hc,λ_=>sn hst rfl,?_,?_,λk hk=>by rw[vap (λe=>by subst e;rw[hbb]at hk;cases hk)]⟩ ?_
    · rintro ⟨b,⟨t',k⟩,e'⟩ hr _ hh
      cases b with
      |false=>exact hh
      | true =>
        by_cases hi:i=t'
        · subst hi
          obtain⟨cs',own',e1,e2⟩:=cK.1 hh
          rw[hB2]at e1;cases e1
          refine⟨_,_,vag (ag hB2),vaW.2 ⟨e2,?_⟩⟩
          simp only[va1,vam]
          by_cases h1:k<off
          ·exact .inl h1
          ·exact .inr (vbT λh2=>hr (mm.2 ⟨rfl,by simp only;omega,by simp only;omega⟩))
        ·exact(eT hi).2 hh
    · rintro ⟨b,⟨t',k⟩,e'⟩ hr hh
      cases b with
      |false=>simp[cx,pP]at hr
      | true =>
        exfalso
        obtain⟨rfl,h1,h2⟩:=mm.1 hr
        obtain⟨cs',own',e1,e2⟩:=cK.1 hh
        simp only[vag (ag hB),var,av.cells.injEq]at e1
        obtain⟨rfl,rfl⟩:=e1
        have:=(bk e2).2
        simp only[va1,vam]at this
        simp only at h1 h2
        omega
    · refine ez.of h hid' (by simp [jA,ho]) ?_ Q
      unfold Fx
      rw[ho]
      simp only[iW,hx',hp2,vak]
      rw[hd];rfl
  | sto T x t i off vs cs own L hd ho hx hvs hB hp hk hm hn hl =>
    have hx':opv E.GE st.tmps x=.bptr i off:=(hopv x (by rw[ho];simp[Op.operands])).symm.trans hx
    have hy':s.tmps.getD t .undef=st.tmps.getD t .undef:=hopv (.tmp t) (by rw[ho];simp[Op.operands])
    rw[hy']at hvs hp hk
    obtain⟨bb,hbb⟩:=live hx'
    have hst:=hbx (by simp[bq,bE,ho])
    obtain⟨own2,hB2⟩:=rT hst hB
    have hp2:=y9 hvs hB hp hB2
    have hm2:∀y∈L,((t,y.1),y.2)∈st.own:=λy hy=>htok (false,(t,y.1),y.2) (by simp[cx]) (hm y hy)
    have hset:=vag (a:=av.cells (cs.take off++vs++cs.drop (off+vs.length)) (own2.filter λy=>y.1<off||off+vs.length<=y.1)) (ag hB2)
    refine fin (st':=⟨st.tmps,st.boxes.set i (.cells (cs.take off++vs++cs.drop (off+vs.length)) ((L.map λy=>(off+y.1,y.2)).reverse++own2.filter λy=>y.1<off||off+vs.length<=y.1)),st.own.filter λx=>!L.any λy=>x.1==(t,y.1)⟩)
      ⟨by rw[hd];exact⟨rfl,rfl⟩,λhc=>absurd (by simp[bq,bE,ho]) hc,λ_=>sn hst rfl,?_,?_,λk hk=>by rw[vap (λe=>by subst e;rw[hbb]at hk;cases hk)]⟩ ?_
    · rintro ⟨b,⟨t',k⟩,e'⟩ hr _ hh
      cases b with
      | false =>
        refine vaW.2 ⟨bL.1 hh,?_⟩
        simp only[va4,vby,vaY,Prod.mk.injEq,not_and]
        intro y hy e
        exact absurd (by simp[cx,e]) hr
      | true =>
        by_cases hi:i=t'
        · subst hi
          obtain⟨cs',own',e1,e2⟩:=cK.1 hh
          rw[hB2]at e1;cases e1
          refine⟨_,_,vag (ag hB2),vaO _ (vaW.2 ⟨e2,?_⟩)⟩
          simp only[va1,vam]
          by_cases h1:k<off
          ·exact .inl h1
          ·exact .inr (vbT λh2=>hr (vaH _ (mm.2 ⟨rfl,by simp only;omega,by simp only;omega⟩)))
        ·exact(eT hi).2 hh
    · rintro ⟨b,⟨t',k⟩,e'⟩ hr hh
      cases b with
      | false =>
        obtain⟨h1,h2⟩:=bk (bL.1 hh)
        exact vaW.2 ⟨htok (false,(t',k),e') hr h1,h2⟩
      | true =>
        have hr2:(true,t',k)∈pP i off vs.length:=by simpa[cx]using hr
        obtain⟨rfl,h1,h2⟩:=mm.1 hr2
        obtain⟨cs',own',e1,e2⟩:=cK.1 hh
        simp only[vag (ag hB),var,av.cells.injEq]at e1
        obtain⟨rfl,rfl⟩:=e1
        rcases vaJ.1 e2 with e2|e2
        ·exact⟨_,_,vag (ag hB2),va5 _ e2⟩
        · exfalso
          have:=(bk e2).2
          simp only[va1,vam]at this
          omega
    · rcases hk with ⟨l,hl⟩ | ⟨hone,e,rfl⟩
      · refine xI h (K:=(· = _)) ?_ Q
        unfold Eg
        simp only[ho,hd]
        refine⟨i,off,_,_,_,L,l,hx',hl,by rw[<-hl];exact hp2,hset,hm2,hn,?_⟩
        rw[vbE]
      · refine vg (K:=(· = _)) h ho hx' (by rw [hx']; exact hp2) hset hone (hm2 _ (vco _)) ?_ Q
        rw[hd,vbE]
        simp only[qg,vaM,vbV,vcQ,List.reverse_nil,va3,List.singleton_append,az.mk.injEq,vb6,Nat.add_zero]
        congr 1
        funext z
        simp[bne]
  | mu t m k x H hd ho hp =>
    have hst:=hbx (by simp[bq,bE,ho])
    have o1:opv E.GE s.tmps m=opv E.GE st.tmps m:=hopv m (by rw[ho];simp[Op.operands])
    have o2:opv E.GE s.tmps k=opv E.GE st.tmps k:=hopv k (by rw[ho];simp[Op.operands])
    have o3:opv E.GE s.tmps x=opv E.GE st.tmps x:=hopv x (by rw[ho];simp[Op.operands])
    rw[o1,o2,o3]at hp
    obtain⟨i,es',hmi,rfl,hp2⟩:=FB hst hp
    have hlive:∃b,bs[i]? =some (some b):=by
      have hv:=h.opv a.defers m
      rw[hmi]at hv
      generalize (Act.mk a.tmps a.defers).eval m=vx at hv
      cases hv with
      |mapr _ b hb=>exact⟨b,hb⟩
    obtain⟨bb,hbb⟩:=hlive
    obtain⟨i2,es,es2,hB,he2⟩:=uV hp2
    refine fin (st':=⟨st.tmps,st.boxes.set i (.map es'),st.own⟩) ⟨by rw[hd];exact⟨rfl,rfl⟩,λhc=>absurd (by simp[bq,bE,ho]) hc,λ_=>sn hst rfl,?_,?_,λk hk=>by rw[vap (λe=>by subst e;rw[hbb]at hk;cases hk)]⟩ ?_
    · rintro ⟨b,⟨t',k'⟩,e'⟩ hr _ hh
      cases b with
      |false=>exact hh
      | true =>
        obtain⟨cs',own',e1,e2⟩:=cK.1 hh
        have hne:i2≠t':=λe=>by subst e;rw[hB]at e1;cases e1
        rw[he2]
        exact(eT hne).2 hh
    · intro τ hr
      simp at hr
    · refine ez.of h hid' (by simp [jA,ho]) ?_ Q
      unfold Fx
      rw[ho]
      simp only[iW,hp2,vak]
      rw[hd];rfl
  | callR d f args tys r ro oa ho hd hg =>
    have hop:∀x,x=f\/x∈args.toList->opv E.GE s.tmps x=opv E.GE st.tmps x:=λx hx=>hopv x (by rw[ho];simp[Op.operands,Call.operands];simpa using hx)
    have hown:∀x∈oa,((x.t,x.k),x.e)∈s.own->((x.t,x.k),x.e)∈st.own:=λx hx hm=>htok (false,(x.t,x.k),x.e) (vaH _ (vah.2 ⟨x,hx,rfl⟩)) hm
    refine fin (st':=⟨st.tmps.set d r,st.boxes,(ro.map λx=>((d,x.1),x.2))++be d (st.own.filter λz=>!oa.any λx=>z.1==(x.t,x.k))⟩) ⟨by rw[hd];exact⟨_,rfl,rfl⟩,λ_=>rfl,λhc=>hbx (by rw[hc];decide),?_,?_,λ_ _=>rfl⟩ (pC (K:=(·=_)) h ho hd (hdd d hd) (hg st hop hown) rfl Q)
    · rintro ⟨b,⟨t',k⟩,e'⟩ hr _ hh
      cases b with
      |true=>exact hh
      | false =>
        simp only[cx,vat,Prod.mk.injEq,vb6,vb5,vah,not_or,not_exists,not_and]at hr
        refine vaO _ (dg (vaW.2 ⟨bL.1 hh,?_⟩) hr.1)
        simp only[va4,vby,vaY,Prod.mk.injEq,not_and]
        exact λx hx e=>absurd e.symm (hr.2 x hx)
    · rintro ⟨b,⟨t',k⟩,e'⟩ hr hh
      cases b with
      |true=>simp[cx]at hr
      | false =>
        rcases vaJ.1 (bL.1 hh)with hh|hh
        ·exact va5 _ hh
        · obtain ⟨h1,h2⟩:=ck hh
          obtain⟨h3,h4⟩:=bk h1
          have h5:((t',k),e')∈st.own:=htok (false,(t',k),e') hr h3
          exact vaO _ (dg (vaW.2 ⟨h5,h4⟩) h2)
  | cl d i f x tys g e es ho hd hb hf hx hC h0 h1 h2 =>
    have hop:∀y,y=f\/y=x->opv E.GE s.tmps y=opv E.GE st.tmps y:=λy hy=>hopv y (by rw[ho];simp[Op.operands,Call.operands];exact hy)
    rw[hop f (.inl rfl)]at hf
    rw[hop x (.inr rfl)]at hx
    obtain⟨hbs,hBx⟩:=hbi i _ hb
    have hvf:=h.opv a.defers f
    have hvx:=h.opv a.defers x
    rw[hf]at hvf
    rw[hx]at hvx
    change VR Γ bs w _ (a.eval f)at hvf
    change VR Γ bs w _ (a.eval x)at hvx
    generalize hev:a.eval f=vf at hvf
    cases hvf with
    |func _ _ _ fs cs hl hl' k1 k2=>
    have hfs:fs=#[]:=va2 (by simpa using hl)
    have hcs:cs=#[]:=va2 (by simpa using hl')
    subst hfs;subst hcs
    have hrun:(execOp a.eval o).run P w=.ok (.enter g #[a.eval x]) w:=by
      simp[execOp,ho,resolve,hev,Deferred.ofValue,invoke,hC.1]
    unfold Oper.wp
    rw[hrun,Oper.upon_enter]
    refine(Ki h hbs hBx hC hvx h0 h1 h2).mono λr w' hr=>?_
    obtain⟨v',xb,rfl,hS,hv'⟩:=hr
    have g1:=hS.set (d:=d) hv'
    have hput:(a.put o.dst v').tmps=a.tmps.setIfInBounds d v':=by rw[hd];rfl
    rw[<-hput]at g1
    refine⟨aT _ _ _,Γ,_,ow,⟨st.tmps.set d (.bsl i 0 es.length),st.boxes,be d st.own⟩,g1,⟨by rw[hd];exact⟨_,rfl,rfl⟩,λ_=>rfl,λhc=>hbx (by rw[hc];decide),Br (L:=[]) (by simp),I5 (L:=[]),λ_ _=>rfl⟩,.inr (.inr ⟨i,_,xb,hb,rfl⟩)⟩
  | stR T x y i off cs cs' hd ho hx hB hp hi =>
    have hx':opv E.GE st.tmps x=.bptr i off:=(hopv x (by rw[ho];simp[Op.operands])).symm.trans hx
    have hy':opv E.GE s.tmps y=opv E.GE st.tmps y:=hopv y (by rw[ho];simp[Op.operands])
    rw[hy']at hp
    obtain⟨bb,hbb⟩:=live hx'
    have hst:=hbx (by simp[bq,bE,ho])
    obtain⟨own2,hB2⟩:=rT hst hB
    obtain⟨own',hp2⟩:=Lc hp hB2
    refine fin (st':=⟨st.tmps,st.boxes.set i (.cells cs' own'),st.own⟩)
      ⟨by rw[hd];exact⟨rfl,rfl⟩,λhc=>absurd (by simp[bq,bE,ho]) hc,λ_=>sn hst rfl,?_,λτ hr=>by simp at hr,λk hk=>by rw[vap (λe=>by subst e;rw[hbb]at hk;cases hk)]⟩ ?_
    · rintro ⟨b,⟨t',k⟩,e'⟩ hr hn hh
      cases b with
      |false=>exact hh
      |true=>exact(eT (λe=>hn rfl (by subst e;exact hi))).2 hh
    · refine ez.of h hid' (by simp [jA,ho]) ?_ Q
      unfold Fx
      rw[ho]
      simp only[iW,hx',hp2,vak]
      rw[hd];rfl
end
end
def NQ(τ:Lw)(rs:List Rs):Prop:=cx τ∈rs\/(τ.1=true/\(false,τ.2.1.1,1)∈rs)
def DJ(rw:List Nat)(o:Oper):Bool:=match o.op,o.dst with
 |.load _ _,some d=>rw.contains (8 * d+5)
 |_,_=>false
def Fp(rw:List Nat)(o:Oper):Bool:=match o.op,o.dst with
 |.call {callee:=.value _,..},some d=>rw.contains (8 * d+7)
 |_,_=>false
def jL(P:Program)(rw:List Nat)(o:Oper):Nat:=if DJ rw o=true then 0 else if Fp rw o=true then 2 else bq P rw o
inductive jI(P:Program)(GE:List (Nat×List PVal))(bi:Option (Nat×av))(rw:List Nat)(o:Oper)(id:Nat)(s:az):az->List Rs->Prop where
 |old {s':az} {rs:List Rs} (h:fM P GE bi rw o id s s' rs) (hu:DJ rw o=false) (hh:Fp rw o=false):jI P GE bi rw o id s s' rs
 |ldE (d:Nat) (T:TypeId) (x:Operand) (cs:List PVal) (p:PVal) (ho:o.op=.load T x) (hd:o.dst=some d) (hi:rw.contains (8 * d+5)=true) (hx:opv GE s.tmps x=.eptr cs) (hp:aC P T cs=some p):jI P GE bi rw o id s ⟨s.tmps.set d p,s.boxes,be d s.own⟩ [(false,d,0)]
 | callG (d:Nat) (f:Operand) (args:Array Operand) (tys:Array TypeId) (r:PVal) (ro:List (Nat×TypeId)) (oa:List OA) (ρ:List Nat) (F:List av→List av) (ho:o.op = .call { callee := .value f,args,argTypes:=tys }) (hd:o.dst = some d) (hi:rw.contains (8 * d + 1) = true) (hh:rw.contains (8 * d + 7) = false)
   (F1:∀(H:List av) (i:Nat),i∉ρ->(F H)[i]? =H[i]?) (F3:∀(H H2:List av) (i:Nat),H2.map aD=H.map aD->i∈ρ->(F H2)[i]? =(F H)[i]?)
   (hg:∀st:az,(∀x,x=f\/x∈args.toList->opv GE s.tmps x=opv GE st.tmps x)->(∀x∈oa,((x.t,x.k),x.e)∈s.own->((x.t,x.k),x.e)∈st.own)->st.boxes.map aD=s.boxes.map aD->(∀i∈ρ,∀k e,fS s (true,(i,k),e)->fS st (true,(i,k),e))->yf P GE f args.toList st r ro (F st.boxes) oa):
   jI P GE bi rw o id s ⟨s.tmps.set d r,F s.boxes,(ro.map λx=>((d,x.1),x.2))++be d (s.own.filter λz=>!oa.any λx=>z.1==(x.t,x.k))⟩ (((false,d,0)::oa.map λx=>(false,x.t,0))++ρ.map λi=>(false,i,1))
 | callH (d:Nat) (f:Operand) (args:Array Operand) (tys:Array TypeId) (r:PVal) (ro:List (Nat×TypeId)) (oa:List OA) (ρ:List Nat) (F:List av→List av) (ho:o.op = .call { callee := .value f,args,argTypes:=tys }) (hd:o.dst = some d) (hi:rw.contains (8 * d + 7) = true)
   (F1:∀(H:List av) (i:Nat),i∉ρ->(F H)[i]? =H[i]?) (F4:∀H:List av,H.map aD=s.boxes.map aD->(F H).map aD=H.map aD) (F5:∀(H:List av) (i:Nat) cs own,i∈ρ->(F H)[i]? =some (.cells cs own)->own=[]) (F6:∀i∈ρ,2 * i∈rw/\8 * i+3∈rw)
   (hg:∀st:az,(∀x,x=f\/x∈args.toList->opv GE s.tmps x=opv GE st.tmps x)->(∀x∈oa,((x.t,x.k),x.e)∈s.own->((x.t,x.k),x.e)∈st.own)->st.boxes.map aD=s.boxes.map aD->yf P GE f args.toList st r ro (F st.boxes) oa):
   jI P GE bi rw o id s ⟨s.tmps.set d r,F s.boxes,(ro.map λx=>((d,x.1),x.2))++be d (s.own.filter λz=>!oa.any λx=>z.1==(x.t,x.k))⟩ ((false,d,0)::oa.map λx=>(false,x.t,0))
section
variable{P:Program}{GE:List (Nat×List PVal)}
theorem fM.nw{bi:Option (Nat×av)}{rw:List Nat}{o:Oper}{id:Nat}{s s':az}{rs:List Rs}(h:fM P GE bi rw o id s s' rs)(i:Nat):(false,i,1)∉rs:=by
 cases h<;>simp[pP]
theorem fM.rs_of{bi:Option (Nat×av)}{rw:List Nat}{o:Oper}{id:Nat}{s s':az}{rs:List Rs}(h:fM P GE bi rw o id s s' rs){τ:Lw}(ht:NQ τ rs):cx τ∈rs:=ht.elim (λx=>x) λhx=>absurd hx.2 (h.nw _)
structure N2(P:Program)(rw:List Nat)(o:Oper)(s s':az)(rs:List Rs):Prop where
 tm:match o.dst with
  |some d=>∃p,s'.tmps=s.tmps.set d p
  |none=>s'.tmps=s.tmps
 bx:jL P rw o≠3->s'.boxes.map aD=s.boxes.map aD
 back:∀τ,¬NQ τ rs->fS s' τ->fS s τ
theorem Ai{rw:List Nat}{o:Oper}(hu:DJ rw o=false)(hh:Fp rw o=false):jL P rw o=bq P rw o:=by unfold jL;rw[hu,hh];rfl
theorem Oq{rw:List Nat}{o:Oper}{f:Operand}{args:Array Operand}{tys:Array TypeId}{d:Nat}(ho:o.op=.call {callee:=.value f,args,argTypes:=tys})(hd:o.dst=some d)(hi:rw.contains (8 * d+7)=true):jL P rw o=2:=by
 unfold jL DJ Fp
 rw[ho,hd]
 simp only[hi]
 rfl
theorem lU{rw:List Nat}{o:Oper}{f:Operand}{args:Array Operand}{tys:Array TypeId}{d:Nat}(ho:o.op=.call {callee:=.value f,args,argTypes:=tys})(hd:o.dst=some d)(hi:rw.contains (8 * d+1)=true)(hh:rw.contains (8 * d+7)=false):jL P rw o=3:=by
 rw[Ai (by unfold DJ;rw[ho]) (by unfold Fp;rw[ho,hd];exact hh)]
 unfold bq
 rw[ho,hd]
 simp only[Option.any_some,hi,if_true]
theorem QA{rw:List Nat}{o:Oper}{T:TypeId}{x:Operand}{d:Nat}(ho:o.op=.load T x)(hd:o.dst=some d)(hi:rw.contains (8 * d+5)=true):jL P rw o=0:=by
 unfold jL DJ
 rw[ho,hd]
 simp only[hi,if_true]
theorem jI.eff{bi:Option (Nat×av)}{rw:List Nat}{o:Oper}{id:Nat}{s s':az}{rs:List Rs}(h:jI P GE bi rw o id s s' rs):N2 P rw o s s' rs:=by
 cases h with
 |old h hu hh=>exact⟨h.eff.tm,by rw[Ai hu hh];exact h.eff.bx,λτ ht hh=>h.eff.back τ (λhx=>ht (.inl hx)) hh⟩
 |ldE d T x cs p ho hd hi hx hp=>
  refine⟨by rw[hd];exact⟨_,rfl⟩,λ_=>rfl,?_⟩
  rintro⟨b,⟨t',k⟩,e'⟩ hr hh
  cases b with
  |true=>exact hh
  |false=>exact(ck hh).1
 | callG d f args tys r ro oa ρ F ho hd hi hh F1 F3 hg =>
  refine⟨by rw[hd];exact⟨r,rfl⟩,λhc=>absurd (lU ho hd hi hh) hc,?_⟩
  rintro⟨b,⟨t',k⟩,e'⟩ hr hh
  cases b with
  |true=>
   have hn:t'∉ρ:=λhx=>hr (.inr ⟨rfl,vaO _ (vah.2 ⟨t',hx,rfl⟩)⟩)
   obtain⟨cs,own,h1,h2⟩:=cK.1 hh
   simp only at h1
   rw[F1 _ _ hn]at h1
   exact⟨cs,own,h1,h2⟩
  | false =>
   rcases vaJ.1 (bL.1 hh)with hh|hh
   ·simp only[vah,Prod.mk.injEq]at hh
    obtain⟨x,_,⟨rfl,_⟩,_⟩:=hh
    exact absurd (.inl (by simp[cx])) hr
   ·exact(bk (ck hh).1).1
 | callH d f args tys r ro oa ρ F ho hd hi F1 F4 F5 F6 hg =>
  refine⟨by rw[hd];exact⟨r,rfl⟩,λ_=>F4 _ rfl,?_⟩
  rintro⟨b,⟨t',k⟩,e'⟩ hr hh
  cases b with
  | true =>
   obtain⟨cs,own,h1,h2⟩:=cK.1 hh
   simp only at h1
   by_cases hn:t'∈ρ
   ·rw[F5 _ _ _ _ hn h1]at h2
    cases h2
   ·rw[F1 _ _ hn]at h1
    exact⟨cs,own,h1,h2⟩
  | false =>
   rcases vaJ.1 (bL.1 hh)with hh|hh
   ·simp only[vah,Prod.mk.injEq]at hh
    obtain⟨x,_,⟨rfl,_⟩,_⟩:=hh
    exact absurd (.inl (by simp[cx])) hr
   ·exact(bk (ck hh).1).1
theorem jI.cls{bi:Option (Nat×av)}{rw:List Nat}{o:Oper}{id:Nat}{s s':az}{rs:List Rs}(h:jI P GE bi rw o id s s' rs){i k:Nat}(hr:(true,i,k)∈rs):2<=jL P rw o:=by
 cases h with
 |ldE d T x cs p ho hd hi hx hp=>simp at hr
 |callH d f args tys r ro oa ρ F ho hd hi F1 F4 F5 F6 hg=>simp at hr
 |old h hu hh=>
  rw[Ai hu hh]
  cases h with
  |ld d T x i off cs own L p hd ho hx hB h hm=>simp[bq,bE,ho]
  |st T x y i off vs cs own hd ho hx hvs hB hp=>simp[bq,bE,ho]
  |sto T x t i off vs cs own L hd ho hx hvs hB hp hk hm hn hl=>simp[bq,bE,ho]
  |_=>simp at hr
 |callG d f args tys r ro oa ρ F ho hd hi hh F1 F3 hg=>rw[lU ho hd hi hh];decide
theorem jI.whole{bi:Option (Nat×av)}{rw:List Nat}{o:Oper}{id:Nat}{s s':az}{rs:List Rs}(h:jI P GE bi rw o id s s' rs){i:Nat}(hr:(false,i,1)∈rs):jL P rw o=3:=by
 cases h with
 |ldE d T x cs p ho hd hi hx hp=>simp at hr
 |old h hu hh=>exact absurd hr (h.nw i)
 |callH d f args tys r ro oa ρ F ho hd hi F1 F4 F5 F6 hg=>simp at hr
 |callG d f args tys r ro oa ρ F ho hd hi hh F1 F3 hg=>exact lU ho hd hi hh
theorem Et{o:Oper}{rs:List Rs}(h:rs=match o.dst with
 |some d=>[(false,d,0)]
 |none=>[]) {τ:Lw} (ht:NQ τ rs):cx τ∈rs/\τ.1=false:=by
 subst h
 cases hd:o.dst with
 |none=>rw[hd]at ht;rcases ht with hx|hx<;>simp at hx
 | some d =>
  rw[hd]at ht
  rcases ht with hx|hx
  ·refine⟨hx,?_⟩
   obtain⟨b,⟨t,k⟩,e⟩:=τ
   cases b with
   |false=>rfl
   |true=>simp[cx]at hx
  ·simp at hx
structure N4(P:Program)(bs:bp)(rw:List Nat)(o:Oper)(st st' s s':az)(rs:List Rs):Prop where
 tm:match o.dst with
  |some d=>∃p,st'.tmps=st.tmps.set d p/\s'.tmps=s.tmps.set d p
  |none=>st'.tmps=st.tmps/\s'.tmps=s.tmps
 b1:jL P rw o≠3->st'.boxes.map aD=st.boxes.map aD
 b2:jL P rw o=3->st'.boxes.map aD=s'.boxes.map aD
 keep:∀τ,¬NQ τ rs->(τ.1=true->2 * τ.2.1.1∉rw)->fS st τ->fS st' τ
 got:∀τ,NQ τ rs->fS s' τ->fS st' τ
 un:∀i:Nat,bs[i]? =some none->(false,i,1)∉rs->8 * i+3∉rw->st'.boxes[i]? =st.boxes[i]?
end
section
variable{P:Program}{E:mo}{Γ:ax}{bs:bp}{ow:Nat->Option jx}{w:World}{a:Act}{st:az}
theorem jI.sound(h:SR P E Γ bs ow w a.tmps st){bi:Option (Nat×av)}{rw:List Nat}{o:Oper}{id:Nat}{s s':az}{rs:List Rs}(hs:jI P E.GE bi rw o id s s' rs)(hid:aw o.op=true->bs[id]? =some none/\st.boxes[id]? =jD P o)(hbi:∀i B,bi=some (i,B)->bs[i]? =some none/\st.boxes[i]? =some B)
    (hopv:∀x∈o.op.operands.toList,opv E.GE s.tmps x=opv E.GE st.tmps x) (hbx:2<=jL P rw o->st.boxes.map aD=s.boxes.map aD) (htok:∀τ,NQ τ rs->fS s τ->fS st τ) (hdd:∀d,o.dst=some d->d<st.tmps.length)
    (Q:Exit->Act->World->Prop):
    o.wp P a w (λa' w'=>a'.defers=a.defers/\∃Γ' bs' ow' st',SR P E Γ' bs' ow' w' a'.tmps st'/\N4 P bs rw o st st' s s' rs/\(bs'=bs\/(aw o.op=true/\∃b,bs'=bs.set id (some b))\/∃i B x,bi=some (i,B)/\bs'=bs.set i x)) Q:=by
  cases hs with
  | ldE d T x cs p ho hd hi hx hp =>
    have hx':opv E.GE st.tmps x=.eptr cs:=(hopv x (by rw[ho];simp[Op.operands])).symm.trans hx
    have hw:o.wp P a w (ez P E bs id (aw o.op) a.defers (·=⟨st.tmps.set d p,st.boxes,be d st.own⟩)) Q:=by
      refine ez.of h (λhm=>by rw[ho]at hm;cases hm) (by simp[jA,ho]) ?_ Q
      unfold Fx
      rw[ho]
      simp only[iW,hx',kI,hp,vak]
      rw[hd];rfl
    refine Oper.wp_mono (λa' w' hA=>?_) hw
    obtain⟨h1,Γ',bs',ow',st2,h2,rfl,h3⟩:=hA
    exact⟨h1,Γ',bs',ow',_,h2,⟨by rw[hd];exact⟨_,rfl,rfl⟩,λ_=>rfl,λhc=>absurd ((QA (P:=P) ho hd hi).symm.trans hc) (by decide),λτ hr _ hh=>Br (st:=st) (tm:=st.tmps.set d p) (R:=λ_=>True) (rs:=[(false,d,0)]) (d:=d) (L:=[]) (by simp) τ (λhx=>hr (.inl hx)) trivial hh,
      λτ hr hh=>I5 (L:=[]) (tm:=st.tmps.set d p) τ (hr.elim (λx=>x) λhx=>by simp at hx) hh,λ_ _ _ _=>rfl⟩,h3.imp_right .inl⟩
  | old hs hu hh =>
    rw[Ai hu hh]at hbx
    refine Oper.wp_mono (λa' w' hA=>?_) (hs.sound h hid hbi hopv hbx (λτ ht=>htok τ (.inl ht)) hdd Q)
    obtain⟨h1,Γ',bs',ow',st',h2,h3,h4⟩:=hA
    exact⟨h1,Γ',bs',ow',st',h2,⟨h3.tm,by rw[Ai hu hh];exact h3.b1,by rw[Ai hu hh];exact h3.b2,λτ ht=>h3.keep τ λhx=>ht (.inl hx),λτ ht=>h3.got τ (hs.rs_of ht),λi hi _ _=>h3.un i hi⟩,h4⟩
  | callG d f args tys r ro oa ρ F ho hd hi hh F1 F3 hg =>
    have hop:∀x,x=f\/x∈args.toList->opv E.GE s.tmps x=opv E.GE st.tmps x:=λx hx=>hopv x (by rw[ho];simp[Op.operands,Call.operands];simpa using hx)
    have hown:∀x∈oa,((x.t,x.k),x.e)∈s.own->((x.t,x.k),x.e)∈st.own:=λx hx hm=>htok (false,(x.t,x.k),x.e) (.inl (va5 _ (vaH _ (vah.2 ⟨x,hx,rfl⟩)))) hm
    have hst:=hbx (by rw[lU ho hd hi hh];decide)
    have hbox:∀i∈ρ,∀k e,fS s (true,(i,k),e)->fS st (true,(i,k),e):=λi hi k e hh=>htok _ (.inr ⟨rfl,vaO _ (vah.2 ⟨i,hi,rfl⟩)⟩) hh
    have hF:(F st.boxes).map aD=(F s.boxes).map aD:=by
      refine vbi λi=>?_
      rw[vax,vax]
      by_cases hi:i∈ρ
      ·rw[F3 _ _ i hst hi]
      ·rw[F1 _ _ hi,F1 _ _ hi];exact HE hst i
    refine Oper.wp_mono (λa' w' hA=>?_) (pC (id:=id) (K:=(·=⟨st.tmps.set d r,F st.boxes,(ro.map λx=>((d,x.1),x.2))++be d (st.own.filter λz=>!oa.any λx=>z.1==(x.t,x.k))⟩)) h ho hd (hdd d hd) (hg st hop hown hst hbox) rfl Q)
    obtain⟨h1,Γ',bs',ow',st2,h2,rfl,h3⟩:=hA
    refine⟨h1,Γ',bs',ow',_,h2,⟨by rw[hd];exact⟨_,rfl,rfl⟩,λhc=>absurd (lU ho hd hi hh) hc,λ_=>hF,?_,?_,λi hb hn _=>F1 _ _ λhx=>hn (vaO _ (vah.2 ⟨i,hx,rfl⟩))⟩,h3.imp_right .inl⟩
    · rintro ⟨b,⟨t',k⟩,e'⟩ hr _ hh
      cases b with
      | true =>
        have hn:t'∉ρ:=λhx=>hr (.inr ⟨rfl,vaO _ (vah.2 ⟨t',hx,rfl⟩)⟩)
        obtain⟨cs,own,k1,k2⟩:=cK.1 hh
        exact⟨cs,own,by simp only;rw[F1 _ _ hn];exact k1,k2⟩
      | false =>
        have hr':cx (false,(t',k),e')∉((false,d,0)::oa.map λx=>(false,x.t,0)):=λhx=>hr (.inl (va5 _ hx))
        simp only[cx,vat,Prod.mk.injEq,vb6,vb5,vah,not_or,not_exists,not_and]at hr'
        refine vaO _ (dg (vaW.2 ⟨bL.1 hh,?_⟩) hr'.1)
        simp only[va4,vby,vaY,Prod.mk.injEq,not_and]
        exact λx hx e=>absurd e.symm (hr'.2 x hx)
    · rintro ⟨b,⟨t',k⟩,e'⟩ hr hh
      cases b with
      | true =>
        have hin:t'∈ρ:=by
          rcases hr with hx|⟨_,hx⟩
          ·simp[cx]at hx
          · rcases vaJ.1 hx with hx | hx
            ·simp at hx
            · obtain ⟨i,hi,he⟩:=vah.1 hx
              simp only[Prod.mk.injEq,vb5,vb6]at he
              subst he;exact hi
        obtain⟨cs,own,k1,k2⟩:=cK.1 hh
        exact⟨cs,own,by simp only at k1 ⊢;rw[F3 _ _ t' hst hin];exact k1,k2⟩
      | false =>
        rcases vaJ.1 (bL.1 hh)with hh|hh
        ·exact va5 _ hh
        · obtain ⟨h1,h2⟩:=ck hh
          obtain⟨h3,h4⟩:=bk h1
          have h5:((t',k),e')∈st.own:=htok (false,(t',k),e') hr h3
          exact vaO _ (dg (vaW.2 ⟨h5,h4⟩) h2)
  | callH d f args tys r ro oa ρ F ho hd hi F1 F4 F5 F6 hg =>
    have hop:∀x,x=f\/x∈args.toList->opv E.GE s.tmps x=opv E.GE st.tmps x:=λx hx=>hopv x (by rw[ho];simp[Op.operands,Call.operands];simpa using hx)
    have hown:∀x∈oa,((x.t,x.k),x.e)∈s.own->((x.t,x.k),x.e)∈st.own:=λx hx hm=>htok (false,(x.t,x.k),x.e) (.inl (vaH _ (vah.2 ⟨x,hx,rfl⟩))) hm
    have hst:=hbx (by rw[Oq ho hd hi];decide)
    refine Oper.wp_mono (λa' w' hA=>?_) (pC (id:=id) (K:=(·=⟨st.tmps.set d r,F st.boxes,(ro.map λx=>((d,x.1),x.2))++be d (st.own.filter λz=>!oa.any λx=>z.1==(x.t,x.k))⟩)) h ho hd (hdd d hd) (hg st hop hown hst) rfl Q)
    obtain⟨h1,Γ',bs',ow',st2,h2,rfl,h3⟩:=hA
    refine⟨h1,Γ',bs',ow',_,h2,⟨by rw[hd];exact⟨_,rfl,rfl⟩,λ_=>F4 _ hst,λhc=>absurd ((Oq (P:=P) ho hd hi).symm.trans hc) (by decide),?_,?_,λi _ _ hn=>F1 _ _ λhx=>hn (F6 i hx).2⟩,h3.imp_right .inl⟩
    · rintro ⟨b,⟨t',k⟩,e'⟩ hr hrow hh
      cases b with
      | true =>
        have hn:t'∉ρ:=λhx=>hrow rfl (F6 t' hx).1
        obtain⟨cs,own,k1,k2⟩:=cK.1 hh
        exact⟨cs,own,by simp only;rw[F1 _ _ hn];exact k1,k2⟩
      | false =>
        have hr':cx (false,(t',k),e')∉((false,d,0)::oa.map λx=>(false,x.t,0)):=λhx=>hr (.inl hx)
        simp only[cx,vat,Prod.mk.injEq,vb6,vb5,vah,not_or,not_exists,not_and]at hr'
        refine vaO _ (dg (vaW.2 ⟨bL.1 hh,?_⟩) hr'.1)
        simp only[va4,vby,vaY,Prod.mk.injEq,not_and]
        exact λx hx e=>absurd e.symm (hr'.2 x hx)
    · rintro ⟨b,⟨t',k⟩,e'⟩ hr hh
      cases b with
      | true =>
        rcases hr with hx|⟨_,hx⟩
        ·simp[cx]at hx
        ·simp at hx
      | false =>
        rcases vaJ.1 (bL.1 hh)with hh|hh
        ·exact va5 _ hh
        · obtain ⟨h1,h2⟩:=ck hh
          obtain⟨h3,h4⟩:=bk h1
          have h5:((t',k),e')∈st.own:=htok (false,(t',k),e') hr h3
          exact vaO _ (dg (vaW.2 ⟨h5,h4⟩) h2)
end
end Go.Proofs.YtjddnhkahpfhdaaGreatDoor
