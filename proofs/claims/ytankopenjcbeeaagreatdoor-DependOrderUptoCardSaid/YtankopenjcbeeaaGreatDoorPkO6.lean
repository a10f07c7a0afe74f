/- PROVED: a part of the proof. Conditions: none. -/
import Derived.Test.YtankopenjcbeeaaGreatDoorPkO3
import Derived.Test.YtankopenjcbeeaaGreatDoorPkO4
set_option linter.unusedSimpArgs false set_option linter.defProp false
set_option linter.unusedVariables false
noncomputable section
namespace Go.Proofs.YtankopenjcbeeaaGreatDoor
open Go
open Option renaming some→O,none→N
open Go renaming TypeId→G,Value→D,Program→I,Oper→M,World→J,Code→W
open Bool renaming true→T,false→Z
open Decidable renaming decide→Y
open YtankopenjcbeeaaGreatDoor renaming PVal→U
abbrev Rs:=K×Nat×Nat
abbrev qep:=K×(Nat×Nat)×G
def ey(τ:qep):Rs:=match τ.1 with|false=>(Z,τ.2.1.1,0)|true=>(T,τ.2.1.1,τ.2.1.2)
def kL(a:az)(τ:qep):Prop:=match τ.1 with|false=>(τ.2.1,τ.2.2)∈a.own|true=>∃b own,a.boxes[τ.2.1.1]? =O (.cells b own)/\(τ.2.1.2,τ.2.2)∈own
def aT:ay->ay|.cells cs _=>.cells cs []|B=>B
theorem ZN{H a:V ay}(h:a.map aT=H.map aT)(i:Nat):(a[i]?).map aT=(H[i]?).map aT:=by have:=m4 (λl=>l[i]?) h;grind
def HX{H b:V ay}(h:b.map aT=H.map aT){i:Nat}{c:V U}{own:V (Nat×G)}(e:H[i]? =O (.cells c own)):∃a,b[i]? =O (.cells c a):=by have:=ZN h i;rw[e]at this;cases d:b[i]? with|none=>simp_all|some B=>rw[d]at this;cases B<;>simp[aT]at this;simp_all
section
variable{P:I}{GE:V (Nat×V U)}
theorem qca{t:G}{x:U}{H a:V ay}(h:a.map aT=H.map aT):mt P t x a=mt P t x H:=by
 unfold mt;split;.rfl
 .rename_i i c;have b:=ZN h i;generalize a[i]? =o at b;generalize H[i]? =o' at b;rcases o with _|(_|_|_)<;>rcases o' with _|(_|_|_)<;>simp[aT]at b ⊢;simp_all
 .rfl
theorem qd0{t:G}{x:U}{H a:V ay}(h:a.map aT=H.map aT):Oy P t x a=Oy P t x H:=by
 unfold Oy;split<;>first|rfl|skip
 rename_i i _;have b:=ZN h i;generalize a[i]? =o at b;generalize H[i]? =o' at b;rcases o with _|(_|_|_)<;>rcases o' with _|(_|_|_)<;>simp[aT]at b ⊢;simp_all
theorem Xt{t:G}{m k:U}{ok:K}{H a:V ay}(h:a.map aT=H.map aT):Eg P t m k ok a=Eg P t m k ok H:=by
 unfold Eg;split;.rename_i c e i _;have b:=ZN h i;generalize a[i]? =o at b;generalize H[i]? =o' at b;rcases o with _|(_|_|_)<;>rcases o' with _|(_|_|_)<;>simp[aT]at b ⊢;simp_all
 .rfl
def qop{a:Op}{id:Nat}{v:Operand->U}{H H2:V ay}{p:U}(d:cW P a≠3)(i:aD a=Z)(h:yM P a id v H=O (p,H))(c:2<=cW P a->H2.map aT=H.map aT):yM P a id v H2=O (p,H2):=by
 by_cases e:cW P a<2;.grind [qlQ]
 .have o:=c (by omega);have m:∀{q b:Q U},b=q->(q.map λp=>(p,H))=O (p,H)->(b.map λp=>(p,H2))=O (p,H2):=by simp
  unfold yM at h ⊢;split at h
  all_goals first
   |grind
   |grind [cW]
   |(simp[cW]at d;done)
   |(simp[aD]at i;done)
   |grind [qca]
   |grind [Xt]
   |grind [qd0]
def cp(P:I)(rw:V Nat)(o:M):Nat:=match o.op with|.call {callee:=.value _,..}=>if(o.dst.any λd=>rw.contains (8 * d+1))then 3 else 0|op=>cW P op
def Py{rw:V Nat}{o:M}(h:∀f args a,o.op≠.call {callee:=.value f,args,argTypes:=a}):cp P rw o=cW P o.op:=by unfold cp;simp
def Ya:Op->K|.call {callee:=.value _,..}=>T|_=>Z
def Ex(i a n:Nat):V Rs:=(List.range n).map λk=>(T,i,a+k)
def Oj(t:Nat):Operand->K|.tmp t'=>t'==t|_=>Z
def X9{t:Nat}{x:Operand}(h:Oj t x=T):x=.tmp t:=by cases x<;>simp[Oj]at h;rw[h]
def qch(GE:V (Nat×V U))(b:V U)(a:V (Nat×Operand))(t:Nat)(q:U):V (Nat×U):=a.map λx=>(x.1,if Oj t x.2 then q else opv GE b x.2)
def quz(P:I)(c:G)(F:U->V (Nat×U))(k:Nat):Prop:=∀(b:Q Addr)(n m:Nat),∃a,dF P c (F (.val (.slice b n m)))=O (.agg a)/\a[k]? =O (.val (.slice b n m))
inductive kE(P:Program)(GE:List (Nat×List PVal))(bi:Option (Nat×ay))(rw:List Nat)(o:Oper)(id:Nat)(s:az):az->List Rs->Prop where
 | call (d:Nat) (f:Operand) (args:Array Operand) (tys:Array TypeId) (g:FuncId) (first cap:List PVal) (r:PVal) (ro:List (Nat×TypeId)) (ho:o.op = .call { callee := .value f,args,argTypes:=tys }) (hd:o.dst = some d)
   (hf:opv GE s.tmps f=.func (.func g) first cap) (hcl:ie 0 (first++args.toList.map (opv GE s.tmps)++cap)) (hc:C P GE g (first++args.toList.map (opv GE s.tmps)++cap) [] [] r ro []):
   kE P GE bi rw o id s ⟨s.tmps.set d r,s.boxes,(ro.map λx=>((d,x.1),x.2))++bI d s.own⟩ [(false,d,0)]
 |alloc (d:Nat) (t:TypeId) (zs:List PVal) (ho:o.op=.alloc t) (hd:o.dst=some d) (hz:eR P t=some zs):kE P GE bi rw o id s ⟨s.tmps.set d (.bptr id 0),s.boxes,bI d s.own⟩ [(false,d,0)]
 |mkmap (d:Nat) (t:TypeId) (ho:o.op=.makeMap t none) (hd:o.dst=some d):kE P GE bi rw o id s ⟨s.tmps.set d (.mapr id),s.boxes,bI d s.own⟩ [(false,d,0)]
 | ev (d:Nat) (p:PVal) (hd:o.dst = some d) (hn:Ya o.op = false) (hm:aD o.op = false) (hc:cW P o.op ≠ 3) (h:yM P o.op id (opv GE s.tmps) s.boxes = some (p,s.boxes)) :
   kE P GE bi rw o id s ⟨s.tmps.set d p,s.boxes,bI d s.own⟩ [(false,d,0)]
 | res (d:Nat) (p:PVal) (L:List (Nat×TypeId)) (hd:o.dst = some d)
   (h:(∃T len parts e,o.op=.buildSlice T len parts/\gu P T len (parts.toList.map λx=>(x.1,opv GE s.tmps x.2))=some p/\P.underlying T=some (.slice e)/\L=[(0,e)])\/
    (∃T parts,o.op=.build T parts/\dF P T (parts.toList.map λx=>(x.1,opv GE s.tmps x.2))=some p/\Db P T (parts.toList.map λx=>(x.1,opv GE s.tmps x.2)) L)\/
    (∃v e,(o.op=.assign (.const v)\/o.op=.move (.const v))/\AS P o.type v=some e/\p=.slice []/\L=[(0,e)])):
   kE P GE bi rw o id s ⟨s.tmps.set d p,s.boxes,(L.map λx=>((d,x.1),x.2))++bI d s.own⟩ [(false,d,0)]
 | app (d t:Nat) (T e:TypeId) (y:Operand) (es ns:List (List PVal)) (p:PVal) (hd:o.dst = some d) (ho:o.op = .call { callee := .builtin .append,args:=⟨[.tmp t,y]⟩,argTypes:=⟨[T,T]⟩ })
   (hT:P.underlying T=some (.slice e)) (he:s.tmps.getD t .undef=.slice es) (hn:opv GE s.tmps y=.slice ns) (hp:ji P T es ns=some p) (hm:((t,0),e)∈s.own):
   kE P GE bi rw o id s ⟨s.tmps.set d p,s.boxes,((d,0),e)::bI d (s.own.filter λx=>x.1 !=(t,0))⟩ [(false,d,0),(false,t,0)]
 | mv (d t:Nat) (hd:o.dst = some d) (ho:o.op = .assign (.tmp t)∨o.op = .move (.tmp t)) (hdt:d ≠ t) :
   kE P GE bi rw o id s ⟨s.tmps.set d (s.tmps.getD t .undef),s.boxes,ls d (λx=>if x.1=t then(d,x.2)else x) s.own⟩ [(false,d,0),(false,t,0)]
 | bmv (d t k:Nat) (T:TypeId) (parts:Array (Nat×Operand)) (p:PVal) (es:List (List PVal)) (hd:o.dst = some d) (ho:o.op = .build T parts) (hdt:d ≠ t) (ht:s.tmps.getD t .undef = .slice es) (hin:(parts.toList.any fun x => Oj t x.2) = true)
   (hp:dF P T (parts.toList.map λx=>(x.1,opv GE s.tmps x.2))=some p) (hm:quz P T (qch GE s.tmps parts.toList t) k):
   kE P GE bi rw o id s ⟨s.tmps.set d p,s.boxes,ls d (λx=>if x=(t,0)then(d,k)else x) s.own⟩ [(false,d,0),(false,t,0)]
 | ld (d:Nat) (T:TypeId) (x:Operand) (i off:Nat) (cs:List PVal) (own L:List (Nat×TypeId)) (p:PVal) (hd:o.dst = some d) (ho:o.op = .load T x) (hx:opv GE s.tmps x = .bptr i off) (hB:s.boxes[i]? = some (.cells cs own))
   (h:(∃e,P.underlying T=some (.slice e)/\cs[off]? =some p/\L=[(0,e)])\/(∃fs l,P.underlying T=some (.struct fs)/\cO P T (cs.drop off)=some (.agg l)/\p=.agg l/\(L.map (·.1)).Nodup/\∀y∈L,y.1<l.length))
   (hm:∀y∈L,(off+y.1,y.2)∈own):
   kE P GE bi rw o id s ⟨s.tmps.set d p,s.boxes.set i (.cells cs (own.filter λx=>!L.any λy=>x.1==off+y.1)),(L.map λy=>((d,y.1),y.2)).reverse++bI d s.own⟩ ((false,d,0)::L.map λy=>(true,i,off+y.1))
 | st (T:TypeId) (x y:Operand) (i off:Nat) (vs cs:List PVal) (own:List (Nat×TypeId)) (hd:o.dst = none) (ho:o.op = .store T x y) (hx:opv GE s.tmps x = .bptr i off) (hvs:bF (opv GE s.tmps y) = some vs) (hB:s.boxes[i]? = some (.cells cs own))
   (hp:fE P T (.bptr i off) (opv GE s.tmps y) s.boxes=some (s.boxes.set i (.cells (cs.take off++vs++cs.drop (off+vs.length)) (own.filter λy=>y.1<off||off+vs.length<=y.1)))):
   kE P GE bi rw o id s ⟨s.tmps,s.boxes.set i (.cells (cs.take off++vs++cs.drop (off+vs.length)) (own.filter λy=>y.1<off||off+vs.length<=y.1)),s.own⟩ (Ex i off vs.length)
 | sto (T:TypeId) (x:Operand) (t i off:Nat) (vs cs:List PVal) (own L:List (Nat×TypeId)) (hd:o.dst = none) (ho:o.op = .store T x (.tmp t)) (hx:opv GE s.tmps x = .bptr i off) (hvs:bF (s.tmps.getD t .undef) = some vs) (hB:s.boxes[i]? = some (.cells cs own))
   (hp:fE P T (.bptr i off) (s.tmps.getD t .undef) s.boxes=some (s.boxes.set i (.cells (cs.take off++vs++cs.drop (off+vs.length)) (own.filter λy=>y.1<off||off+vs.length<=y.1))))
   (hk:(∃l,s.tmps.getD t .undef=.agg l)\/((s.tmps.getD t .undef).one=true/\∃e,L=[(0,e)])) (hm:∀y∈L,((t,y.1),y.2)∈s.own) (hn:(L.map (·.1)).Nodup) (hl:∀y∈L,y.1<vs.length):
   kE P GE bi rw o id s ⟨s.tmps,s.boxes.set i (.cells (cs.take off++vs++cs.drop (off+vs.length)) ((L.map λy=>(off+y.1,y.2)).reverse++own.filter λy=>y.1<off||off+vs.length<=y.1)),s.own.filter λx=>!L.any λy=>x.1==(t,y.1)⟩
    ((false,t,0)::Ex i off vs.length)
 |mu (t:TypeId) (m k x:Operand) (H:List ay) (hd:o.dst=none) (ho:o.op=.mapUpdate t m k x) (hp:jO P t (opv GE s.tmps m) (opv GE s.tmps k) (opv GE s.tmps x) s.boxes=some H):kE P GE bi rw o id s ⟨s.tmps,H,s.own⟩ []
 | callR (d:Nat) (f:Operand) (args:Array Operand) (tys:Array TypeId) (r:PVal) (ro:List (Nat×TypeId)) (oa:List OA) (ho:o.op = .call { callee := .value f,args,argTypes:=tys }) (hd:o.dst = some d)
   (hg:∀st:az,(∀x,x=f\/x∈args.toList->opv GE s.tmps x=opv GE st.tmps x)->(∀x∈oa,((x.t,x.k),x.e)∈s.own->((x.t,x.k),x.e)∈st.own)->Pf P GE f args.toList st r ro st.boxes oa):
   kE P GE bi rw o id s ⟨s.tmps.set d r,s.boxes,(ro.map λx=>((d,x.1),x.2))++bI d (s.own.filter λz=>!oa.any λx=>z.1==(x.t,x.k))⟩ ((false,d,0)::oa.map λx=>(false,x.t,0))
 | cl (d i:Nat) (f x:Operand) (tys:Array TypeId) (g:FuncId) (e:TypeId) (es:List (List PVal)) (ho:o.op = .call { callee := .value f,args:=⟨[x]⟩,argTypes:=tys }) (hd:o.dst = some d) (hb:bi = some (i,.cells es.flatten []))
   (hf:opv GE s.tmps f=.func (.func g) [] []) (hx:opv GE s.tmps x=.slice es) (hC:BF P g e) (h0:0<P.cellsOf e) (h1:∀x∈es,x.length=P.cellsOf e/\∀q∈x,q.one=true) (h2:es.length<=bO):
   kE P GE bi rw o id s ⟨s.tmps.set d (.bsl i 0 es.length),s.boxes,bI d s.own⟩ [(false,d,0)]
 | stR (T:TypeId) (x y:Operand) (i off:Nat) (cs cs':List PVal) (hd:o.dst = none) (ho:o.op = .store T x y) (hx:opv GE s.tmps x = .bptr i off) (hB:s.boxes[i]? = some (.cells cs []))
   (hp:fE P T (.bptr 0 off) (opv GE s.tmps y) [.cells cs []]=some [.cells cs' []]) (hi:2 * i∈rw):
   kE P GE bi rw o id s ⟨s.tmps,s.boxes.set i (.cells cs' []),s.own⟩ []
structure qrK(P:Program)(rw:List Nat)(o:Oper)(s s':az)(rs:List Rs):Prop where
 tm:match o.dst with
  |some d=>∃p,s'.tmps=s.tmps.set d p
  |none=>s'.tmps=s.tmps
 bx:cp P rw o≠3->s'.boxes.map aT=s.boxes.map aT
 back:∀τ,ey τ∉rs->kL s' τ->kL s τ
def YO{H:V ay}{i:Nat}{b:V U}{own a:V (Nat×G)}(c:H[i]? =O (.cells b own)):(H.set i (.cells b a)).map aT=H.map aT:=by
 apply va2;intro j;simp only[o8];by_cases d:i=j;.subst d;rw[pi (aq c),c];rfl
 simp_all
def cZ{st:az}{t k:Nat}{e:G}:kL st (Z,(t,k),e)↔((t,k),e)∈st.own:=Iff.rfl
def eV{a:az}{i j:Nat}{e:G}:kL a (T,(i,j),e)↔∃b own,a.boxes[i]? =O (.cells b own)/\(j,e)∈own:=Iff.rfl
def yW{i a n c b:Nat}:(T,c,b)∈Ex i a n↔c=i/\a<=b/\b<a+n:=by
 unfold Ex;simp only[l9,vbF,Prod.mk.injEq,vce];constructor;.omega
 .rintro⟨rfl,d,e⟩;exact⟨b - a,by omega,rfl,by omega⟩
def fC{d:Nat}{own:V ((Nat×Nat)×G)}{x:(Nat×Nat)×G}(h:x∈own)(a:x.1.1≠d):x∈bI d own:=by simp_all[bI]
def Ll{t:G}{m k v:U}{H b:V ay}(h:jO P t m k v H=O b):∃i c a,H[i]? =O (.map c)/\b=H.set i (.map a):=by unfold jO at h;grind
def jw{c:az}{tm:V U}{h:V ((Nat×Nat)×G)}{i:Nat}{B:ay}{a b:Nat}{e:G}(d:i≠a):kL ⟨tm,c.boxes.set i B,h⟩ (T,(a,b),e)↔kL c (T,(a,b),e):=by simp_all[eV]
def kE.eff{bi:Q (Nat×ay)}{rw:V Nat}{o:M}{id:Nat}{s s':az}{rs:V Rs}(h:kE P GE bi rw o id s s' rs):qrK P rw o s s' rs:=by
 have X:∀{d:Nat}{p:U}{L:V (Nat×G)}{rs:V Rs}{τ:qep},(Z,d,0)∈rs->ey τ∉rs->kL ⟨s.tmps.set d p,s.boxes,(L.map λx=>((d,x.1),x.2))++bI d s.own⟩ τ->kL s τ:=by
  rintro d p L rs ⟨b,⟨t,k⟩,e⟩ q c a;cases b with
  |true=>exact a
  | false =>
   rcases vz.1 (cZ.1 a)with a|a;.simp only[l9,Prod.mk.injEq]at a;obtain⟨x,_,⟨rfl,_⟩,_⟩:=a;exact absurd q c
   .exact(ed a).1
 have w:∀{d:Nat}{p:U}{rs:V Rs}{τ:qep},(Z,d,0)∈rs->ey τ∉rs->kL ⟨s.tmps.set d p,s.boxes,bI d s.own⟩ τ->kL s τ:=λ{d p rs τ} q c a=>X (L:=[]) q c a;cases h with
 |call d f args tys g first cap r ro ho q hf hcl hc=>exact⟨by grind,λ_=>rfl,λτ c a=>X (by simp) c a⟩
 |alloc d t zs ho q hz=>exact⟨by grind,λ_=>rfl,λτ c a=>w (by simp) c a⟩
 |mkmap d t ho q=>exact⟨by grind,λ_=>rfl,λτ c a=>w (by simp) c a⟩
 |ev d p q hn hm hc h=>exact⟨by grind,λ_=>rfl,λτ c a=>w (by simp) c a⟩
 |res d p L q h=>exact⟨by grind,λ_=>rfl,λτ c a=>X (by simp) c a⟩
 | app d t a4 e y es ns p q ho hT A hn hp hm =>
  refine⟨by grind,λ_=>rfl,?_⟩;rintro⟨b,⟨B,k⟩,e'⟩ c a;cases b with
  |true=>exact a
  | false =>
   rcases x8.1 (cZ.1 a)with a|a;.simp_all[absurd,ey]
   .exact(bR (ed a).1).1
 | mv d t q ho hdt =>
  refine⟨by grind,λ_=>rfl,?_⟩;rintro⟨b,⟨B,k⟩,e'⟩ c a;cases b with
  |true=>exact a
  | false =>
   have a:=cZ.1 a;simp only[ls,l9]at a;obtain⟨⟨⟨t2,k2⟩,e2⟩,hx,A⟩:=a;simp only[Prod.mk.injEq]at A;obtain⟨A,rfl⟩:=A;split at A;.simp_all[absurd,ey]
   .cases A;exact(ed hx).1
 | bmv d t k a4 parts p es q ho hdt ht hin hp hm =>
  refine⟨by rw[q];exact⟨_,rfl⟩,λ_=>rfl,?_⟩;rintro⟨b,⟨B,k'⟩,e'⟩ c a;cases b with
  |true=>exact a
  | false =>
   have a:=cZ.1 a;simp only[ls,l9]at a;obtain⟨⟨⟨t2,k2⟩,e2⟩,hx,A⟩:=a;simp only[Prod.mk.injEq]at A;obtain⟨A,rfl⟩:=A;split at A;.cases A;exact absurd (by simp[ey]) c
   .cases A;exact(ed hx).1
 | ld d a4 x i off cs own L p q ho hx z h hm =>
  refine⟨by rw[q];exact⟨_,rfl⟩,λ_=>YO z,?_⟩;rintro⟨b,⟨B,k⟩,e'⟩ c a;cases b with
  | true =>
   by_cases R:i=B;.subst R;let⟨a0,S,E,F⟩:=eV.1 a;simp only[pi (aq z),FS,ay.cells.injEq]at E;obtain⟨rfl,rfl⟩:=E;exact⟨_,_,z,(bR F).1⟩
   .exact(jw R).1 a
  | false =>
   rcases vz.1 (cZ.1 a)with a|a;.simp only[vb3,l9,Prod.mk.injEq]at a;obtain⟨y,_,⟨rfl,_⟩,_⟩:=a;exact absurd (by simp[ey]) c
   .exact(ed a).1
 | st a4 x y i off vs cs own q ho hx hvs z hp =>
  refine⟨by rw[q],λhc=>absurd (by simp[cp,cW,ho]) hc,?_⟩;rintro⟨b,⟨B,k⟩,e'⟩ c a;cases b with
  |false=>exact a
  | true =>
   by_cases R:i=B;.subst R;let⟨a0,S,E,F⟩:=eV.1 a;simp only[pi (aq z),FS,ay.cells.injEq]at E;obtain⟨rfl,rfl⟩:=E;exact⟨_,_,z,(bR F).1⟩
   .exact(jw R).1 a
 | sto a4 x t i off vs cs own L q ho hx hvs z hp hk hm hn hl =>
  refine⟨by rw[q],λhc=>absurd (by simp[cp,cW,ho]) hc,?_⟩;rintro⟨b,⟨B,k⟩,e'⟩ c a;cases b with
  |false=>exact(bR (cZ.1 a)).1
  | true =>
   by_cases R:i=B
   .subst R;let⟨a0,S,E,F⟩:=eV.1 a;simp only[pi (aq z),FS,ay.cells.injEq]at E;obtain⟨rfl,rfl⟩:=E;rcases vz.1 F with F|F
    .simp only[vb3,l9,Prod.mk.injEq]at F;obtain⟨y,hy,rfl,_⟩:=F;refine absurd (vaQ _ (yW.2 ⟨rfl,?_,?_⟩)) c;.simp
     .have:=hl y hy;simp;omega
    .exact⟨_,_,z,(bR F).1⟩
   .exact(jw R).1 a
 | mu t m k x H q ho hp =>
  refine⟨by rw[q],λhc=>absurd (by simp[cp,cW,ho]) hc,?_⟩;obtain⟨i,es,a3,z,rfl⟩:=Ll hp;rintro⟨b,⟨B,k⟩,e'⟩ c a;cases b with
  |false=>exact a
  | true =>
   by_cases R:i=B;.subst R;let⟨a0,S,E,F⟩:=eV.1 a;simp only[pi (aq z),FS]at E;cases E
   .exact(jw R).1 a
 | callR d f args tys r ro oa ho q hg =>
  refine⟨by rw[q];exact⟨r,rfl⟩,λ_=>rfl,?_⟩;rintro⟨b,⟨B,k⟩,e'⟩ c a;cases b with
  |true=>exact a
  | false =>
   rcases vz.1 (cZ.1 a)with a|a;.simp only[l9,Prod.mk.injEq]at a;obtain⟨x,_,⟨rfl,_⟩,_⟩:=a;exact absurd (by simp[ey]) c
   .exact(bR (ed a).1).1
 |cl d i f x tys g e es ho q hb hf hx hC h0 E F=>exact⟨by rw[q];exact⟨_,rfl⟩,λ_=>rfl,λτ c a=>w (by simp) c a⟩
 | stR a4 x y i off cs a0 q ho hx z hp R =>
  refine⟨by rw[q],λhc=>absurd (by simp[cp,cW,ho]) hc,?_⟩;rintro⟨b,⟨B,k⟩,e'⟩ c a;cases b with
  |false=>exact a
  | true =>
   by_cases a1:i=B;.subst a1;let⟨a2,fJ,k1,k2⟩:=eV.1 a;simp only[pi (aq z),FS,ay.cells.injEq]at k1;obtain⟨rfl,rfl⟩:=k1;cases k2
   .exact(jw a1).1 a
def qbr{H a:V ay}(h:a.map aT=H.map aT){i:Nat}{b:V (U×U)}(d:H[i]? =O (.map b)):a[i]? =O (.map b):=by have:=ZN h i;rw[d]at this;cases c:a[i]? with|none=>simp_all|some B=>rw[c]at this;cases B<;>simp[aT]at this;simp_all
def IT{H b:V ay}(h:b.map aT=H.map aT){i:Nat}{B a:ay}(c:aT a=aT B):(b.set i a).map aT=(H.set i B).map aT:=by simp_all
def Xu{t:G}{m k v:U}{H e c:V ay}(q:c.map aT=H.map aT)(h:jO P t m k v H=O e):∃i a,m=.mapr i/\e=H.set i (.map a)/\jO P t m k v c=O (c.set i (.map a)):=by
 unfold jO at h ⊢;split at h
 .split at h
  .rename_i r s o p;split at h
   .rename_i b;split at h;.rename_i d;cases h;refine⟨_,_,rfl,rfl,?_⟩;simp only[qbr q o,p,l7 b,d]
    .rename_i d;cases h;refine⟨_,_,rfl,rfl,?_⟩;simp only[qbr q o,p,l7 b,d]
    grind
   grind
  grind
 grind
structure qhE(P:Program)(bs:bC)(rw:List Nat)(o:Oper)(st st' s s':az)(rs:List Rs):Prop where
 tm:match o.dst with
  |some d=>∃p,st'.tmps=st.tmps.set d p/\s'.tmps=s.tmps.set d p
  |none=>st'.tmps=st.tmps/\s'.tmps=s.tmps
 b1:cp P rw o≠3->st'.boxes.map aT=st.boxes.map aT
 b2:cp P rw o=3->st'.boxes.map aT=s'.boxes.map aT
 keep:∀τ,ey τ∉rs->(τ.1=true->2 * τ.2.1.1∉rw)->kL st τ->kL st' τ
 got:∀τ,ey τ∈rs->kL s' τ->kL st' τ
 un:∀i:Nat,bs[i]? =some none->st'.boxes[i]? =st.boxes[i]?
def S8{st:az}{tm:V U}{d:Nat}{L:V (Nat×G)}{rs:V Rs}{R:qep->Prop}(c:(Z,d,0)∈rs)(τ:qep)(i:ey τ∉rs)(_:R τ)(h:kL st τ):kL ⟨tm,st.boxes,(L.map λx=>((d,x.1),x.2))++bI d st.own⟩ τ:=by let⟨b,⟨t,k⟩,e⟩:=τ;cases b with|true=>exact h|false=>exact vaZ _ (fC (cZ.1 h) λa=>by simp only at a;subst a;exact i c)
def qbu{c s:az}{tm a:V U}{d:Nat}{L:V (Nat×G)}(τ:qep)(i:ey τ∈[(Z,d,0)])(h:kL ⟨a,s.boxes,(L.map λx=>((d,x.1),x.2))++bI d s.own⟩ τ):kL ⟨tm,c.boxes,(L.map λx=>((d,x.1),x.2))++bI d c.own⟩ τ:=by
 let⟨b,⟨t,k⟩,e⟩:=τ;cases b with
 |true=>simp_all[ey]
 | false =>
  rcases vz.1 (cZ.1 h)with h|h;.exact va7 _ h
  .have:=(ed h).2;simp_all[ey,absurd]
section
variable{E:qy}{Γ:aS}{bs:bC}{c:Nat->Q kg}{w:J}{a:Act}{st:az}
def QI{t:G}{i b:Nat}{y:U}{m h:V U}{own:V (Nat×G)}{H q:V ay}(e:bF y=O m)(r:H[i]? =O (.cells h own))(s:fE P t (.bptr i b) y H=O q){o:V ay}{d:V (Nat×G)}(p:o[i]? =O (.cells h d)):fE P t (.bptr i b) y o=O (o.set i (.cells (h.take b++m++h.drop (b+m.length)) (d.filter λy=>y.1<b||b+m.length<=y.1))):=by simp only[fE,e,r]at s;simp only[fE,e,p];grind
def qd6{q:G}{i d:Nat}{y:U}{m b:V U}{h:V (Nat×G)}{H:V ay}(o:fE P q (.bptr 0 d) y [.cells m []]=O [.cells b []])(p:H[i]? =O (.cells m h)):∃e,fE P q (.bptr i d) y H=O (H.set i (.cells b e)):=by unfold fE at o ⊢;grind
def SR.fillBox{a:Array D}(h:SR P E Γ bs c w a st){i:Nat}(x:bs[i]? =O N){s:V U}(hB:st.boxes[i]? =O (.cells s []))(R:Ot s=T)(A:Q Nat)
  (hx:∀b,A=O b->(∃o t,w.heap[b]? =O (.cells o t (0,0))/\s.length<=o.size/\∀(j:Nat) p v,s[j]? =O p->o[j]? =O v->VR Γ bs w p v)/\Γ b=N/\(E.T b\/E.w.heap.size<=b)/\∀i:Nat,bs[i]? ≠O (O b)):
  SR P E Γ (bs.set i A) c w a st:=by
 have H:bs.Sub (bs.set i A):=λj b r=>G3 x r
 have a0:i<bs.length:=aq x
 have d:∀{j b:Nat},(bs.set i A)[j]? =O (O b)->(j=i/\A=O b)\/(j≠i/\bs[j]? =O (O b)):=by grind
 exact{h with
  tm:=λt p v S X=>(h.tm t p v S X).mono (.refl _ _) H
  bl:=by simp[h.bl]
  bx:=λj b B r q=>by
   rcases d r with⟨rfl,m⟩|⟨F,m⟩;.let⟨⟨o,t,k1,k2,k3⟩,k4,k5,k6⟩:=hx b m;rw[hB]at q;cases q;exact⟨k4,(vh.1 k1).1,o,t,k1,k2,λj p v S X=>(k3 j p v S X).mono (.refl _ _) H,Sf R _ _⟩
   .let⟨h1,h2,h3⟩:=h.bx j b B m q;exact⟨h1,h2,h3.mono (.refl _ _) H rfl⟩
  inj:=λj k b F hk=>by
   rcases d F with⟨rfl,y⟩|⟨_,y⟩<;>rcases d hk with⟨rfl,z⟩|⟨_,z⟩;.rfl
   .simp_all
   .simp_all
   .exact h.inj j k b y z
  bn:=λj b r=>by
   rcases d r with⟨rfl,m⟩|⟨_,m⟩;.simp_all
   .exact h.bn j b m
  ob:=λj k e L own b q F r=>by
   rcases d r with⟨rfl,m⟩|⟨_,m⟩;.simp_all
   .exact h.ob j k e L own b q F m
  gl:=λg s hg=>(h.gl g s hg).mono (.refl _ _) H}
def qdc{a:Array D}(h:SR P E Γ bs c w a st){i:Nat}(p:bs[i]? =O N){s:V (V U)}(hB:st.boxes[i]? =O (.cells s.flatten [])){f:FuncId}{e:G}{x:D}(hC:BF P f e)(A:VR Γ bs w (.slice s) x)(o:0<P.cellsOf e)(d:∀x∈s,x.length=P.cellsOf e/\∀q∈x,q.one=T)(t:s.length<=bO):Calls P f #[x] w λr w'=>∃v' xb,r=.returned v'/\SR P E Γ (bs.set i xb) c w' a st/\VR Γ (bs.set i xb) w' (.bsl i 0 s.length) v':=by
 let⟨B,a0,S,R,X⟩:=Ql A o d;refine(hC.2 w x s.length B a0 S R t).mono λr w' hr=>?_;obtain⟨v',rfl,z,hb,H⟩:=hr;let⟨L,hS⟩:=KL h hb H;rcases z.2 with⟨rfl,hn⟩|⟨g,cap,cur,rfl,hge,hheap,hnc,hcm,hcs,htake⟩;.have y:s=[]:=IO hn;subst y;exact⟨_,N,rfl,hS.fillBox p hB (xg d) N (λb hb=>by grind),.bsl _ _ _ _ _ (s5 _) (λ_=>rfl) (.inl rfl)⟩
 .refine⟨_,O g,rfl,hS.fillBox p hB (xg d) (O g) (λb F=>?_),?_⟩
  .cases F;refine⟨⟨cur,e,hheap,Mx o (λx A=>(d x A).1) λi x k q A hq=>?_⟩,?_,.inr (m0 h.step.size hge),λi hi=>?_⟩;.let⟨u,k1,k2⟩:=X i x k q A hq;refine⟨u,?_,k2.mono L (.refl _)⟩;grind
   .cases hg:Γ g with|none=>rfl|some m=>exact absurd (h.lt_of_ghost hg) (by omega)
   .have:=(h.bx i g (st.boxes[i]'(by rw[<-h.bl];grind)) hi (by simp)).2.1;omega
  .exact .bsl _ _ _ _ _ hnc (λh=>by grind) (.inr ⟨g,rfl,pi (aq p)⟩)
def qhi{d:V (V U)}{u:D}(h:VR Γ bs w (.slice d) u):∃b n m,u=.slice b n m:=by cases h<;>exact⟨_,_,_,rfl⟩
def W2(h:SR P E Γ bs c w a.tmps st){o:M}{id d t k:Nat}{a2:G}{e:Array (Nat×Operand)}{p:U}{X:V (V U)}{K:az->Prop}(ho:o.op=.build a2 e)(i:o.dst=O d)(hd:d<st.tmps.length)(hg:st.tmps.getD t .undef=.slice X)
  (hp:dF P a2 (e.toList.map λx=>(x.1,opv E.GE st.tmps x.2))=O p) (hm:quz P a2 (qch E.GE st.tmps e.toList t) k)
  (hK:K ⟨st.tmps.set d p,st.boxes,ls d (λx=>if x=(t,0)then(d,k)else x) st.own⟩) (Q:Exit->Act->J->Prop):
  o.wp P a w (iw P E bs id (aD o.op) a.defers K) Q:=by
 have z:∀x,VR Γ bs w (opv E.GE st.tmps x) (a.eval x):=λx=>h.opv a.defers x
 let⟨k1,k2⟩:=GA z e.toList
 let⟨v,r1,r2⟩:=H8 k1 k2 hp
 have y:VR Γ bs w (.slice X) (a.eval (.tmp t)):=by have:=z (.tmp t);rwa[show opv E.GE st.tmps (.tmp t)=st.tmps.getD t .undef from rfl,hg]at this
 let⟨b,n,m,y⟩:=qhi y
 let⟨cs,F,B⟩:=hm b n m
 have A:∀x:Operand,VR Γ bs w (if Oj t x then .val (.slice b n m)else opv E.GE st.tmps x) (a.eval x):=λx=>by
  split;.rename_i S;rw[X9 S,y];exact .val _
  simp_all
 let⟨l1,l2⟩:=GA (v:=λx=>if Oj t x then .val (.slice b n m)else opv E.GE st.tmps x) A e.toList
 let⟨v2,s1,s2⟩:=H8 l1 l2 F
 rw[r1]at s1
 cases s1
 have s:(execOp a.eval o).run P w=.ok (.value v) w:=by
  have:(e.map λx=>(x.1,a.eval x.2))=(e.toList.map λx=>(x.1,a.eval x.2)).toArray:=by grind
  simp only[execOp,ho];rw[this];simp[r1]
 unfold Oper.wp
 rw[s,Oper.upon_value]
 have a0:jz v k=O (.slice b n m):=by
  cases s2 with
  |agg _ vs hl hv=>
   have H:k<vs.size:=by grind
   have:=hv k _ vs[k] B (by simp);show vs[k]? =_;rw[vaM H];generalize vs[k]=q at this;cases this;rfl
 have:=h.setRen (d:=d) (p:=p) r2 (λx=>if x=(t,0)then(d,k)else x) (by rw[h.sz];omega) λt' k' e' _ a1=>by
  by_cases S:((t',k'):Nat×Nat)=(t,0)
  .cases S;refine .inr ⟨k,by simp,λu v' L R _=>?_⟩;rw[bu L]at y;subst y;have:v'=.slice b n m:=by simp only[jz,if_true,FS]at R;grind
   rw[this];omega
  grind
 have r:∀v,(a.put o.dst v).tmps=a.tmps.setIfInBounds d v:=λv=>by rw[i];rfl
 rw[<-r]at this
 exact⟨aW _ _ _,Γ,bs,_,_,this,hK,.inl rfl⟩
def kE.sound(h:SR P E Γ bs c w a.tmps st){bi:Option (Nat×ay)}{rw:V Nat}{o:M}{id:Nat}{s s':az}{rs:V Rs}(hs:kE P E.GE bi rw o id s s' rs)(bm:aD o.op=T->bs[id]? =O N/\st.boxes[id]? =qX P o)(c7:∀i B,bi=O (i,B)->bs[i]? =O N/\st.boxes[i]? =O B)
    (R:∀x∈o.op.operands.toList,opv E.GE s.tmps x=opv E.GE st.tmps x) (a8:2<=cp P rw o->st.boxes.map aT=s.boxes.map aT) (a1:∀τ,ey τ∈rs->kL s τ->kL st τ) (an:∀d,o.dst=O d->d<st.tmps.length)
    (Q:Exit->Act->J->Prop):
    o.wp P a w (λa' w'=>a'.defers=a.defers/\∃bc a7 b7 st',SR P E bc a7 b7 w' a'.tmps st'/\qhE P bs rw o st st' s s' rs/\(a7=bs\/(aD o.op=T/\∃b,a7=bs.set id (O b))\/∃i B x,bi=O (i,B)/\a7=bs.set i x)) Q:=by
  have fin:∀{st'},qhE P bs rw o st st' s s' rs->o.wp P a w (iw P E bs id (aD o.op) a.defers (·=st')) Q->o.wp P a w (λa' w'=>a'.defers=a.defers/\∃bc a7 b7 st',SR P E bc a7 b7 w' a'.tmps st'/\qhE P bs rw o st st' s s' rs/\(a7=bs\/(aD o.op=T/\∃b,a7=bs.set id (O b))\/∃i B x,bi=O (i,B)/\a7=bs.set i x)) Q:=by intro st' hD hw;refine Oper.wp_mono (λa' w' hA=>?_) hw;obtain⟨h1,bc,a7,b7,de,h2,rfl,h3⟩:=hA;grind
  have a5:aD o.op=T->bs[id]? =O N:=λhm=>(bm hm).1
  have b0:∀{x:Operand}{i off:Nat},opv E.GE st.tmps x=.bptr i off->∃b,bs[i]? =O (O b):=by intro x i off hx;have hv:=h.opv a.defers x;rw[hx]at hv;generalize (Act.mk a.tmps a.defers).eval x=vx at hv;cases hv with|bptr _ _ b hb=>simp_all
  cases hs with
  | call d f args b4 g first cap r ro A hd hf ao hc =>
    have a9:∀x,x=f\/x∈args.toList->opv E.GE s.tmps x=opv E.GE st.tmps x:=λx hx=>R x (by rw[A];simp[Op.operands,Call.operands];simp_all)
    have bl:args.toList.map (opv E.GE s.tmps)=args.toList.map (opv E.GE st.tmps):=vbi λx hx=>a9 x (.inr hx)
    rw[bl]at ao hc
    rw[a9 f (.inl rfl)]at hf
    refine fin (st':=⟨st.tmps.set d r,st.boxes,(ro.map λx=>((d,x.1),x.2))++bI d st.own⟩) ⟨by grind,λ_=>rfl,λhc=>a8 (by omega),S8 (by simp),qbu,λ_ _=>rfl⟩ ?_
    refine iw.of h a5 (by simp_all[qQ]) ?_ Q
    unfold Xs
    rw[A]
    simp only[Ow,hf]
    refine .inl ⟨ao,r,ro,hc,?_⟩
    rw[hd];rfl
  | alloc d t zs A hd hz =>
    have ar:=(bm (by rw[A];rfl)).2
    simp only[qX,A,hz]at ar
    refine fin (st':=⟨st.tmps.set d (.bptr id 0),st.boxes,bI d st.own⟩) ⟨by grind,λ_=>rfl,λhc=>by simp_all,S8 (L:=[]) (by simp),qbu (L:=[]),λ_ _=>rfl⟩ ?_
    refine iw.of h a5 (by grind [qQ]) ?_ Q
    unfold Xs
    rw[A]
    simp only[yM,hz,or,QL ar]
    rw[hd];rfl
  | mkmap d t A hd =>
    have ar:=(bm (by rw[A];rfl)).2
    simp only[qX,A]at ar
    refine fin (st':=⟨st.tmps.set d (.mapr id),st.boxes,bI d st.own⟩) ⟨by grind,λ_=>rfl,λhc=>by simp_all,S8 (L:=[]) (by simp),qbu (L:=[]),λ_ _=>rfl⟩ ?_
    refine iw.of h a5 (by grind [qQ]) ?_ Q
    unfold Xs
    rw[A]
    simp only[yM,QL ar]
    rw[hd];rfl
  | ev d p hd hn hm hc hp =>
    have d1:∀f args b4,o.op≠.call {callee:=.value f,args,argTypes:=b4}:=λf args b4 e=>by rw[e]at hn;cases hn
    rw[Py d1]at a8
    have a4:=qop (H2:=st.boxes) hc hm hp λh2=>a8 h2
    rw[qjC R]at a4
    refine fin (st':=⟨st.tmps.set d p,st.boxes,bI d st.own⟩) ⟨by grind,λ_=>rfl,λdd=>by simp_all[Py,absurd],S8 (L:=[]) (by simp),qbu (L:=[]),λ_ _=>rfl⟩ ?_
    refine iw.of h a5 ?_ ?_ Q
    . unfold qQ
      simp
    . unfold Xs
      split
      .simp_all
      . rw [a4]
        show Fy st o.dst p [] st.boxes=_
        rw[hd];rfl
  | res d p L hd F =>
    have ao:cp P rw o≠3:=by grind [cp,cW]
    refine fin (st':=⟨st.tmps.set d p,st.boxes,(L.map λx=>((d,x.1),x.2))++bI d st.own⟩) ⟨by grind,λ_=>rfl,λhc=>absurd hc ao,S8 (by simp),qbu,λ_ _=>rfl⟩ ?_
    rcases F with⟨dk,len,X,e,A,h1,h2,rfl⟩|⟨dk,X,A,h1,h2⟩|⟨v,e,A,h1,rfl,rfl⟩
    . have b2:(X.toList.map fun x => (x.1,opv E.GE s.tmps x.2)) = X.toList.map fun x => (x.1,opv E.GE st.tmps x.2):=vbi fun x hx => by rw [R x.2 (by rw [A]; simp only [Op.operands]; grind)]
      rw[b2]at h1
      exact FX (K:=(·=_)) h A hd (an d hd) h2 h1 rfl Q
    . have b2:(X.toList.map fun x => (x.1,opv E.GE s.tmps x.2)) = X.toList.map fun x => (x.1,opv E.GE st.tmps x.2):=vbi fun x hx => by rw [R x.2 (by rw [A]; simp only [Op.operands]; grind)]
      rw[b2]at h1 h2
      exact KD (K:=(·=_)) h A hd (an d hd) h1 h2 rfl Q
    .exact Se (K:=(·=_)) h A hd (an d hd) h1 rfl Q
  | app d t dk e y es ns p hd A hT he hn hp hm =>
    have a9:∀x,x=.tmp t\/x=y->opv E.GE s.tmps x=opv E.GE st.tmps x:=λx hx=>R x (by rw[A];simp[Op.operands,Call.operands];omega)
    have cd:st.tmps.getD t .undef=.slice es:=(a9 (.tmp t) (.inl rfl)).symm.trans he
    rw[a9 y (.inr rfl)]at hn
    have cv:((t,0),e)∈st.own:=a1 (Z,(t,0),e) (by simp[ey]) hm
    refine fin (st':=⟨st.tmps.set d p,st.boxes,((d,0),e)::bI d (st.own.filter λx=>x.1 !=(t,0))⟩) ⟨by rw[hd];grind,λ_=>rfl,λhc=>by simp_all,?_,?_,λ_ _=>rfl⟩ (Px (K:=(·=_)) h A hd (an d hd) hT cd hn hp cv rfl Q)
    . rintro ⟨b,⟨t',k⟩,e'⟩ S _ F
      cases b with
      |true=>exact F
      | false =>
        simp[ey]at S
        refine vaQ _ (fC (vaX.2 ⟨cZ.1 F,?_⟩) S.1)
        simp only[bne_iff_ne,ne_eq,Prod.mk.injEq,not_and]
        omega
    . rintro ⟨b,⟨t',k⟩,e'⟩ S F
      cases b with
      |true=>simp_all[ey]
      | false =>
        rcases x8.1 (cZ.1 F)with F|F
        .rw[F];exact vcp
        . obtain ⟨h1,h2⟩:=ed F
          let⟨h3,h4⟩:=bR h1
          have h5:((t',k),e')∈st.own:=a1 (Z,(t',k),e') S h3
          exact vaQ _ (fC (vaX.2 ⟨h5,h4⟩) h2)
  | mv d t hd A hdt =>
    have hg:s.tmps.getD t .undef=st.tmps.getD t .undef:=R (.tmp t) (by rcases A with A|A<;>rw[A]<;>simp[Op.operands])
    have ao:cp P rw o≠3:=by grind [cp,cW]
    refine fin (st':=⟨st.tmps.set d (st.tmps.getD t .undef),st.boxes,ls d (λx=>if x.1=t then(d,x.2)else x) st.own⟩) ⟨by grind,λ_=>rfl,λhc=>absurd hc ao,?_,?_,λ_ _=>rfl⟩ (H4 (K:=(·=_)) h A hd (an d hd) rfl Q)
    . rintro ⟨b,⟨t',k⟩,e'⟩ S _ F
      cases b with
      |true=>exact F
      | false =>
        simp[ey]at S
        refine l9.2 ⟨((t',k),e'),fC (cZ.1 F) S.1,?_⟩
        simp only
        rw[hG S.2]
    . rintro ⟨b,⟨t',k⟩,e'⟩ S F
      cases b with
      |true=>simp_all[ey]
      | false =>
        obtain⟨⟨⟨t2,k2⟩,e2⟩,hx,he⟩:=l9.1 (cZ.1 F)
        simp only[Prod.mk.injEq]at he
        obtain⟨he,rfl⟩:=he
        let⟨h1,h2⟩:=ed hx
        by_cases ht:t2=t
        . subst ht
          rw[l7 rfl]at he
          cases he
          have h5:((t2,k),e2)∈st.own:=a1 (Z,(t2,k),e2) (by simp[ey]) h1
          exact l9.2 ⟨((t2,k),e2),fC h5 h2,by simp⟩
        . rw [hG ht] at he
          cases he
          simp[ey]at S
          rcases S with S|S
          .exact absurd S h2
          .exact absurd S ht
  | bmv d t k dk X p es hd A hdt ht hin hp hm =>
    have c0:Operand.tmp t∈o.op.operands.toList:=by let⟨x,hx,d5⟩:=vcG.1 hin;rw[A];simp only[Op.operands];exact l9.2 ⟨x,hx,X9 d5⟩
    have be:∀x∈X.toList,opv E.GE s.tmps x.2=opv E.GE st.tmps x.2:=λx hx=>R x.2 (by rw[A];simp only[Op.operands];exact l9.2 ⟨x,hx,rfl⟩)
    have b2:(X.toList.map λx=>(x.1,opv E.GE s.tmps x.2))=X.toList.map λx=>(x.1,opv E.GE st.tmps x.2):=vbi λx hx=>by rw[be x hx]
    have d3:qch E.GE s.tmps X.toList t=qch E.GE st.tmps X.toList t:=by funext q;exact vbi λx hx=>by rw[be x hx]
    rw[b2]at hp
    rw[d3]at hm
    have hg:st.tmps.getD t .undef=.slice es:=(R (.tmp t) c0).symm.trans ht
    have ao:cp P rw o≠3:=by simp[cp,cW,A]
    refine fin (st':=⟨st.tmps.set d p,st.boxes,ls d (λx=>if x=(t,0)then(d,k)else x) st.own⟩) ⟨by grind,λ_=>rfl,λhc=>absurd hc ao,?_,?_,λ_ _=>rfl⟩ (W2 (K:=(·=_)) h A hd (an d hd) hg hp hm rfl Q)
    . rintro ⟨b,⟨t',k'⟩,e'⟩ S _ F
      cases b with
      |true=>exact F
      | false =>
        simp[ey]at S
        refine l9.2 ⟨((t',k'),e'),fC (cZ.1 F) S.1,?_⟩
        simp only
        rw[hG (λe=>S.2 (m4 Prod.fst e))]
    . rintro ⟨b,⟨t',k'⟩,e'⟩ S F
      cases b with
      |true=>simp[ey]at S
      | false =>
        obtain⟨⟨⟨t2,k2⟩,e2⟩,hx,he⟩:=l9.1 (cZ.1 F)
        have h6:e2=e':=m4 Prod.snd he
        subst h6
        have bt:(if((t2,k2):Nat×Nat)=(t,0)then(d,k)else(t2,k2))=(t',k'):=m4 Prod.fst he
        let⟨h1,h2⟩:=ed hx
        by_cases c4:((t2,k2):Nat×Nat)=(t,0)
        . have h5:((t2,k2),e2) ∈ st.own:=a1 (Z,(t2,k2),e2) (by cases c4; simp [ey]) h1
          exact l9.2 ⟨((t2,k2),e2),fC h5 h2,he⟩
        . rw [hG c4] at bt
          cases bt
          simp[ey]at S
          rcases S with S|S
          .exact absurd S h2
          . subst S
            have h5:((t',k'),e2)∈st.own:=a1 (Z,(t',k'),e2) (by simp[ey]) h1
            exact l9.2 ⟨((t',k'),e2),fC h5 h2,he⟩
  | ld d dk x i off cs own L p hd A hx hB F hm =>
    have a2:opv E.GE st.tmps x=.bptr i off:=(R x (by rw[A];simp[Op.operands])).symm.trans hx
    let⟨bb,ad⟩:=b0 a2
    let⟨own2,a0⟩:=HX (a8 (by simp[cp,cW,A])) hB
    have b1:∀y∈L,(off+y.1,y.2)∈own2:=λy hy=>by let⟨ab,a3,e1,e2⟩:=eV.1 (a1 (T,(i,off+y.1),y.2) (vaQ _ (l9.2 ⟨y,hy,rfl⟩)) ⟨cs,own,hB,hm y hy⟩);rw[a0]at e1;cases e1;exact e2
    refine fin (st':=⟨st.tmps.set d p,st.boxes.set i (.cells cs (own2.filter λx=>!L.any λy=>x.1==off+y.1)),(L.map λy=>((d,y.1),y.2)).reverse++bI d st.own⟩)
      ⟨by rw[hd];exact⟨_,rfl,rfl⟩,λ_=>YO a0,λhc=>by simp[cp,cW,A]at hc,?_,?_,λk hk=>by rw[Pi (λe=>by subst e;rw[ad]at hk;cases hk)]⟩ ?_
    . rintro ⟨b,⟨t',k⟩,e'⟩ S _ F
      cases b with
      |false=>exact vaZ _ (fC (cZ.1 F) λhx=>S (by simp only at hx;subst hx;simp[ey]))
      | true =>
        by_cases hi:i=t'
        . subst hi
          let⟨ab,a3,e1,e2⟩:=eV.1 F
          rw[a0]at e1;cases e1
          refine⟨_,_,pi (aq a0),vaX.2 ⟨e2,?_⟩⟩
          simp only[va4,vbl,vbf]
          intro y hy e
          exact S (vaQ _ (l9.2 ⟨y,hy,by simp[ey,e]⟩))
        .exact(jw hi).2 F
    . rintro ⟨b,⟨t',k⟩,e'⟩ S F
      cases b with
      | false =>
        rcases vz.1 (cZ.1 F)with F|F
        .exact va7 _ F
        . have h2:=(ed F).2
          simp[ey]at S
          exact absurd S h2
      | true =>
        exfalso
        have bq:(T,t',k)∈L.map λy=>(T,i,off+y.1):=by simpa[ey]using S
        let⟨y,hy,e⟩:=l9.1 bq
        simp only[Prod.mk.injEq,vce]at e
        obtain⟨rfl,rfl⟩:=e
        let⟨ab,a3,e1,e2⟩:=eV.1 F
        simp only[pi (aq hB),FS,ay.cells.injEq]at e1
        obtain⟨rfl,rfl⟩:=e1
        have:=(bR e2).2
        simp only[va4,vbl,vbf]at this
        exact this y hy rfl
    . rcases F with ⟨e,hT,hp,rfl⟩ | ⟨fs,l,hT,hp,rfl,hn,hl⟩
      . refine Nw (K:=(· = _)) h A hd (an d hd) hT a2 a0 hp (b1 _ (vcC _)) ?_ Q
        simp only[ox,vbt,vcx,List.reverse_nil,va9,List.singleton_append,az.mk.injEq,vce,vcm]
        congr 3
        funext z
        simp[bne]
      . refine OB h (K:=(· = _)) ?_ Q
        unfold Wk
        simp only[A,hd]
        exact⟨i,off,cs,own2,L,l,⟨fs,hT⟩,a2,a0,hp,b1,hn,hl,an d hd,rfl⟩
  | st dk x y i off vs cs own hd A hx hvs hB hp =>
    have a2:opv E.GE st.tmps x=.bptr i off:=(R x (by rw[A];simp[Op.operands])).symm.trans hx
    have b3:opv E.GE s.tmps y=opv E.GE st.tmps y:=R y (by rw[A];simp[Op.operands])
    rw[b3]at hvs hp
    let⟨bb,ad⟩:=b0 a2
    have a6:=a8 (by simp[cp,cW,A])
    let⟨own2,a0⟩:=HX a6 hB
    have a4:=QI hvs hB hp a0
    refine fin (st':=⟨st.tmps,st.boxes.set i (.cells (cs.take off++vs++cs.drop (off+vs.length)) (own2.filter λy=>y.1<off||off+vs.length<=y.1)),st.own⟩)
      ⟨by rw[hd];exact⟨rfl,rfl⟩,λhc=>absurd (by simp[cp,cW,A]) hc,λ_=>IT a6 rfl,?_,?_,λk hk=>by rw[Pi (λe=>by subst e;rw[ad]at hk;grind)]⟩ ?_
    . rintro ⟨b,⟨t',k⟩,e'⟩ S _ F
      cases b with
      |false=>exact F
      | true =>
        by_cases hi:i=t'
        . subst hi
          let⟨ab,a3,e1,e2⟩:=eV.1 F
          rw[a0]at e1;cases e1
          refine⟨_,_,pi (aq a0),vaX.2 ⟨e2,?_⟩⟩
          simp only[vbh,oy]
          by_cases h1:k<off
          .exact .inl h1
          .exact .inr (vb2 λh2=>S (yW.2 ⟨rfl,by simp only;omega,by simp only;omega⟩))
        .exact(jw hi).2 F
    . rintro ⟨b,⟨t',k⟩,e'⟩ S F
      cases b with
      |false=>simp[ey,Ex]at S
      | true =>
        exfalso
        obtain⟨rfl,h1,h2⟩:=yW.1 S
        let⟨ab,a3,e1,e2⟩:=eV.1 F
        simp only[pi (aq hB),FS,ay.cells.injEq]at e1
        obtain⟨rfl,rfl⟩:=e1
        have:=(bR e2).2
        simp only[vbh,oy]at this
        simp only at h1 h2
        omega
    . refine iw.of h a5 (by simp [qQ,A]) ?_ Q
      unfold Xs
      rw[A]
      simp only[yM,a2,a4,or]
      rw[hd];rfl
  | sto dk x t i off vs cs own L hd A hx hvs hB hp hk hm hn hl =>
    have a2:opv E.GE st.tmps x=.bptr i off:=(R x (by rw[A];simp[Op.operands])).symm.trans hx
    have b3:s.tmps.getD t .undef=st.tmps.getD t .undef:=R (.tmp t) (by rw[A];simp[Op.operands])
    rw[b3]at hvs hp hk
    let⟨bb,ad⟩:=b0 a2
    have a6:=a8 (by simp[cp,cW,A])
    let⟨own2,a0⟩:=HX a6 hB
    have a4:=QI hvs hB hp a0
    have b1:∀y∈L,((t,y.1),y.2)∈st.own:=λy hy=>a1 (Z,(t,y.1),y.2) (by simp[ey]) (hm y hy)
    have bg:=pi (a:=ay.cells (cs.take off++vs++cs.drop (off+vs.length)) (own2.filter λy=>y.1<off||off+vs.length<=y.1)) (aq a0)
    refine fin (st':=⟨st.tmps,st.boxes.set i (.cells (cs.take off++vs++cs.drop (off+vs.length)) ((L.map λy=>(off+y.1,y.2)).reverse++own2.filter λy=>y.1<off||off+vs.length<=y.1)),st.own.filter λx=>!L.any λy=>x.1==(t,y.1)⟩)
      ⟨by rw[hd];exact⟨rfl,rfl⟩,λhc=>absurd (by simp[cp,cW,A]) hc,λ_=>IT a6 rfl,?_,?_,λk hk=>by rw[Pi (λe=>by subst e;rw[ad]at hk;cases hk)]⟩ ?_
    . rintro ⟨b,⟨t',k⟩,e'⟩ S _ F
      cases b with
      | false =>
        refine vaX.2 ⟨cZ.1 F,?_⟩
        simp only[va4,vbl,vbf,Prod.mk.injEq,not_and]
        intro y hy e
        exact absurd (by simp[ey,e]) S
      | true =>
        by_cases hi:i=t'
        . subst hi
          let⟨ab,a3,e1,e2⟩:=eV.1 F
          rw[a0]at e1;cases e1
          refine⟨_,_,pi (aq a0),vaZ _ (vaX.2 ⟨e2,?_⟩)⟩
          simp only[vbh,oy]
          by_cases h1:k<off
          .exact .inl h1
          .exact .inr (vb2 λh2=>S (vaQ _ (yW.2 ⟨rfl,by simp only;omega,by simp only;omega⟩)))
        .exact(jw hi).2 F
    . rintro ⟨b,⟨t',k⟩,e'⟩ S F
      cases b with
      | false =>
        let⟨h1,h2⟩:=bR (cZ.1 F)
        exact vaX.2 ⟨a1 (Z,(t',k),e') S h1,h2⟩
      | true =>
        have bq:(T,t',k)∈Ex i off vs.length:=by simpa[ey]using S
        obtain⟨rfl,h1,h2⟩:=yW.1 bq
        let⟨ab,a3,e1,e2⟩:=eV.1 F
        simp only[pi (aq hB),FS,ay.cells.injEq]at e1
        obtain⟨rfl,rfl⟩:=e1
        rcases vz.1 e2 with e2|e2
        .exact⟨_,_,pi (aq a0),va7 _ e2⟩
        . exfalso
          have:=(bR e2).2
          simp only[vbh,oy]at this
          omega
    . rcases hk with ⟨l,hl⟩ | ⟨hone,e,rfl⟩
      . refine OB h (K:=(· = _)) ?_ Q
        unfold Wk
        simp only[A,hd]
        refine⟨i,off,_,_,_,L,l,a2,hl,by rw[<-hl];exact a4,bg,b1,hn,?_⟩
        rw[vbX]
      . refine LE (K:=(· = _)) h A a2 (by rw [a2]; exact a4) bg hone (b1 _ (vcC _)) ?_ Q
        rw[hd,vbX]
        simp only[Fy,ox,vbt,vcx,List.reverse_nil,va9,List.singleton_append,az.mk.injEq,vce,Nat.add_zero]
        congr 1
        funext z
        simp[bne]
  | mu t m k x H hd A hp =>
    have a6:=a8 (by simp[cp,cW,A])
    have o1:opv E.GE s.tmps m=opv E.GE st.tmps m:=R m (by rw[A];simp[Op.operands])
    have o2:opv E.GE s.tmps k=opv E.GE st.tmps k:=R k (by rw[A];simp[Op.operands])
    have o3:opv E.GE s.tmps x=opv E.GE st.tmps x:=R x (by rw[A];simp[Op.operands])
    rw[o1,o2,o3]at hp
    obtain⟨i,c5,d0,rfl,a4⟩:=Xu a6 hp
    have bn:∃b,bs[i]? =O (O b):=by have hv:=h.opv a.defers m;rw[d0]at hv;generalize (Act.mk a.tmps a.defers).eval m=vx at hv;cases hv with|mapr _ b hb=>exact⟨b,hb⟩
    let⟨bb,ad⟩:=bn
    let⟨i2,es,d6,hB,cg⟩:=Ll a4
    refine fin (st':=⟨st.tmps,st.boxes.set i (.map c5),st.own⟩) ⟨by rw[hd];exact⟨rfl,rfl⟩,λhc=>absurd (by simp[cp,cW,A]) hc,λ_=>IT a6 rfl,?_,?_,λk hk=>by rw[Pi (λe=>by subst e;rw[ad]at hk;cases hk)]⟩ ?_
    . rintro ⟨b,⟨t',k'⟩,e'⟩ S _ F
      cases b with
      |false=>exact F
      | true =>
        let⟨ab,a3,e1,e2⟩:=eV.1 F
        have d2:i2≠t':=λe=>by subst e;rw[hB]at e1;cases e1
        rw[cg]
        exact(jw d2).2 F
    . intro τ S
      simp at S
    . refine iw.of h a5 (by simp [qQ,A]) ?_ Q
      unfold Xs
      rw[A]
      simp only[yM,a4,or]
      rw[hd];rfl
  | callR d f args b4 r ro oa A hd hg =>
    have a9:∀x,x=f\/x∈args.toList->opv E.GE s.tmps x=opv E.GE st.tmps x:=λx hx=>R x (by rw[A];simp[Op.operands,Call.operands];simpa using hx)
    have c1:∀x∈oa,((x.t,x.k),x.e)∈s.own->((x.t,x.k),x.e)∈st.own:=λx hx hm=>a1 (Z,(x.t,x.k),x.e) (vaQ _ (l9.2 ⟨x,hx,rfl⟩)) hm
    refine fin (st':=⟨st.tmps.set d r,st.boxes,(ro.map λx=>((d,x.1),x.2))++bI d (st.own.filter λz=>!oa.any λx=>z.1==(x.t,x.k))⟩) ⟨by rw[hd];exact⟨_,rfl,rfl⟩,λ_=>rfl,λhc=>a8 (by rw[hc];decide),?_,?_,λ_ _=>rfl⟩ (D8 (K:=(·=_)) h A hd (an d hd) (hg st a9 c1) rfl Q)
    . rintro ⟨b,⟨t',k⟩,e'⟩ S _ F
      cases b with
      |true=>exact F
      | false =>
        simp only[ey,x8,Prod.mk.injEq,vce,vcm,l9,vdc,not_exists,not_and]at S
        refine vaZ _ (fC (vaX.2 ⟨cZ.1 F,?_⟩) S.1)
        simp only[va4,vbl,vbf,Prod.mk.injEq,not_and]
        exact λx hx e=>absurd e.symm (S.2 x hx)
    . rintro ⟨b,⟨t',k⟩,e'⟩ S F
      cases b with
      |true=>simp[ey]at S
      | false =>
        rcases vz.1 (cZ.1 F)with F|F
        .exact va7 _ F
        . obtain ⟨h1,h2⟩:=ed F
          let⟨h3,h4⟩:=bR h1
          have h5:((t',k),e')∈st.own:=a1 (Z,(t',k),e') S h3
          exact vaZ _ (fC (vaX.2 ⟨h5,h4⟩) h2)
  | cl d i f x b4 g e es A hd hb hf hx hC h0 h1 h2 =>
    have a9:∀y,y=f\/y=x->opv E.GE s.tmps y=opv E.GE st.tmps y:=λy hy=>R y (by rw[A];simp[Op.operands,Call.operands];exact hy)
    rw[a9 f (.inl rfl)]at hf
    rw[a9 x (.inr rfl)]at hx
    let⟨c8,c6⟩:=c7 i _ hb
    have b5:=h.opv a.defers f
    have br:=h.opv a.defers x
    rw[hf]at b5
    rw[hx]at br
    change VR Γ bs w _ (a.eval f)at b5
    change VR Γ bs w _ (a.eval x)at br
    generalize ci:a.eval f=vf at b5
    cases b5 with
    |func _ _ _ fs cs hl hl' k1 k2=>
    have cn:fs=#[]:=vbd (by simpa using hl)
    have c9:cs=#[]:=vbd (by simpa using hl')
    subst cn;subst c9
    have c3:(execOp a.eval o).run P w=.ok (.enter g #[a.eval x]) w:=by simp[execOp,A,resolve,ci,Deferred.ofValue,invoke,hC.1]
    unfold Oper.wp
    rw[c3,Oper.upon_enter]
    refine(qdc h c8 c6 hC br h0 h1 h2).mono λr w' S=>?_
    obtain⟨v',xb,rfl,hS,d4⟩:=S
    have g1:=hS.set (d:=d) d4
    have c2:(a.put o.dst v').tmps=a.tmps.setIfInBounds d v':=by rw[hd];rfl
    rw[<-c2]at g1
    refine⟨aW _ _ _,Γ,_,c,⟨st.tmps.set d (.bsl i 0 es.length),st.boxes,bI d st.own⟩,g1,⟨by rw[hd];exact⟨_,rfl,rfl⟩,λ_=>rfl,λhc=>a8 (by rw[hc];decide),S8 (L:=[]) (by simp),qbu (L:=[]),λ_ _=>rfl⟩,.inr (.inr ⟨i,_,xb,hb,rfl⟩)⟩
  | stR dk x y i off cs ab hd A hx hB hp hi =>
    have a2:opv E.GE st.tmps x=.bptr i off:=(R x (by rw[A];simp[Op.operands])).symm.trans hx
    have b3:opv E.GE s.tmps y=opv E.GE st.tmps y:=R y (by rw[A];simp[Op.operands])
    rw[b3]at hp
    let⟨bb,ad⟩:=b0 a2
    have a6:=a8 (by simp[cp,cW,A])
    let⟨own2,a0⟩:=HX a6 hB
    let⟨a3,a4⟩:=qd6 hp a0
    refine fin (st':=⟨st.tmps,st.boxes.set i (.cells ab a3),st.own⟩)
      ⟨by rw[hd];exact⟨rfl,rfl⟩,λhc=>absurd (by simp[cp,cW,A]) hc,λ_=>IT a6 rfl,?_,λτ S=>by simp at S,λk hk=>by rw[Pi (λe=>by subst e;rw[ad]at hk;cases hk)]⟩ ?_
    . rintro ⟨b,⟨t',k⟩,e'⟩ S hn F
      cases b with
      |false=>exact F
      |true=>exact(jw (λe=>hn rfl (by subst e;exact hi))).2 F
    . refine iw.of h a5 (by simp [qQ,A]) ?_ Q
      unfold Xs
      rw[A]
      simp only[yM,a2,a4,or]
      rw[hd];rfl
end
end
def qhm(τ:qep)(a:V Rs):Prop:=ey τ∈a\/(τ.1=T/\(Z,τ.2.1.1,1)∈a)
def VB(rw:V Nat)(o:M):K:=match o.op,o.dst with|.load _ _,O d=>rw.contains (8 * d+5)|_,_=>Z
def Xf(rw:V Nat)(o:M):K:=match o.op,o.dst with|.call {callee:=.value _,..},O d=>rw.contains (8 * d+7)|_,_=>Z
def rv(P:I)(rw:V Nat)(o:M):Nat:=if VB rw o then 0 else if Xf rw o then 2 else cp P rw o
inductive rr(P:Program)(GE:List (Nat×List PVal))(bi:Option (Nat×ay))(rw:List Nat)(o:Oper)(id:Nat)(s:az):az->List Rs->Prop where
 |old {s':az} {rs:List Rs} (h:kE P GE bi rw o id s s' rs) (hu:VB rw o=false) (hh:Xf rw o=false):rr P GE bi rw o id s s' rs
 |ldE (d:Nat) (T:TypeId) (x:Operand) (cs:List PVal) (p:PVal) (ho:o.op=.load T x) (hd:o.dst=some d) (hi:rw.contains (8 * d+5)=true) (hx:opv GE s.tmps x=.eptr cs) (hp:cO P T cs=some p):rr P GE bi rw o id s ⟨s.tmps.set d p,s.boxes,bI d s.own⟩ [(false,d,0)]
 | callG (d:Nat) (f:Operand) (args:Array Operand) (tys:Array TypeId) (r:PVal) (ro:List (Nat×TypeId)) (oa:List OA) (ρ:List Nat) (F:List ay→List ay) (ho:o.op = .call { callee := .value f,args,argTypes:=tys }) (hd:o.dst = some d) (hi:rw.contains (8 * d + 1) = true) (hh:rw.contains (8 * d + 7) = false)
   (F1:∀(H:List ay)(i:Nat),i∉ρ->(F H)[i]? =H[i]?) (F3:∀(H H2:List ay)(i:Nat),H2.map aT=H.map aT->i∈ρ->(F H2)[i]? =(F H)[i]?)
   (hg:∀st:az,(∀x,x=f\/x∈args.toList->opv GE s.tmps x=opv GE st.tmps x)->(∀x∈oa,((x.t,x.k),x.e)∈s.own->((x.t,x.k),x.e)∈st.own)->st.boxes.map aT=s.boxes.map aT->(∀i∈ρ,∀k e,kL s (true,(i,k),e)->kL st (true,(i,k),e))->Pf P GE f args.toList st r ro (F st.boxes) oa):
   rr P GE bi rw o id s ⟨s.tmps.set d r,F s.boxes,(ro.map λx=>((d,x.1),x.2))++bI d (s.own.filter λz=>!oa.any λx=>z.1==(x.t,x.k))⟩ (((false,d,0)::oa.map λx=>(false,x.t,0))++ρ.map λi=>(false,i,1))
 | callH (d:Nat) (f:Operand) (args:Array Operand) (tys:Array TypeId) (r:PVal) (ro:List (Nat×TypeId)) (oa:List OA) (ρ:List Nat) (F:List ay→List ay) (ho:o.op = .call { callee := .value f,args,argTypes:=tys }) (hd:o.dst = some d) (hi:rw.contains (8 * d + 7) = true)
   (F1:∀(H:List ay)(i:Nat),i∉ρ->(F H)[i]? =H[i]?) (F4:∀H:List ay,H.map aT=s.boxes.map aT->(F H).map aT=H.map aT) (F5:∀(H:List ay)(i:Nat) cs own,i∈ρ->(F H)[i]? =some (.cells cs own)->own=[]) (F6:∀i∈ρ,2 * i∈rw/\8 * i+3∈rw)
   (hg:∀st:az,(∀x,x=f\/x∈args.toList->opv GE s.tmps x=opv GE st.tmps x)->(∀x∈oa,((x.t,x.k),x.e)∈s.own->((x.t,x.k),x.e)∈st.own)->st.boxes.map aT=s.boxes.map aT->Pf P GE f args.toList st r ro (F st.boxes) oa):
   rr P GE bi rw o id s ⟨s.tmps.set d r,F s.boxes,(ro.map λx=>((d,x.1),x.2))++bI d (s.own.filter λz=>!oa.any λx=>z.1==(x.t,x.k))⟩ ((false,d,0)::oa.map λx=>(false,x.t,0))
section
variable{P:I}{GE:V (Nat×V U)}
def kE.nw{a:Q (Nat×ay)}{rw:V Nat}{o:M}{id:Nat}{s b:az}{rs:V Rs}(h:kE P GE a rw o id s b rs)(i:Nat):(Z,i,1)∉rs:=by cases h<;>simp[Ex]
def kE.rs_of{a:Q (Nat×ay)}{rw:V Nat}{o:M}{id:Nat}{s d:az}{rs:V Rs}(h:kE P GE a rw o id s d rs){τ:qep}(b:qhm τ rs):ey τ∈rs:=b.elim (λx=>x) λc=>absurd c.2 (h.nw _)
structure qhD(P:Program)(rw:List Nat)(o:Oper)(s s':az)(rs:List Rs):Prop where
 tm:match o.dst with
  |some d=>∃p,s'.tmps=s.tmps.set d p
  |none=>s'.tmps=s.tmps
 bx:rv P rw o≠3->s'.boxes.map aT=s.boxes.map aT
 back:∀τ,¬qhm τ rs->kL s' τ->kL s τ
def Rr{rw:V Nat}{o:M}(b:VB rw o=Z)(a:Xf rw o=Z):rv P rw o=cp P rw o:=by unfold rv;simp_all
def qh4{rw:V Nat}{o:M}{f:Operand}{args:Array Operand}{a:Array G}{d:Nat}(e:o.op=.call {callee:=.value f,args,argTypes:=a})(b:o.dst=O d)(c:rw.contains (8 * d+7)=T):rv P rw o=2:=by unfold rv VB Xf;simp_all
theorem DJ{rw:V Nat}{o:M}{f:Operand}{args:Array Operand}{a:Array G}{d:Nat}(h:o.op=.call {callee:=.value f,args,argTypes:=a})(b:o.dst=O d)(e:rw.contains (8 * d+1)=T)(c:rw.contains (8 * d+7)=Z):rv P rw o=3:=by rw[Rr (by simp_all[VB]) (by simp_all[Xf])];simp_all[cp,Option.any_some,if_true]
def qk1{rw:V Nat}{o:M}{e:G}{x:Operand}{d:Nat}(c:o.op=.load e x)(a:o.dst=O d)(b:rw.contains (8 * d+5)=T):rv P rw o=0:=by simp_all[rv,VB,if_true]
def rr.eff{A:Q (Nat×ay)}{rw:V Nat}{o:M}{id:Nat}{s z:az}{rs:V Rs}(h:rr P GE A rw o id s z rs):qhD P rw o s z rs:=by
 cases h with
 |old h hu a=>exact⟨h.eff.tm,by rw[Rr hu a];exact h.eff.bx,λτ E a=>h.eff.back τ (λq=>E (.inl q)) a⟩
 |ldE d H x m p ho hd hi q hp=>refine⟨by grind,λ_=>rfl,?_⟩;rintro⟨b,⟨i,k⟩,y⟩ e a;cases b with|true=>exact a|false=>exact(ed a).1
 | callG d f args tys r ro oa ρ F ho hd hi a F1 F3 hg =>
  refine⟨by grind,λB=>absurd (DJ ho hd hi a) B,?_⟩;rintro⟨b,⟨i,k⟩,y⟩ e a;cases b with
  |true=>have w:i∉ρ:=λq=>e (.inr ⟨rfl,vaZ _ (l9.2 ⟨i,q,rfl⟩)⟩);let⟨m,own,c,t⟩:=eV.1 a;simp only at c;rw[F1 _ _ w]at c;exact⟨m,own,c,t⟩
  | false =>
   rcases vz.1 (cZ.1 a)with a|a;.simp only[l9,Prod.mk.injEq]at a;obtain⟨x,_,⟨rfl,_⟩,_⟩:=a;exact absurd (.inl (by simp[ey])) e
   .exact(bR (ed a).1).1
 | callH d f args tys r ro oa ρ F ho hd hi F1 F4 F5 F6 hg =>
  refine⟨by grind,λ_=>F4 _ rfl,?_⟩;rintro⟨b,⟨i,k⟩,y⟩ e a;cases b with
  | true =>
   let⟨m,own,c,t⟩:=eV.1 a;simp only at c;by_cases w:i∈ρ;.grind
   .rw[F1 _ _ w]at c;exact⟨m,own,c,t⟩
  | false =>
   rcases vz.1 (cZ.1 a)with a|a;.simp only[l9,Prod.mk.injEq]at a;obtain⟨x,_,⟨rfl,_⟩,_⟩:=a;exact absurd (.inl (by simp[ey])) e
   .exact(bR (ed a).1).1
def rr.cls{b:Q (Nat×ay)}{rw:V Nat}{o:M}{id:Nat}{s c:az}{a:V Rs}(h:rr P GE b rw o id s c a){i k:Nat}(e:(T,i,k)∈a):2<=rv P rw o:=by
 cases h with
 |ldE d m x cs p ho hd hi hx hp=>simp_all
 |callH d f args tys r ro oa ρ F ho hd hi F1 F4 F5 F6 hg=>simp_all
 |old h hu hh=>rw[Rr hu hh];cases h with|ld d m x i off cs own L p hd ho hx hB h hm=>grind [cp,cW]|st m x y i off vs cs own hd ho hx hvs hB hp=>grind [cp,cW]|sto m x t i off vs cs own L hd ho hx hvs hB hp hk hm hn hl=>grind [cp,cW]|_=>simp_all
 |callG d f args tys r ro oa ρ F ho hd hi hh F1 F3 hg=>grind
def rr.whole{b:Q (Nat×ay)}{rw:V Nat}{o:M}{id:Nat}{s e:az}{a:V Rs}(h:rr P GE b rw o id s e a){i:Nat}(c:(Z,i,1)∈a):rv P rw o=3:=by cases h with|ldE d m x cs p ho hd hi hx hp=>simp_all|old h hu hh=>exact absurd c (h.nw i)|callH d f args tys r ro oa ρ F ho hd hi F1 F4 F5 F6 hg=>simp_all|callG d f args tys r ro oa ρ F ho hd hi hh F1 F3 hg=>grind [DJ]
def WD{o:M}{i:V Rs}(h:i=match o.dst with
 |some d=>[(Z,d,0)]
 |none=>[]) {τ:qep} (c:qhm τ i):ey τ∈i/\τ.1=false:=by
 subst h
 cases m:o.dst with
 |none=>rw[m]at c;rcases c with a|a<;>simp at a
 | some d =>
  rw[m]at c
  rcases c with a|a
  .refine⟨a,?_⟩
   let⟨b,⟨t,k⟩,e⟩:=τ
   cases b with
   |false=>rfl
   |true=>simp_all[ey]
  simp_all
structure qhF(P:Program)(bs:bC)(rw:List Nat)(o:Oper)(st st' s s':az)(rs:List Rs):Prop where
 tm:match o.dst with
  |some d=>∃p,st'.tmps=st.tmps.set d p/\s'.tmps=s.tmps.set d p
  |none=>st'.tmps=st.tmps/\s'.tmps=s.tmps
 b1:rv P rw o≠3->st'.boxes.map aT=st.boxes.map aT
 b2:rv P rw o=3->st'.boxes.map aT=s'.boxes.map aT
 keep:∀τ,¬qhm τ rs->(τ.1=true->2 * τ.2.1.1∉rw)->kL st τ->kL st' τ
 got:∀τ,qhm τ rs->kL s' τ->kL st' τ
 un:∀i:Nat,bs[i]? =some none->(false,i,1)∉rs->8 * i+3∉rw->st'.boxes[i]? =st.boxes[i]?
end
section
variable{P:I}{E:qy}{Γ:aS}{bs:bC}{c:Nat->Q kg}{w:J}{a:Act}{st:az}
def rr.sound(h:SR P E Γ bs c w a.tmps st){bi:Option (Nat×ay)}{rw:V Nat}{o:M}{id:Nat}{s s':az}{rs:V Rs}(hs:rr P E.GE bi rw o id s s' rs)(ad:aD o.op=T->bs[id]? =O N/\st.boxes[id]? =qX P o)(ab:∀i B,bi=O (i,B)->bs[i]? =O N/\st.boxes[i]? =O B)
    (a0:∀x∈o.op.operands.toList,opv E.GE s.tmps x=opv E.GE st.tmps x) (a3:2<=rv P rw o->st.boxes.map aT=s.boxes.map aT) (y:∀τ,qhm τ rs->kL s τ->kL st τ) (a5:∀d,o.dst=O d->d<st.tmps.length)
    (Q:Exit->Act->J->Prop):
    o.wp P a w (λa' w'=>a'.defers=a.defers/\∃H t A a4,SR P E H t A w' a'.tmps a4/\qhF P bs rw o st a4 s s' rs/\(t=bs\/(aD o.op=T/\∃b,t=bs.set id (O b))\/∃i B x,bi=O (i,B)/\t=bs.set i x)) Q:=by
  cases hs with
  | ldE d ar x cs p ho hd hi m hp =>
    have ao:opv E.GE st.tmps x=.eptr cs:=(a0 x (by rw[ho];simp[Op.operands])).symm.trans m
    have hw:o.wp P a w (iw P E bs id (aD o.op) a.defers (·=⟨st.tmps.set d p,st.boxes,bI d st.own⟩)) Q:=by refine iw.of h (λhm=>by simp_all) (by grind [qQ]) ?_ Q;unfold Xs;rw[ho];simp only[yM,ao,mt,hp,or];rw[hd];rfl
    refine Oper.wp_mono (λa' w' hA=>?_) hw
    obtain⟨h1,H,t,A,a9,h2,rfl,S⟩:=hA
    exact⟨h1,H,t,A,_,h2,⟨by grind,λ_=>rfl,λhc=>absurd ((qk1 (P:=P) ho hd hi).symm.trans hc) (by simp),λτ hr _ q=>S8 (st:=st) (tm:=st.tmps.set d p) (R:=λ_=>True) (rs:=[(Z,d,0)]) (d:=d) (L:=[]) (by simp) τ (λm=>hr (.inl m)) trivial q,
      λτ hr q=>qbu (L:=[]) (tm:=st.tmps.set d p) τ (hr.elim (λx=>x) λm=>by simp_all) q,λ_ _ _ _=>rfl⟩,S.imp_right .inl⟩
  | old hs hu q =>
    rw[Rr hu q]at a3
    refine Oper.wp_mono (λa' w' hA=>?_) (hs.sound h ad ab a0 a3 (λτ ht=>y τ (.inl ht)) a5 Q)
    let⟨h1,H,t,A,a4,h2,S,h4⟩:=hA
    exact⟨h1,H,t,A,a4,h2,⟨S.tm,by rw[Rr hu q];exact S.b1,by rw[Rr hu q];exact S.b2,λτ ht=>S.keep τ λm=>ht (.inl m),λτ ht=>S.got τ (hs.rs_of ht),λi hi _ _=>S.un i hi⟩,h4⟩
  | callG d f args tys r ro oa ρ F ho hd hi q F1 F3 hg =>
    have a6:∀x,x=f\/x∈args.toList->opv E.GE s.tmps x=opv E.GE st.tmps x:=λx m=>a0 x (by rw[ho];simp[Op.operands,Call.operands];simp_all)
    have a2:∀x∈oa,((x.t,x.k),x.e)∈s.own->((x.t,x.k),x.e)∈st.own:=λx m hm=>y (Z,(x.t,x.k),x.e) (.inl (va7 _ (vaQ _ (l9.2 ⟨x,m,rfl⟩)))) hm
    have a1:=a3 (by grind [DJ])
    have a7:∀i∈ρ,∀k e,kL s (T,(i,k),e)->kL st (T,(i,k),e):=λi hi k e q=>y _ (.inr ⟨rfl,vaZ _ (l9.2 ⟨i,hi,rfl⟩)⟩) q
    have hF:(F st.boxes).map aT=(F s.boxes).map aT:=by
      refine va2 λi=>?_;rw[o8,o8];by_cases hi:i∈ρ;.rw[F3 _ _ i a1 hi]
      grind [ZN]
    refine Oper.wp_mono (λa' w' hA=>?_) (D8 (id:=id) (K:=(·=⟨st.tmps.set d r,F st.boxes,(ro.map λx=>((d,x.1),x.2))++bI d (st.own.filter λz=>!oa.any λx=>z.1==(x.t,x.k))⟩)) h ho hd (a5 d hd) (hg st a6 a2 a1 a7) rfl Q)
    obtain⟨h1,H,t,A,a9,h2,rfl,S⟩:=hA
    refine⟨h1,H,t,A,_,h2,⟨by grind,λhc=>absurd (DJ ho hd hi q) hc,λ_=>hF,?_,?_,λi hb hn _=>F1 _ _ λm=>hn (vaZ _ (l9.2 ⟨i,m,rfl⟩))⟩,S.imp_right .inl⟩
    . rintro ⟨b,⟨t',k⟩,e'⟩ hr _ q
      cases b with
      | true =>
        have hn:t'∉ρ:=λm=>hr (.inr ⟨rfl,vaZ _ (l9.2 ⟨t',m,rfl⟩)⟩)
        let⟨cs,own,k1,k2⟩:=eV.1 q
        exact⟨cs,own,by simp only;rw[F1 _ _ hn];grind,k2⟩
      | false =>
        have X:ey (Z,(t',k),e')∉((Z,d,0)::oa.map λx=>(Z,x.t,0)):=λm=>hr (.inl (va7 _ m))
        simp only[ey,x8,Prod.mk.injEq,vce,vcm,l9,vdc,not_exists,not_and]at X
        refine vaZ _ (fC (vaX.2 ⟨cZ.1 q,?_⟩) X.1)
        simp only[va4,vbl,vbf,Prod.mk.injEq,not_and]
        exact λx m e=>absurd e.symm (X.2 x m)
    . rintro ⟨b,⟨t',k⟩,e'⟩ hr q
      cases b with
      | true =>
        have an:t'∈ρ:=by
          rcases hr with m|⟨_,m⟩;.simp[ey]at m
          . rcases vz.1 m with m | m
            .simp at m
            . obtain ⟨i,hi,he⟩:=l9.1 m
              simp only[Prod.mk.injEq,vcm,vce]at he
              subst he;exact hi
        let⟨cs,own,k1,k2⟩:=eV.1 q
        exact⟨cs,own,by simp only at k1 ⊢;rw[F3 _ _ t' a1 an];exact k1,k2⟩
      | false =>
        rcases vz.1 (cZ.1 q)with q|q
        .exact va7 _ q
        . obtain ⟨h1,h2⟩:=ed q
          let⟨S,h4⟩:=bR h1
          have h5:((t',k),e')∈st.own:=y (Z,(t',k),e') hr S
          exact vaZ _ (fC (vaX.2 ⟨h5,h4⟩) h2)
  | callH d f args tys r ro oa ρ F ho hd hi F1 F4 F5 F6 hg =>
    have a6:∀x,x=f\/x∈args.toList->opv E.GE s.tmps x=opv E.GE st.tmps x:=λx m=>a0 x (by rw[ho];simp[Op.operands,Call.operands];simpa using m)
    have a2:∀x∈oa,((x.t,x.k),x.e)∈s.own->((x.t,x.k),x.e)∈st.own:=λx m hm=>y (Z,(x.t,x.k),x.e) (.inl (vaQ _ (l9.2 ⟨x,m,rfl⟩))) hm
    have a1:=a3 (by rw[qh4 ho hd hi];decide)
    refine Oper.wp_mono (λa' w' hA=>?_) (D8 (id:=id) (K:=(·=⟨st.tmps.set d r,F st.boxes,(ro.map λx=>((d,x.1),x.2))++bI d (st.own.filter λz=>!oa.any λx=>z.1==(x.t,x.k))⟩)) h ho hd (a5 d hd) (hg st a6 a2 a1) rfl Q)
    obtain⟨h1,H,t,A,a9,h2,rfl,S⟩:=hA
    refine⟨h1,H,t,A,_,h2,⟨by rw[hd];exact⟨_,rfl,rfl⟩,λ_=>F4 _ a1,λhc=>absurd ((qh4 (P:=P) ho hd hi).symm.trans hc) (by decide),?_,?_,λi _ _ hn=>F1 _ _ λm=>hn (F6 i m).2⟩,S.imp_right .inl⟩
    . rintro ⟨b,⟨t',k⟩,e'⟩ hr a8 q
      cases b with
      | true =>
        have hn:t'∉ρ:=λm=>a8 rfl (F6 t' m).1
        let⟨cs,own,k1,k2⟩:=eV.1 q
        exact⟨cs,own,by simp only;rw[F1 _ _ hn];exact k1,k2⟩
      | false =>
        have X:ey (Z,(t',k),e')∉((Z,d,0)::oa.map λx=>(Z,x.t,0)):=λm=>hr (.inl m)
        simp only[ey,x8,Prod.mk.injEq,vce,vcm,l9,vdc,not_exists,not_and]at X
        refine vaZ _ (fC (vaX.2 ⟨cZ.1 q,?_⟩) X.1)
        simp only[va4,vbl,vbf,Prod.mk.injEq,not_and]
        exact λx m e=>absurd e.symm (X.2 x m)
    . rintro ⟨b,⟨t',k⟩,e'⟩ hr q
      cases b with
      | true =>
        rcases hr with m|⟨_,m⟩
        .simp[ey]at m
        .simp at m
      | false =>
        rcases vz.1 (cZ.1 q)with q|q
        .exact va7 _ q
        . obtain ⟨h1,h2⟩:=ed q
          let⟨S,h4⟩:=bR h1
          have h5:((t',k),e')∈st.own:=y (Z,(t',k),e') hr S
          exact vaZ _ (fC (vaX.2 ⟨h5,h4⟩) h2)
end
end Go.Proofs.YtankopenjcbeeaaGreatDoor
