/- PROVED: a part of the proof. Conditions: none. -/
import Derived.Test.YtjddnhkahpfhdaaGreatDoorPkC4
set_option linter.unusedSimpArgs false
set_option linter.unusedVariables false
noncomputable section
namespace Go.Proofs.YtjddnhkahpfhdaaGreatDoor
open Go
structure GC where
 ρ:List Nat
 argsC:List PVal
 oa:List OA
 Bs:List av
 Hc:List av
 Bs':List av
 Hc':List av
 r:PVal
 rc:PVal
 ro:List (Nat×TypeId)
inductive It where
 |cg (c:GC)
 |cn (c:GC)
 |ar (i:Nat) (e:TypeId) (n:Nat) (cs:List PVal)
 |fz (i:Nat) (es:List (List PVal)) (lv rk:List Nat)
 |g (j:Nat) (b:Bool)
 |k
 |s
 |v (p:PVal)
 |x (cs:List PVal)
 |w (i:Nat) (B:av)
 |c (r:PVal) (ro:List (Nat×TypeId))
 |dr (an:List Nat)
 |dx (an:List Nat) (X:List av) (br:List (Nat×Nat)) (rw:List Nat)
 |pa (n:Nat)
 |pc (st0:az) (e:Exit) (st1:az)
 |b (p:PVal) (L:List (Nat×TypeId))
 |y (vs:List PVal)
 |z (l:List PVal)
 |e (vs:List PVal)
 |sh (t k:Nat) (e:TypeId)
def mr:List PVal->Nat->(PVal->Prop)->Prop
 |[],_,k=>k .undef
 |p::_,0,k=>k p
 |_::l,n+1,k=>mr l n k
theorem ej:∀(l:List PVal) (n:Nat) (k:PVal->Prop),mr l n k=k (l.getD n .undef)
 |[],_,_=>by simp[mr]
 |_::_,0,_=>by simp[mr]
 |_::l,n+1,k=>by simp only[mr,ej l n k,List.getD_cons_succ]
def dv{α:Type}:List α->Nat->α->(List α->Prop)->Prop
 |[],_,_,k=>k []
 |_::l,0,v,k=>k (v::l)
 |x::l,n+1,v,k=>dv l n v λl'=>k (x::l')
theorem aW{α:Type}:∀(l:List α) (n:Nat) (v:α) (k:List α->Prop),dv l n v k=k (l.set n v)
 |[],_,_,_=>by simp[dv]
 |_::_,0,_,_=>by simp[dv]
 |x::l,n+1,v,k=>by simp only[dv,aW l n v,List.set_cons_succ]
def aR{α:Type}:List α->(List α->Prop)->Prop
 |[],k=>k []
 |x::l,k=>aR l λl'=>k (x::l')
def Cj(l:List av)(r:List av)(k:List av->Prop):Prop:=aR (l++r) k
theorem aA{α:Type}:∀(l:List α) (k:List α->Prop),aR l k=k l
 |[],_=>rfl
 |x::l,k=>by simp only[aR,aA l]
def Sc:Value->(PVal->Prop)->Prop
 |.int a n,k=>k (.int a n)
 |.bool b,k=>k (.bool b)
 |.string s,k=>aR s.data.toList λl=>k (.str l)
 |v,k=>k (absV v)
theorem Qo(v:Value)(k:PVal->Prop):Sc v k=k (absV v):=by
 unfold Sc
 split
 ·rfl
 ·rfl
 ·rw[aA];rfl
 ·rfl
def jP(GE:List (Nat×List PVal))(tmps:List PVal)(x:Operand)(k:PVal->Prop):Prop:=
 match x with
 |.tmp t=>mr tmps t k
 |.const v=>Sc v k
 |x=>k (opv GE tmps x)
theorem bu(GE:List (Nat×List PVal))(tmps:List PVal)(x:Operand)(k:PVal->Prop):jP GE tmps x k=k (opv GE tmps x):=by
 cases x with
 |tmp t=>exact ej _ _ _
 |const v=>exact Qo _ _
 |global g=>rfl
 |func f=>rfl
def DY(GE:List (Nat×List PVal))(tmps:List PVal):List Operand->(List PVal->Prop)->Prop
 |[],k=>k []
 |x::l,k=>jP GE tmps x λp=>DY GE tmps l λps=>k (p::ps)
theorem iU(GE:List (Nat×List PVal))(tmps:List PVal):∀(l:List Operand) (k:List PVal->Prop),DY GE tmps l k=k (l.map (opv GE tmps))
 |[],_=>rfl
 |x::l,k=>by simp only[DY,bu,iU GE tmps l,vaM]
def qe(GE:List (Nat×List PVal))(tmps:List PVal):List (Nat×Operand)->(List (Nat×PVal)->Prop)->Prop
 |[],k=>k []
 |x::l,k=>jP GE tmps x.2 λp=>qe GE tmps l λps=>k ((x.1,p)::ps)
theorem kq(GE:List (Nat×List PVal))(tmps:List PVal):∀(l:List (Nat×Operand)) (k:List (Nat×PVal)->Prop),qe GE tmps l k=k (l.map λx=>(x.1,opv GE tmps x.2))
 |[],_=>rfl
 |x::l,k=>by simp only[qe,bu,kq GE tmps l,vaM]
def Ra(GE:List (Nat×List PVal))(tmps:List PVal):Option Operand->(Option PVal->Prop)->Prop
 |none,k=>k none
 |some x,k=>jP GE tmps x λp=>k (some p)
theorem Rb(GE:List (Nat×List PVal))(tmps:List PVal)(o:Option Operand)(k:Option PVal->Prop):Ra GE tmps o k=k (o.map (opv GE tmps)):=by
 cases o with
 |none=>rfl
 |some x=>simp only[Ra,bu,vak]
def xP(sc:List It)(f:PVal->Prop)(K:PVal->List It->Prop):Prop:=
 match sc with
 |.v p::sc'=>f p/\K p sc'
 |_=>False
def Fq(o:Option PVal)(K:PVal->Prop):Prop:=
 match o with
 |some p=>K p
 |none=>False
theorem pE{o:Option PVal}{K:PVal->Prop}(h:Fq o K):∃p,o=some p/\K p:=by
 unfold Fq at h
 split at h
 ·exact⟨_,rfl,h⟩
 ·exact h.elim
theorem jv{sc:List It}{f:PVal->Prop}{K:PVal->List It->Prop}(h:xP sc f K):∃p sc',f p/\K p sc':=by
 unfold xP at h
 split at h
 ·exact⟨_,_,h⟩
 ·exact h.elim
def CC(P:Program)(GE:List (Nat×List PVal))(g:FuncId)(args:List PVal)(r:PVal)(ro:List (Nat×TypeId)):Prop:=dU 0 args/\C P GE g args [] [] r ro []
def D8(P:Program)(t:TypeId)(es:List (PVal×PVal))(k:PVal)(ok:Bool):Option PVal:=
 match P.underlying t with
 | some (.map kt e) => match P.underlying kt with
  | some kd =>
   if jY kd k then
    match uR k es 0,Ej P e with
    |some (some (_,v)),_=>some (if ok then .tuple [v,.bool true]else v)
    |some none,some z=>some (if ok then .tuple [z,.bool false]else z)
    |_,_=>none
   else none
  |_=>none
 |_=>none
theorem GR{P:Program}{t:TypeId}{es:List (PVal×PVal)}{k p:PVal}{ok:Bool}{H:List av}{i:Nat}(hB:H[i]? =some (.map es))(h:D8 P t es k ok=some p):pN P t (.mapr i) k ok H=some p:=by
 unfold D8 at h
 unfold pN
 split at h
 ·rename_i kt e hu
  split at h
  ·rename_i kd hk
   simp only[hu,hB,hk]
   exact h
  ·cases h
 ·cases h
def GX(P:Program)(t:TypeId)(es:List (PVal×PVal))(k v:PVal):Option (List (PVal×PVal)):=
 match P.underlying t with
 | some (.map kt _) => match P.underlying kt with
  | some kd =>
   if jY kd k then
    match uR k es 0 with
    |some (some (j,_))=>some (es.set j (k,v))
    |some none=>some (es++[(k,v)])
    |none=>none
   else none
  |_=>none
 |_=>none
theorem Ee{P:Program}{t:TypeId}{es es':List (PVal×PVal)}{k v:PVal}{H:List av}{i:Nat}(hB:H[i]? =some (.map es))(h:GX P t es k v=some es'):fh P t (.mapr i) k v H=some (H.set i (.map es')):=by
 unfold GX at h
 unfold fh
 split at h
 ·rename_i kt e hu
  split at h
  ·rename_i kd hk
   simp only[hu,hB,hk]
   split at h
   ·rename_i hkk
    rw[vaA hkk]
    split at h
    ·rename_i hf;cases h;simp[hf]
    ·rename_i hf;cases h;simp[hf]
    ·cases h
   ·cases h
  ·cases h
 ·cases h
def iT:List av->Nat->(av->Prop)->Prop
 |[],_,_=>False
 |B::_,0,k=>k B
 |_::l,n+1,k=>iT l n k
theorem cJ:∀{l:List av} {n:Nat} {k:av->Prop},iT l n k->∃B,l[n]? =some B/\k B
 |[],_,_,h=>h.elim
 |B::_,0,_,h=>⟨B,rfl,h⟩
 |_::l,n+1,k,h=>by simp only[iT]at h;obtain⟨B,h1,h2⟩:=cJ h;exact⟨B,by simpa using h1,h2⟩
def MV(op:BinOp)(x:PVal):Bool:=match op,x with
 |.quo,_=>true
 |.rem,_=>true
 |.add,.str _=>true
 |_,.agg _=>true
 |_,_=>false
def LS(P:Program)(GE:List (Nat×List PVal))(op:Op)(tmps:List PVal)(H:List av)(sc:List It)(K:PVal->List av->List It->Prop):Prop:=
 match op with
 |.move x=>jP GE tmps x λp=>K p H sc
 |.assign x=>jP GE tmps x λp=>K p H sc
 |.pick c x y=>jP GE tmps c λpc=>match pc with
  |.bool true=>jP GE tmps x λp=>K p H sc
  |.bool false=>jP GE tmps y λp=>K p H sc
  |_=>False
 |.binOp op T x y _=>jP GE tmps x λvx=>jP GE tmps y λvy=>match MV op vx with
  |true=>xP sc (λp=>H6 P op T vx vy=some p) λp sc'=>K p H sc'
  |false=>Fq (H6 P op T vx vy) λp=>K p H sc
 |.unOp op _ x=>jP GE tmps x λvx=>Fq (U6 op vx) λp=>K p H sc
 |.convert s d x=>jP GE tmps x λvx=>xP sc (λp=>Mf P s d vx=some p) λp sc'=>K p H sc'
 |.extract t i=>jP GE tmps t λvt=>Fq (oq vt i) λp=>K p H sc
 |.nilCheck x=>jP GE tmps x λvx=>match vx with
  |.eptr cs=>K (.eptr cs) H sc
  |.bptr i off=>K (.bptr i off) H sc
  |.func (.func f) first cap=>K (.func (.func f) first cap) H sc
  |_=>False
 |.makeFunc fn first cap=>DY GE tmps first.toList λf=>DY GE tmps cap.toList λc=>K (.func fn f c) H sc
 | .load t x => jP GE tmps x fun vx => match vx with
  |.eptr cs=>xP sc (λp=>aC P t cs=some p) λp sc'=>K p H sc'
  | .bptr i off => iT H i fun B => match B with
   |.cells cs _=>match sc with
    |.s::sc'=>Fq (aC P t (cs.drop off)) λp=>K p H sc'
    |.v p::sc'=>aC P t (cs.drop off)=some p/\K p H sc'
    |_=>False
   |_=>False
  |_=>False
 | .store t x y => jP GE tmps x fun vx => jP GE tmps y fun vy => match vx,sc with
  | .bptr i off,.s :: sc' => match bv vy with
   | some vs => iT H i fun B => match B with
    |.cells cs own=>match decide (vs.length=P.cellsOf t)&&(P.info? t).isSome&&decide (off+vs.length<=cs.length)&&vs.all PVal.one with
     |true=>aR (cs.take off++vs++cs.drop (off+vs.length)) λcs'=>dv H i (.cells cs' (own.filter λy=>y.1<off||off+vs.length<=y.1)) λH'=>K (.val undef) H' sc'
     |false=>False
    |_=>False
   |none=>False
  | .bptr i off,.x vs :: sc' => bv vy = some vs∧(iT H i fun B => match B with
    |.cells cs own=>match decide (vs.length=P.cellsOf t)&&(P.info? t).isSome&&decide (off+vs.length<=cs.length)&&vs.all PVal.one with
     |true=>aR (cs.take off++vs++cs.drop (off+vs.length)) λcs'=>dv H i (.cells cs' (own.filter λy=>y.1<off||off+vs.length<=y.1)) λH'=>K (.val undef) H' sc'
     |false=>False
    |_=>False)
  |.bptr i off,.w _ (.cells cs' own')::sc'=>iT H i λB=>(dh P t (.bptr 0 off) vy [B]=some [.cells cs' own'])/\dv H i (.cells cs' own') λH'=>K (.val undef) H' sc'
  |_,_=>False
 |.fieldAddr s x f=>jP GE tmps x λvx=>match vx with
  |.bptr i off=>Fq (au P s (.bptr i off) f) λp=>K p H sc
  |vx=>xP sc (λp=>au P s vx f=some p) λp sc'=>K p H sc'
 |.field t x f=>jP GE tmps x λvx=>xP sc (λp=>Ib P t vx f=some p) λp sc'=>K p H sc'
 |.indexAddr t x i=>jP GE tmps x λvx=>jP GE tmps i λvi=>xP sc (λp=>fV P t vx vi=some p) λp sc'=>K p H sc'
 |.index t x i=>jP GE tmps x λvx=>jP GE tmps i λvi=>xP sc (λp=>Ic P t vx vi=some p) λp sc'=>K p H sc'
 | .lookup t m k ok => jP GE tmps m fun vm => jP GE tmps k fun vk => match vm with
  |.mapr i=>iT H i λB=>match B with
   |.map es=>xP sc (λp=>D8 P t es vk ok=some p) λp sc'=>K p H sc'
   |_=>False
  |_=>False
 | .mapUpdate t m k x => jP GE tmps m fun vm => jP GE tmps k fun vk => jP GE tmps x fun vx => match vm,sc with
  |.mapr i,.w _ (.map es')::sc'=>iT H i λB=>match B with
   |.map es=>GX P t es vk vx=some es'/\dv H i (.map es') λH'=>K (.val undef) H' sc'
   |_=>False
  |_,_=>False
 |.slice t x lo hi none=>jP GE tmps x λvx=>Ra GE tmps lo λvl=>Ra GE tmps hi λvh=>xP sc (λp=>mt P t vx vl vh none=some p) λp sc'=>K p H sc'
 |.build t parts=>qe GE tmps parts.toList λps=>xP sc (λp=>dF P t ps=some p) λp sc'=>K p H sc'
 |.buildSlice t len parts=>qe GE tmps parts.toList λps=>xP sc (λp=>dS P t len ps=some p) λp sc'=>K p H sc'
 | .call { callee := .builtin .len,args:=⟨[x]⟩,argTypes:=⟨[t]⟩ } => jP GE tmps x fun vx => match vx with
  |.mapr i=>iT H i λB=>match B with
   |.map es=>xP sc (λp=>p=.int .i64 es.length/\(P.underlying t).any (λd=>match d with|.map _ _=>true|_=>false)=true) λp sc'=>K p H sc'
   |_=>False
  |vx=>xP sc (λp=>∀H,wm P t vx H=some p) λp sc'=>K p H sc'
 |.call {callee:=.builtin .max,args:=⟨x::r⟩,..}=>jP GE tmps x λvx=>DY GE tmps r λvr=>Fq (Bx Mg vx vr) λp=>K p H sc
 |.call {callee:=.builtin .min,args:=⟨x::r⟩,..}=>jP GE tmps x λvx=>DY GE tmps r λvr=>Fq (Bx Mh vx vr) λp=>K p H sc
 |_=>False
section
variable{P:Program}{GE:List (Nat×List PVal)}
theorem NB{t:TypeId}{off i:Nat}{y:PVal}{H:List av}{B:av}{cs':List PVal}{own':List (Nat×TypeId)}(hB:H[i]? =some B)(h:dh P t (.bptr 0 off) y [B]=some [.cells cs' own']):dh P t (.bptr i off) y H=some (H.set i (.cells cs' own')):=by
 unfold dh at h ⊢
 split at h
 ·rename_i i' off' vs h1 h2
  cases h1
  simp only[h2]
  change (match(some B:Option av)with|some (.cells cs own)=>_|_=>none)=_ at h
  rw[hB]
  split at h
  ·rename_i hb
   cases hb
   simp only
   split at h
   ·rename_i hc
    rw[vaA hc]
    simp only[List.set_cons_zero,var,vbM,vb5]at h
    rw[h]
   ·cases h
  ·cases h
 ·cases h
theorem PF(t:TypeId)(id:Nat)(v:Operand->PVal)(x:Operand)(H:List av):iW P (.load t x) id v H=(kI P t (v x) H).map λp=>(p,H):=rfl
theorem Bo{op:Op}{id:Nat}{tmps:List PVal}{H:List av}{sc:List It}{K:PVal->List av->List It->Prop}(h:LS P GE op tmps H sc K):∃p H' sc',iW P op id (opv GE tmps) H=some (p,H')/\K p H' sc'/\H'.length=H.length:=by
 unfold LS at h
 split at h
 case h_1=>rw[bu]at h;exact⟨_,_,_,rfl,h,rfl⟩
 case h_2=>rw[bu]at h;exact⟨_,_,_,rfl,h,rfl⟩
 case h_3 c x y=>
  rw[bu]at h
  split at h
  ·rename_i hc;rw[bu]at h;exact⟨_,_,_,by simp only[iW,hc],h,rfl⟩
  ·rename_i hc;rw[bu]at h;exact⟨_,_,_,by simp only[iW,hc],h,rfl⟩
  ·exact h.elim
 case h_4=>
  simp only[bu]at h
  split at h
  ·obtain⟨p,sc',h1,h2⟩:=jv h;exact⟨p,_,sc',by simp only[iW,h1,vak],h2,rfl⟩
  ·obtain⟨p,h1,h2⟩:=pE h;exact⟨p,_,_,by simp only[iW,h1,vak],h2,rfl⟩
 case h_5=>simp only[bu]at h;obtain⟨p,h1,h2⟩:=pE h;exact⟨p,_,_,by simp only[iW,h1,vak],h2,rfl⟩
 case h_6=>simp only[bu]at h;obtain⟨p,sc',h1,h2⟩:=jv h;exact⟨p,_,sc',by simp only[iW,h1,vak],h2,rfl⟩
 case h_7=>simp only[bu]at h;obtain⟨p,h1,h2⟩:=pE h;exact⟨p,_,_,by simp only[iW,h1,vak],h2,rfl⟩
 case h_8=>
  simp only[bu]at h
  split at h
  ·rename_i hv;exact⟨_,_,_,by simp only[iW,hv],h,rfl⟩
  ·rename_i hv;exact⟨_,_,_,by simp only[iW,hv],h,rfl⟩
  ·rename_i hv;exact⟨_,_,_,by simp only[iW,hv],h,rfl⟩
  ·exact h.elim
 case h_9=>simp only[iU]at h;exact⟨_,_,_,rfl,h,rfl⟩
 case h_10 t x=>
  simp only[bu]at h
  rw[PF]
  split at h
  ·rename_i cs hv
   obtain⟨p,sc',h1,h2⟩:=jv h
   exact⟨p,_,sc',by simp only[hv,kI,h1,vak],h2,rfl⟩
  ·rename_i i off hv
   obtain⟨B,hB,h⟩:=cJ h
   split at h
   ·rename_i cs own
    split at h
    ·obtain⟨p,h1,h2⟩:=pE h
     exact⟨p,_,_,by simp only[hv,kI,hB,h1,vak],h2,rfl⟩
    ·exact⟨_,_,_,by simp only[hv,kI,hB,h.1,vak],h.2,rfl⟩
    ·exact h.elim
   ·exact h.elim
  ·exact h.elim
 case h_11 t x y=>
  simp only[bu]at h
  split at h
  ·rename_i i off sc' hv
   split at h
   ·rename_i vs hvs
    obtain⟨B,hB,h⟩:=cJ h
    split at h
    ·rename_i cs own
     split at h
     ·rename_i hc
      simp only[aA,aW]at h
      simp only[vae,vam]at hc
      exact⟨_,_,_,by simp only[iW,dh,hv,hvs,hB];rw[vaA ⟨hc.1.1.1,hc.1.1.2,hc.1.2,hc.2⟩];rfl,h,by simp⟩
     ·exact h.elim
    ·exact h.elim
   ·exact h.elim
  ·rename_i i off vs sc' hv
   obtain⟨hvs,h⟩:=h
   obtain⟨B,hB,h⟩:=cJ h
   split at h
   ·rename_i cs own
    split at h
    ·rename_i hc
     simp only[aA,aW]at h
     simp only[vae,vam]at hc
     exact⟨_,_,_,by simp only[iW,dh,hv,hvs,hB];rw[vaA ⟨hc.1.1.1,hc.1.1.2,hc.1.2,hc.2⟩];rfl,h,by simp⟩
    ·exact h.elim
   ·exact h.elim
  ·rename_i i off j cs' own' sc' hv
   obtain⟨B,hB,h1,h2⟩:=cJ h
   rw[aW]at h2
   exact⟨_,_,_,by simp only[iW,hv,NB hB h1];rfl,h2,by simp⟩
  ·exact h.elim
 case h_12=>
  simp only[bu]at h
  split at h
  ·rename_i hv
   obtain⟨p,h1,h2⟩:=pE h;exact⟨p,_,_,by simp only[iW,hv,h1,vak],h2,rfl⟩
  ·obtain⟨p,sc',h1,h2⟩:=jv h;exact⟨p,_,sc',by simp only[iW,h1,vak],h2,rfl⟩
 case h_13=>simp only[bu]at h;obtain⟨p,sc',h1,h2⟩:=jv h;exact⟨p,_,sc',by simp only[iW,h1,vak],h2,rfl⟩
 case h_14=>simp only[bu]at h;obtain⟨p,sc',h1,h2⟩:=jv h;exact⟨p,_,sc',by simp only[iW,h1,vak],h2,rfl⟩
 case h_15=>simp only[bu]at h;obtain⟨p,sc',h1,h2⟩:=jv h;exact⟨p,_,sc',by simp only[iW,h1,vak],h2,rfl⟩
 case h_16 t m k ok=>
  simp only[bu]at h
  split at h
  ·rename_i i hv
   obtain⟨B,hB,h⟩:=cJ h
   split at h
   ·rename_i es
    obtain⟨p,sc',h1,h2⟩:=jv h
    exact⟨p,_,sc',by simp only[iW,hv,GR hB h1,vak],h2,rfl⟩
   ·exact h.elim
  ·exact h.elim
 case h_17 t m k x=>
  simp only[bu]at h
  split at h
  ·rename_i i j es' sc' hv
   obtain⟨B,hB,h⟩:=cJ h
   split at h
   ·rename_i es
    obtain⟨h1,h2⟩:=h
    rw[aW]at h2
    exact⟨_,_,_,by simp only[iW,hv,Ee hB h1];rfl,h2,by simp⟩
   ·exact h.elim
  ·exact h.elim
 case h_18=>simp only[bu,Rb]at h;obtain⟨p,sc',h1,h2⟩:=jv h;exact⟨p,_,sc',by simp only[iW,h1,vak],h2,rfl⟩
 case h_19=>simp only[kq]at h;obtain⟨p,sc',h1,h2⟩:=jv h;exact⟨p,_,sc',by simp only[iW,h1,vak],h2,rfl⟩
 case h_20=>simp only[kq]at h;obtain⟨p,sc',h1,h2⟩:=jv h;exact⟨p,_,sc',by simp only[iW,h1,vak],h2,rfl⟩
 case h_21 x t=>
  simp only[bu]at h
  split at h
  ·rename_i i hv
   obtain⟨B,hB,h⟩:=cJ h
   split at h
   ·rename_i es
    obtain⟨p,sc',⟨rfl,h1⟩,h2⟩:=jv h
    refine⟨_,_,sc',?_,h2,rfl⟩
    simp only[iW,hv,wm]
    cases hu:P.underlying t with
    |none=>rw[hu]at h1;cases h1
    |some d=>
     rw[hu]at h1
     cases d<;>simp at h1
     simp only[hB,vak]
   ·exact h.elim
  ·obtain⟨p,sc',h1,h2⟩:=jv h;exact⟨p,_,sc',by simp only[iW,h1 H,vak],h2,rfl⟩
 case h_22=>simp only[bu,iU]at h;obtain⟨p,h1,h2⟩:=pE h;exact⟨p,_,_,by simp only[iW,h1,vak],h2,rfl⟩
 case h_23=>simp only[bu,iU]at h;obtain⟨p,h1,h2⟩:=pE h;exact⟨p,_,_,by simp only[iW,h1,vak],h2,rfl⟩
 case h_24=>exact h.elim
end
def FH(st:az)(dst:Option Tmp)(p:PVal)(ro:List (Nat×TypeId))(H:List av)(K:az->Prop):Prop:=
 match dst with
 |some d=>dv st.tmps d p λtm=>aR ((ro.map λx=>((d,x.1),x.2))++be d st.own) λow=>K ⟨tm,H,ow⟩
 |none=>K ⟨st.tmps,H,st.own⟩
theorem nr(st:az)(dst:Option Tmp)(p:PVal)(ro:List (Nat×TypeId))(H:List av)(K:az->Prop):FH st dst p ro H K=K (qg st dst p ro H):=by
 cases dst with
 |none=>rfl
 |some d=>simp only[FH,aW,aA,qg]
def Ks(P:Program)(GE:List (Nat×List PVal))(f:Operand)(args:List Operand)(tmps:List PVal)(sc:List It)(K:PVal->List (Nat×TypeId)->List It->Prop):Prop:=
 jP GE tmps f λvf=>match vf with
  |.func (.func g) first cap=>DY GE tmps args λas=>match sc with
   |.c r ro::sc'=>CC P GE g (first++as++cap) r ro/\K r ro sc'
   |_=>False
  |_=>False
def pw(P:Program)(GE:List (Nat×List PVal))(o:Oper)(id:Nat)(sc:List It)(st:az)(K:List It->az->Prop):Prop:=
 match jA o st.tmps.length with
 |false=>False
 | true => match o.op with
  |.call {callee:=.value f,args,..}=>Ks P GE f args.toList st.tmps sc λr ro sc'=>FH st o.dst r ro st.boxes λst'=>K sc' st'
  |.alloc t=>match sc with
   |.x zs::sc'=>eX P t=some zs/\aR (BC P t) λow=>dv st.boxes id (.cells zs ow) λH=>FH st o.dst (.bptr id 0) [] H λst'=>K sc' st'
   |_=>False
  |.box _ x=>jP GE st.tmps x λvx=>match sc with
   |.x cs::sc'=>bv vx=some cs/\AD cs=true/\dv st.boxes id (.cells cs []) λH=>FH st o.dst (.bptr id 0) [] H λst'=>K sc' st'
   |_=>False
  |.makeMap _ none=>dv st.boxes id (.map []) λH=>FH st o.dst (.mapr id) [] H λst'=>K sc st'
  |op=>LS P GE op st.tmps st.boxes sc λp H sc'=>FH st o.dst p [] H λst'=>K sc' st'
def Fm(n d:Nat)(K:Prop):Prop:=match decide (d<n)with
 |true=>K
 |false=>False
theorem gV{n d:Nat}{K:Prop}(h:Fm n d K):d<n/\K:=by
 unfold Fm at h
 split at h
 ·rename_i hd;exact⟨by simpa using hd,h⟩
 ·exact h.elim
def Dy(P:Program)(st:az)(T e:TypeId)(t:Nat)(dst:Option Tmp)(vx vt:PVal)(sc:List It)(K:List It->az->Prop):Prop:=
 match vx with
 | .bptr i off => match dh P T (.bptr i off) vt st.boxes with
  | some H => iT H i fun B => match B with
   |.cells cs own=>match vt.one with
    |true=>aR cs λcs'=>dv H i (.cells cs' ((off,e)::own)) λH'=>FH {st with own:=st.own.filter λx=>x.1 !=(t,0)} dst (.val undef) [] H' λst'=>K sc st'
    |false=>False
   |_=>False
  |none=>False
 |_=>False
def Dz(P:Program)(GE:List (Nat×List PVal))(A:List Nat)(o:Oper)(id:Nat)(sc:List It)(st:az)(K:List It->az->Prop):Prop:=
 match o.op,o.dst with
 |.assign (.tmp t),some d=>Fm st.tmps.length d (mr st.tmps t λp=>dv st.tmps d p λtm=>aR (gy d (λx=>if x.1=t then(d,x.2)else x) st.own) λow=>K sc ⟨tm,st.boxes,ow⟩)
 |.move (.tmp t),some d=>match decide (d∈A)with
  |true=>Fm st.tmps.length d (mr st.tmps t λp=>dv st.tmps d p λtm=>aR (gy d (λx=>if x.1=t then(d,x.2)else x) st.own) λow=>K sc ⟨tm,st.boxes,ow⟩)
  |false=>pw P GE o id sc st K
 |.assign (.const v),some d=>match nq P o.type v with
  |some e=>Fm st.tmps.length d (dv st.tmps d (.slice []) λtm=>aR (((d,0),e)::be d st.own) λow=>K sc ⟨tm,st.boxes,ow⟩)
  |none=>pw P GE o id sc st K
 |.move (.const v),some d=>match nq P o.type v with
  |some e=>Fm st.tmps.length d (dv st.tmps d (.slice []) λtm=>aR (((d,0),e)::be d st.own) λow=>K sc ⟨tm,st.boxes,ow⟩)
  |none=>pw P GE o id sc st K
 |.extract (.tmp t) i,some d=>Fm st.tmps.length d (mr st.tmps t λvt=>Fq (oq vt i) λp=>dv st.tmps d p λtm=>aR (gy d (λx=>if x=(t,i)then(d,0)else x) st.own) λow=>K sc ⟨tm,st.boxes,ow⟩)
 |.buildSlice T len parts,some d=>Fm st.tmps.length d (qe GE st.tmps parts.toList λps=>match sc,P.underlying T with
  |.v p::sc',some (.slice e)=>dS P T len ps=some p/\dv st.tmps d p λtm=>aR (((d,0),e)::be d st.own) λow=>K sc' ⟨tm,st.boxes,ow⟩
  |_,_=>False)
 | .call { callee := .builtin .append,args:=⟨[.tmp t,y]⟩,argTypes:=⟨[T,T']⟩ },some d => Fm st.tmps.length d (mr st.tmps t fun ve => jP GE st.tmps y fun vn => match ve,vn,sc,P.underlying T with
  |.slice es,.slice ns,.v p::sc',some (.slice e)=>match decide (T=T')&&decide (((t,0),e)∈st.own)with
   |true=>eP P T es ns=some p/\dv st.tmps d p λtm=>aR (((d,0),e)::be d (st.own.filter λx=>x.1 !=(t,0))) λow=>K sc' ⟨tm,st.boxes,ow⟩
   |false=>False
  |_,_,_,_=>False)
 | .load T x,some d => match decide (d ∈ A) with
  | true => Fm st.tmps.length d (jP GE st.tmps x fun vx => match vx,P.underlying T with
   | .bptr i off,some (.slice e) => iT st.boxes i fun B => match B with
    |.cells cs own=>match decide ((off,e)∈own)&&decide (off<cs.length)with
     |true=>mr cs off λp=>dv st.tmps d p λtm=>aR (own.filter λx=>x.1 !=off) λown'=>dv st.boxes i (.cells cs own') λH=>aR (((d,0),e)::be d st.own) λow=>K sc ⟨tm,H,ow⟩
     |false=>False
    |_=>False
   |_,_=>False)
  |false=>pw P GE o id sc st K
 |.store T x (.tmp t),_=>match st.own.find? (λy=>y.1==(t,0))with
  |some (_,e)=>jP GE st.tmps x λvx=>mr st.tmps t λvt=>Dy P st T e t o.dst vx vt sc K
  |none=>pw P GE o id sc st K
 |_,_=>pw P GE o id sc st K
def W9:Value->Bool
 |.bool _=>true
 |_=>false
def Cw(ops:Array Oper)(j:Nat)(want:Bool)(pos:Nat)(sc:List It)(st:az)(go:Bool->List It->az->Prop):Prop:=
 match(ops[j]?).bind (·.dst)with
 |none=>False
 | some t => mr st.tmps t fun p => match p with
  | .bool x => match sc with
   |.g pos' b::sc'=>match pos'==pos with
    |true=>x=b/\dv st.tmps t (.bool b) λtm=>go (b==want) sc' ⟨tm,st.boxes,st.own⟩
    |false=>go (x==want) sc st
   |_=>go (x==want) sc st
  |.val v=>match W9 v with
   |true=>False
   |false=>go false sc st
  |_=>False
def lk:List Nat->Bool
 |[]=>true
 |x::r=>!(r.contains x)&&lk r
theorem jm:∀{l:List Nat},lk l=true->l.Nodup
 |[],_=>.nil
 |x::r,h=>by
  simp only[lk,vae,va4,vcD,vbH]at h
  exact vbz.2 ⟨h.1,jm h.2⟩
def Bv(t:Nat)(own:List ((Nat×Nat)×TypeId)):List (Nat×TypeId):=own.filterMap λx=>if x.1.1==t then some (x.1.2,x.2)else none
theorem vP{t:Nat}{own:List ((Nat×Nat)×TypeId)}{y:Nat×TypeId}(h:y∈Bv t own):((t,y.1),y.2)∈own:=by
 unfold Bv at h
 obtain⟨⟨⟨t',k⟩,e⟩,hx,he⟩:=vbW.1 h
 split at he
 ·rename_i ht
  simp only[vaY]at ht
  cases he;subst ht;exact hx
 ·cases he
def Ma(off n:Nat)(own:List (Nat×TypeId)):List (Nat×TypeId):=own.filterMap λx=>if decide (off<=x.1)&&decide (x.1<off+n)then some (x.1 - off,x.2)else none
theorem vO{off n:Nat}{own:List (Nat×TypeId)}{y:Nat×TypeId}(h:y∈Ma off n own):(off+y.1,y.2)∈own/\y.1<n:=by
 unfold Ma at h
 obtain⟨⟨k,e⟩,hx,he⟩:=vbW.1 h
 split at he
 ·rename_i ht
  simp only[vae,vam]at ht
  cases he
  have:off+(k - off)=k:=by omega
  exact⟨by rw[this];exact hx,by simp only;omega⟩
 ·cases he
def Ac(ρ:List Nat):List PVal->List PVal->Prop
 |[],[]=>True
 |p::ps,q::qs=>rm ρ p q/\Ac ρ ps qs
 |_,_=>False
theorem Ac.len{ρ:List Nat}:∀{l r:List PVal},Ac ρ l r->l.length=r.length
 |[],[],_=>rfl
 |[],_::_,h=>h.elim
 |_::_,[],h=>h.elim
 |_::_,_::_,h=>by simp[Ac.len h.2]
theorem Ac.get{ρ:List Nat}:∀{l r:List PVal},Ac ρ l r->∀(i:Nat) p q,l[i]? =some p->r[i]? =some q->rm ρ p q
 |[],[],_,i,p,q,hp,_=>by simp at hp
 |[],_::_,h,_,_,_,_,_=>h.elim
 |_::_,[],h,_,_,_,_,_=>h.elim
 |_::_,_::_,h,0,p,q,hp,hq=>by simp at hp hq;subst hp;subst hq;exact h.1
 |_::_,_::_,h,i+1,p,q,hp,hq=>Ac.get h.2 i p q (by simpa using hp) (by simpa using hq)
def J7(ρ:List Nat):av->av->Prop
 |.cells cs own,.cells cs' own'=>own=own'/\Ac ρ cs cs'
 |.map es,.map es'=>es=es'/\∀x∈es,x.1.cl 0/\x.2.cl 0
 |.dead,.dead=>True
 |_,_=>False
theorem J7.to{ρ:List Nat}{B B':av}(h:J7 ρ B B'):fy ρ B B':=by
 cases B<;>cases B'<;>simp only[J7]at h
 ·exact⟨h.1,h.2.len,h.2.get⟩
 ·obtain⟨rfl,h⟩:=h
  refine⟨rfl,λi k u k' u' h1 h2=>?_⟩
  rw[h1]at h2;cases h2
  obtain⟨q1,q2⟩:=h _ (vaq h1)
  exact⟨.refl _ q1,.refl _ q2⟩
 ·trivial
def kG(ρ:List Nat)(H:List av):List Nat->List av->List av->Prop
 |[],[],[]=>True
 |j::js,B::Bs,Bc::Hc=>(iT H j λB0=>oR B0 B=B/\J7 ρ B Bc)/\kG ρ H js Bs Hc
 |_,_,_=>False
def og(ρ:List Nat):List av->List av->Prop
 |[],[]=>True
 |B::Bs,Bc::Hc=>J7 ρ B Bc/\og ρ Bs Hc
 |_,_=>False
def gI(H:List av):List Nat->List av->List av
 |j::js,B::Bs=>gI (H.set j B) js Bs
 |_,_=>H
def Io(H:List av):List Nat->List av->(List av->Prop)->Prop
 |j::js,B::Bs,K=>dv H j B λH'=>Io H' js Bs K
 |_,_,K=>K H
theorem kr:∀(H:List av) (js:List Nat) (Bs:List av) (K:List av->Prop),Io H js Bs K=K (gI H js Bs)
 |H,[],_,K=>by cases ‹List av›<;>rfl
 |H,_::_,[],K=>rfl
 |H,j::js,B::Bs,K=>by simp only[Io,aW,kr,gI]
theorem vY:∀(H:List av) (js:List Nat) (Bs:List av),(gI H js Bs).length=H.length
 |H,[],_=>by cases ‹List av›<;>rfl
 |H,_::_,[]=>rfl
 |H,j::js,B::Bs=>by simp only[gI,vY,vcA]
theorem gA:∀(H:List av) (js:List Nat) (Bs:List av) {j:Nat},j∉js->(gI H js Bs)[j]? =H[j]?
 |H,[],Bs,_,_=>by cases Bs<;>rfl
 |H,_::_,[],_,_=>rfl
 |H,k::js,B::Bs,j,h=>by
  simp only[vat,not_or]at h
  simp only[gI]
  rw[gA _ js Bs h.2,vap (Ne.symm h.1)]
theorem zc:∀(H:List av) (js:List Nat) (Bs:List av),js.Nodup->js.length=Bs.length->(∀j∈js,j<H.length)->∀(i j:Nat) B,js[i]? =some j->Bs[i]? =some B->(gI H js Bs)[j]? =some B
 |H,[],Bs,_,_,_,i,j,B,hj,_=>by simp at hj
 |H,_::_,[],_,hl,_,_,_,_,_,_=>by simp at hl
 | H,k :: js,B0 :: Bs,hn,hl,hlt,i,j,B,hj,hB => by
  obtain⟨hn1,hn2⟩:=vbz.1 hn
  simp only[gI]
  cases i with
  |zero=>
   simp at hj hB;subst hj;subst hB
   rw[gA _ js Bs hn1,vag (hlt _ (by simp))]
  |succ i=>exact zc _ js Bs hn2 (by simpa using hl) (λx hx=>by rw[vcA];exact hlt x (by simp[hx])) i j B (by simpa using hj) (by simpa using hB)
theorem DG{ρ:List Nat}{H:List av}:∀{js:List Nat} {Bs Hc:List av},kG ρ H js Bs Hc->js.length=Bs.length/\Hc.length=js.length/\(∀j∈js,j<H.length)/\
  ∀(i j:Nat) B Bc,js[i]? =some j->Bs[i]? =some B->Hc[i]? =some Bc->(∃B0,H[j]? =some B0/\oR B0 B=B)/\fy ρ B Bc
 |[],[],[],_=>⟨rfl,rfl,by simp,by simp⟩
 |[],_::_,_,h=>by simp[kG]at h
 |[],[],_::_,h=>by simp[kG]at h
 |_::_,[],_,h=>by simp[kG]at h
 |_::_,_::_,[],h=>by simp[kG]at h
 | k :: js,B :: Bs,Bc :: Hc,h => by
  obtain⟨h1,h2⟩:=h
  obtain⟨B0,hB0,h3,h4⟩:=cJ h1
  obtain⟨k1,k2,k3,k4⟩:=DG h2
  refine⟨by simp[k1],by simp[k2],λj hj=>?_,λi j b bc hj hb hbc=>?_⟩
  ·rcases vat.1 hj with rfl|hj
   ·exact ag hB0
   ·exact k3 j hj
  ·cases i with
   |zero=>simp at hj hb hbc;subst hj;subst hb;subst hbc;exact⟨⟨B0,hB0,h3⟩,h4.to⟩
   |succ i=>exact k4 i j b bc (by simpa using hj) (by simpa using hb) (by simpa using hbc)
theorem uG{ρ:List Nat}:∀{Bs Hc:List av},og ρ Bs Hc->Bs.length=Hc.length/\∀(i:Nat) B Bc,Bs[i]? =some B->Hc[i]? =some Bc->fy ρ B Bc
 |[],[],_=>⟨rfl,by simp⟩
 |[],_::_,h=>h.elim
 |_::_,[],h=>h.elim
 |B::Bs,Bc::Hc,h=>by
  obtain⟨k1,k2⟩:=uG h.2
  refine⟨by simp[k1],λi b bc hb hbc=>?_⟩
  cases i with
  |zero=>simp at hb hbc;subst hb;subst hbc;exact h.1.to
  |succ i=>exact k2 i b bc (by simpa using hb) (by simpa using hbc)
def RQ(t:Nat):Option Operand->Bool
 |some (.tmp u)=>u==t
 |_=>false
def OQ:Option Operand->Bool
 |some (.const v)=>i6 v
 |_=>false
def Jm(n:Nat)(args:List Operand)(own:List ((Nat×Nat)×TypeId))(oa:List OA):Bool:=
 oa.all (λx=>decide (n<=x.i)&&((OQ args[x.i - n]? &&x.k==0)||(decide (((x.t,x.k),x.e)∈own)&&RQ x.t args[x.i - n]?)))&&oa.all λx=>oa.all λy=>!(x.t==y.t&&x.k==y.k)||x.i==y.i
def CG:av->Bool
 |.dead=>false
 |_=>true
def fu(P:Program)(GE:List (Nat×List PVal))(f:Operand)(args:List Operand)(c:GC)(st:az)(K:List av->Prop):Prop:=
 jP GE st.tmps f λvf=>match vf with
 | .func (.func g) first cap => DY GE st.tmps args fun as => match lk c.ρ && Jm first.length args st.own c.oa && c.Bs.all CG && decide (c.Bs'.length = c.ρ.length) with
  | true => C P GE g c.argsC (c.oa.map fun x => ((x.i,x.k),x.e)) c.Hc c.rc c.ro c.Hc'∧Ac c.ρ (first ++ as ++ cap) c.argsC∧kG c.ρ st.boxes c.ρ c.Bs c.Hc∧og c.ρ c.Bs' c.Hc'∧rm c.ρ c.r c.rc ∧
    Io st.boxes c.ρ c.Bs' K
  |false=>False
 |_=>False
theorem lL{P:Program}{GE:List (Nat×List PVal)}{f:Operand}{args:List Operand}{c:GC}{st:az}{K:List av->Prop}(h:fu P GE f args c st K):∃H',yf P GE f args st c.r c.ro H' c.oa/\K H':=by
 unfold fu at h
 rw[bu]at h
 split at h
 ·rename_i g first cap hf
  rw[iU]at h
  split at h
  ·rename_i hb
   simp only[vae,vam]at hb
   obtain⟨⟨⟨b1,b2⟩,b3⟩,b4⟩:=hb
   obtain⟨h1,h2,h3,h4,h5,h6⟩:=h
   rw[kr]at h6
   have hn:=jm b1
   obtain⟨i1,i2,i3,i4⟩:=DG h3
   obtain⟨o1,o2⟩:=uG h4
   unfold Jm at b2
   rw[vae]at b2
   obtain⟨c1,c2⟩:=b2
   have hgetB:∀{i j:Nat},c.ρ[i]? =some j->∃B,c.Bs[i]? =some B:=λ{i j} hj=>⟨_,vaa (by rw[<-i1];exact ag hj)⟩
   have hgetH:∀{i j:Nat},c.ρ[i]? =some j->∃B,c.Hc[i]? =some B:=λ{i j} hj=>⟨_,vaa (by rw[i2];exact ag hj)⟩
   refine⟨_,⟨g,first,cap,c.argsC,c.ρ,gI st.boxes c.ρ c.Bs,c.Hc,c.Hc',c.rc,hf,hn,h1,⟨vY _ _ _,λi B hB=>?_⟩,⟨i2,λi j hj=>?_⟩,⟨by rw[<-o1];exact b4,λi j hj=>?_⟩,vY _ _ _,λj hj=>by rw[gA _ _ _ hj,gA _ _ _ hj],h5,h2.len,h2.get,λx hx=>?_,λx hx y hy e1 e2=>?_⟩,h6⟩
   ·by_cases hi:i∈c.ρ
    ·obtain⟨k,hk⟩:=va7.1 hi
     obtain⟨B1,hB1⟩:=hgetB hk
     obtain⟨Bc,hBc⟩:=hgetH hk
     obtain⟨⟨B0,hB0,hfg⟩,_⟩:=i4 k i B1 Bc hk hB1 hBc
     rw[zc _ _ _ hn i1 i3 k i B1 hk hB1]at hB
     cases hB
     refine⟨B0,hB0,?_⟩
     rcases LT B0 B with hx|hx|hx
     ·rw[hfg]at hx
      have:=vao.1 b3 B (vaq hB1)
      rw[hx]at this;cases this
     ·rw[hfg]at hx;exact .inl hx
     ·rw[hfg]at hx;exact .inr hx
    ·rw[gA _ _ _ hi]at hB
     exact⟨B,hB,.inl rfl⟩
   ·obtain⟨B1,hB1⟩:=hgetB hj
    obtain⟨Bc,hBc⟩:=hgetH hj
    exact⟨B1,Bc,zc _ _ _ hn i1 i3 i j B1 hj hB1,hBc,(i4 i j B1 Bc hj hB1 hBc).2⟩
   ·have hi:=ag hj
    have e1:=vaa (l:=c.Bs') (i:=i) (by omega)
    have e2:=vaa (l:=c.Hc') (i:=i) (by omega)
    exact⟨_,_,zc _ _ _ hn b4.symm i3 i j _ hj e1,e2,o2 i _ _ e1 e2⟩
   ·have:=vao.1 c1 x hx
    simp only[vae,va1,vam,vaY]at this
    refine⟨x.i - first.length,by omega,?_⟩
    rcases this.2 with⟨h2,h3⟩|⟨h2,h3⟩
    ·left
     unfold OQ at h2
     split at h2
     ·rename_i v hv
      unfold i6 at h2
      split at h2
      ·exact⟨hv,h3⟩
      ·cases h2
     ·cases h2
    ·right
     unfold RQ at h3
     split at h3
     ·rename_i u hu
      simp only[vaY]at h3
      subst h3;exact⟨h2,hu⟩
     ·cases h3
   ·have:=vao.1 (vao.1 c2 x hx) y hy
    simp only[va1,va4,Bool.and_eq_false_iff,beq_eq_false_iff_ne,ne_eq,vaY]at this
    rcases this with(hx|hx)|hx
    ·exact absurd e1 hx
    ·exact absurd e2 hx
    ·exact hx
  ·exact h.elim
 ·exact h.elim
def Hr(P:Program)(GE:List (Nat×List PVal))(f:Operand)(args:List Operand)(c:GC)(d:Nat)(st:az)(K:List PVal->List av->List ((Nat×Nat)×TypeId)->Prop):Prop:=
 jP GE st.tmps f λvf=>DY GE st.tmps args λvs=>match vf with
  |.func (.func g) [] []=>match decide (c.ρ=List.range' st.boxes.length c.Hc'.length)with
   |true=>CN P GE g vs c.rc c.ro c.Hc'/\dU 0 vs/\og c.ρ c.Bs' c.Hc'/\rm c.ρ c.r c.rc/\dv st.tmps d c.r λtm=>aR ((c.ro.map λx=>((d,x.1),x.2))++be d st.own) λow=>Cj st.boxes c.Bs' λH=>K tm H ow
   |false=>False
  |_=>False
theorem Fe{P:Program}{GE:List (Nat×List PVal)}{o:Oper}{f:Operand}{args:Array Operand}{tys:Array TypeId}{c:GC}{d:Nat}{st:az}{K:List It->az->Prop}{sc:List It}(ho:o.op=.call {callee:=.value f,args,argTypes:=tys})(hd:o.dst=some d)(h1:d<st.tmps.length)
  (h:Hr P GE f args.toList c d st λtm H ow=>K sc ⟨tm,H,ow⟩):JH P GE o (λst'=>∃sc',K sc' st') st:=by
 unfold Hr at h
 rw[bu,iU]at h
 split at h
 ·rename_i g hf
  split at h
  ·rename_i hc
   simp only[vam]at hc
   obtain⟨h2,h3,h4,h5,h6⟩:=h
   simp only[aW,aA,Cj]at h6
   obtain⟨k1,k2⟩:=uG h4
   unfold JH
   simp only[ho,hd]
   rw[hc]at h5 k2
   exact⟨g,c.rc,c.ro,c.Bs',c.Hc',c.r,hf,h2,h3,k1,k2,h5,h1,sc,h6⟩
  ·exact h.elim
 ·exact h.elim
def Cz (P:Program) (GE:List (Nat×List PVal)) (A:List Nat) (o:Oper) (id:Nat) (sc:List It) (st:az) (K:List It→az→Prop):Prop :=
 match o.op,sc with
 |.build T parts,.b p L::sc'=>match o.dst with
  |some d=>Fm st.tmps.length d (qe GE st.tmps parts.toList λps=>dF P T ps=some p/\tB P T ps L/\dv st.tmps d p λtm=>aR ((L.map λx=>((d,x.1),x.2))++be d st.own) λow=>K sc' ⟨tm,st.boxes,ow⟩)
  |none=>False
 | .store T x (.tmp t),.y vs :: sc' => mr st.tmps t fun vt => match vt with
  | .agg l => match o.dst with
   | none => jP GE st.tmps x fun vx => match vx with
    | .bptr i off => aR (Bv t st.own) fun L => l = vs∧iT st.boxes i fun B => match B with
     | .cells cs own => match lk (L.map (·.1)) && decide (vs.length = P.cellsOf T) && (P.info? T).isSome && decide (off + vs.length ≤ cs.length) && vs.all PVal.one with
      | true => aR (cs.take off ++ vs ++ cs.drop (off + vs.length)) fun cs' => aR ((L.map fun y => (off + y.1,y.2)).reverse ++ own.filter fun y => y.1 < off || off + vs.length ≤ y.1) fun own' =>
        dv st.boxes i (.cells cs' own') λH=>aR (st.own.filter λx=>!L.any λy=>x.1==(t,y.1)) λow=>K sc' ⟨st.tmps,H,ow⟩
      |false=>False
     |_=>False
    |_=>False
   |some _=>False
  |_=>Dz P GE A o id sc st K
 | .load T x,.z l :: sc' => match P.underlying T with
  | some (.struct _) => match o.dst with
   | some d => Fm st.tmps.length d (jP GE st.tmps x fun vx => match vx with
    | .bptr i off => iT st.boxes i fun B => match B with
     | .cells cs own => aC P T (cs.drop off) = some (.agg l)∧aR (Ma off (P.cellsOf T) own) fun L => match lk (L.map (·.1)) with
      | true => dv st.tmps d (.agg l) fun tm => aR (own.filter fun x => !L.any fun y => x.1 == off + y.1) fun own' => dv st.boxes i (.cells cs own') fun H =>
        aR ((L.map λy=>((d,y.1),y.2)).reverse++be d st.own) λow=>K sc' ⟨tm,H,ow⟩
      |false=>False
     |_=>False
    |_=>False)
   |none=>False
  |_=>Dz P GE A o id sc st K
 |.box _ x,.e vs::sc'=>match o.dst with
  |some d=>Fm st.tmps.length d (jP GE st.tmps x λvx=>bv vx=some vs/\dv st.tmps d (.eptr vs) λtm=>aR (be d st.own) λow=>K sc' ⟨tm,st.boxes,ow⟩)
  |none=>False
 |.call {callee:=.value f,args,..},.cg c::sc'=>match o.dst with
  |some d=>Fm st.tmps.length d (fu P GE f args.toList c st λH=>dv st.tmps d c.r λtm=>aR ((c.ro.map λx=>((d,x.1),x.2))++be d (st.own.filter λz=>!c.oa.any λx=>z.1==(x.t,x.k))) λow=>K sc' ⟨tm,H,ow⟩)
  |none=>False
 |.call {callee:=.value f,args,..},.cn c::sc'=>match o.dst with
  |some d=>Fm st.tmps.length d (Hr P GE f args.toList c d st λtm H ow=>K sc' ⟨tm,H,ow⟩)
  |none=>False
 | .call { callee := .builtin .append,args:=⟨[.tmp t,y]⟩,argTypes:=⟨[T,T']⟩ },.ar i e n cs :: sc' => match o.dst with
  | some d => Fm st.tmps.length d (mr st.tmps t fun ve => jP GE st.tmps y fun vn => match ve,vn with
   | .slice [],.slice ns => match decide (T = T') && decide (((t,0),e) ∈ st.own) && decide (i = st.boxes.length) with
    | true => P.underlying T = some (.slice e)∧(∃ p,eP P T [] ns = some p)∧(n = ns.length∧cs = ns.flatten) ∧
      dv st.tmps d (.bsl i 0 n) λtm=>aR (be d (st.own.filter λx=>x.1 !=(t,0))) λow=>Cj st.boxes [.cells cs []] λH=>K sc' ⟨tm,H,ow⟩
    |false=>False
   |_,_=>False)
  |none=>False
 | .call { callee := .value f,args:=⟨[x]⟩,.. },.ar i e n cs :: sc' => match o.dst with
  | some d => Fm st.tmps.length d (jP GE st.tmps f fun vf => jP GE st.tmps x fun vn => match vf,vn with
   | .func (.func g) [] [],.slice ns => match decide (i = st.boxes.length) with
    | true => rr P g e∧(0 < P.cellsOf e∧(∀ x ∈ ns,x.length = P.cellsOf e∧∀ q ∈ x,q.one = true)∧ns.length ≤ cy)∧(n = ns.length∧cs = ns.flatten) ∧
      dv st.tmps d (.bsl i 0 n) λtm=>aR (be d st.own) λow=>Cj st.boxes [.cells cs []] λH=>K sc' ⟨tm,H,ow⟩
    |false=>False
   |_,_=>False)
  |none=>False
 | .store T x (.const v),.ar _ e _ _ :: sc' => match o.dst,i6 v with
  | none,true => jP GE st.tmps x fun vx => jP GE st.tmps (.const v) fun vy => match vx,bv vy with
   | .bptr i off,some vs => iT st.boxes i fun B => match B with
    |.cells cs own=>match decide (vs.length=P.cellsOf T)&&(P.info? T).isSome&&decide (off+vs.length<=cs.length)&&vs.all PVal.one with
     |true=>aR (cs.take off++vs++cs.drop (off+vs.length)) λcs'=>aR ((off,e)::own.filter λy=>y.1<off||off+vs.length<=y.1) λown'=>dv st.boxes i (.cells cs' own') λH=>K sc' ⟨st.tmps,H,st.own⟩
     |false=>False
    |_=>False
   |_,_=>False
  |_,_=>False
 | .box T (.tmp t),.y vs :: sc' => match o.dst with
  | some d => Fm st.tmps.length d (mr st.tmps t fun vt => match vt with
   |.agg l=>aR (Bv t st.own) λL=>l=vs/\(match lk (L.map (·.1))&&AD vs with
    |true=>aR (vs.map (nilTo id T)) λcs=>dv st.tmps d (.bptr id 0) λtm=>aR ((L.map λy=>(0+y.1,y.2)).reverse++[]) λown=>dv st.boxes id (.cells cs own) λH=>aR (be d (st.own.filter λx=>!L.any λy=>x.1==(t,y.1))) λow=>K sc' ⟨tm,H,ow⟩
    |false=>False)
   |_=>False)
  |none=>False
 |.alloc T,.y vs::sc'=>match o.dst with
  |some d=>Fm st.tmps.length d (eX P T=some vs/\aR (BC P T) λown=>aR (vs.map (nilTo id T)) λcs=>dv st.tmps d (.bptr id 0) λtm=>dv st.boxes id (.cells cs own) λH=>aR (be d st.own) λow=>K sc' ⟨tm,H,ow⟩)
  |none=>False
 | .call { callee := .builtin .append,args:=⟨[.tmp t,y]⟩,argTypes:=⟨[T,T']⟩ },.z ps :: sc' => match o.dst,ps with
  | some d,[p] => Fm st.tmps.length d (mr st.tmps t fun ve => jP GE st.tmps y fun vn => match ve,vn,P.underlying T with
   |.slice es,.str s,some (.slice e)=>match decide (((t,0),e)∈st.own)with
    |true=>yZ P T T' es s=some p/\dv st.tmps d p λtm=>aR (((d,0),e)::be d (st.own.filter λx=>x.1 !=(t,0))) λow=>K sc' ⟨tm,st.boxes,ow⟩
    |false=>False
   |.slice es,.slice ns,some (.slice e)=>match decide (T'=T)&&decide (((t,P.cellsOf e),e)∈st.own)with
    |true=>eP P T es ns=some p/\dv st.tmps d p λtm=>aR (((d,P.cellsOf e),e)::be d (st.own.filter λx=>x.1.1 !=t)) λow=>K sc' ⟨tm,st.boxes,ow⟩
    |false=>False
   |_,_,_=>False)
  |_,_=>False
 | .slice T (.tmp t) (some lo) none none,.z ps :: sc' => match o.dst,ps with
  | some d,[p] => Fm st.tmps.length d (mr st.tmps t fun ve => jP GE st.tmps lo fun vl => match ve,P.underlying T with
   |.slice es,some (.slice e)=>match decide (0<P.cellsOf e)&&(decide (((t,0),e)∈st.own)||decide (((t,P.cellsOf e),e)∈st.own))with
    |true=>mt P T (.slice es) (some vl) none none=some p/\dv st.tmps d p λtm=>aR (((d,P.cellsOf e),e)::be d (st.own.filter λx=>x.1.1 !=t)) λow=>K sc' ⟨tm,st.boxes,ow⟩
    |false=>False
   |_,_=>False)
  |_,_=>False
 |_,_=>Dz P GE A o id sc st K
def Dx(P:Program)(GE:List (Nat×List PVal))(A:List Nat)(ops:Array Oper)(K:List It->az->Prop):List Oper->Nat->Nat->List It->az->Prop
 |[],_,_,sc,st=>K sc st
 | o :: rest,pos,id,sc,st =>
  let step (sc:List It) (st:az):Prop:=Cz P GE A o id sc st λsc' st'=>Dx P GE A ops K rest (pos+1) (id+if aw o.op then 1 else 0) sc' st'
  match o.guard with
  |none=>step sc st
  |some (j,want)=>Cw ops j want pos sc st λb sc' st'=>match b with
   |true=>step sc' st'
   |false=>FH st' o.dst (.val undef) [] st'.boxes λst''=>Dx P GE A ops K rest (pos+1) (id+if aw o.op then 1 else 0) sc' st''
section
variable{P:Program}{GE:List (Nat×List PVal)}{A:List Nat}{ops:Array Oper}
theorem Hp{f:Operand}{args:List Operand}{tmps:List PVal}{H:List av}{sc:List It}{K:PVal->List (Nat×TypeId)->List It->Prop}(h:Ks P GE f args tmps sc K):xG P GE (opv GE tmps f) (args.map (opv GE tmps)) H λr ro H'=>H'=H/\∃sc',K r ro sc':=by
 unfold Ks at h
 rw[bu]at h
 split at h
 ·rename_i g first cap hf
  rw[iU]at h
  split at h
  ·rename_i r ro sc'
   rw[hf]
   exact .inl ⟨h.1.1,r,ro,h.1.2,rfl,sc',h.2⟩
  ·exact h.elim
 ·exact h.elim
theorem vR{op:Op}{id:Nat}{v:Operand->PVal}{H H':List av}{p:PVal}{K:PVal->List (Nat×TypeId)->List av->Prop}(hn:∀f args tys,op≠.call {callee:=.value f,args,argTypes:=tys})
  (h:iW P op id v H=some (p,H')) (hk:K p [] H'):Fx P GE op id v H K:=by
 unfold Fx
 split
 ·rename_i f args tys;exact absurd rfl (hn _ _ _)
 ·rw[h];exact hk
theorem iu{o:Oper}{id:Nat}{sc:List It}{st:az}{K:List It->az->Prop}(h:pw P GE o id sc st K):jA o st.tmps.length=true/\Fx P GE o.op id (opv GE st.tmps) st.boxes λp ro H=>(λst'=>∃sc',K sc' st') (qg st o.dst p ro H):=by
 unfold pw at h
 split at h
 ·exact h.elim
 ·rename_i hc
  refine⟨hc,?_⟩
  split at h
  ·rename_i f args tys ho
   have:=Hp (H:=st.boxes) h
   unfold Fx
   simp only[ho]
   unfold xG at this ⊢
   split at this
   ·rcases this with⟨k1,r,ro,k2,_,sc',k3⟩|⟨ρ,argsC,Hc,rc,ro,Hc',H',r,k1,k2,k3,k4,k5,k6,k7,k8,k9,rfl,sc',k10⟩
    ·rw[nr]at k3;exact .inl ⟨k1,r,ro,k2,sc',k3⟩
    ·rw[nr]at k10;exact .inr ⟨ρ,argsC,Hc,rc,ro,Hc',_,r,k1,k2,k3,k4,k5,k6,k7,k8,k9,sc',k10⟩
   ·exact this.elim
  ·rename_i t ho
   split at h
   ·rename_i zs sc'
    obtain⟨h1,h2⟩:=h
    simp only[aA,aW,nr]at h2
    rw[ho]
    exact vR (by simp) (by simp only[iW,h1,vak]) ⟨sc',h2⟩
   ·exact h.elim
  ·rename_i t x ho
   rw[bu]at h
   split at h
   ·rename_i cs sc'
    obtain⟨h1,h1n,h2⟩:=h
    simp only[aW,nr]at h2
    rw[ho]
    exact vR (by simp) (by simp only[iW,D2 h1 h1n,vak]) ⟨sc',h2⟩
   ·exact h.elim
  ·rename_i t ho
   simp only[aW,nr]at h
   rw[ho]
   exact vR (by simp) (by simp only[iW]) ⟨_,h⟩
  ·rename_i n1 n2 n3 n4
   obtain⟨p,H',sc',k1,k2,_⟩:=Bo (id:=id) h
   rw[nr]at k2
   exact vR (λf args tys e=>n1 f args tys e) k1 ⟨sc',k2⟩
theorem rM{o:Oper}{id:Nat}{sc:List It}{st:az}{K:List It->az->Prop}(h:Dz P GE A o id sc st K):BB P GE A o id (λst'=>∃sc',K sc' st') st:=by
 unfold Dz at h
 unfold BB
 split at h
 case h_1 t d ho hd=>
  obtain⟨h1,h2⟩:=gV h
  simp only[ej,aW,aA]at h2
  simp only[ho,hd]
  exact⟨h1,_,h2⟩
 case h_2 t d ho hd=>
  simp only[ho,hd]
  split at h
  ·rename_i hA
   obtain⟨h1,h2⟩:=gV h
   simp only[ej,aW,aA]at h2
   rw[vaA (by simpa using hA)]
   exact⟨h1,_,h2⟩
  ·rename_i hA
   rw[vaz (by simpa using hA)]
   have:=iu h
   rw[ho,hd]at this
   exact this
 case h_3 v d ho hd=>
  simp only[ho,hd]
  split at h
  ·rename_i e he
   obtain⟨h1,h2⟩:=gV h
   simp only[aW,aA]at h2
   simp only[he]
   exact⟨h1,_,h2⟩
  ·rename_i he
   simp only[he]
   have:=iu h
   rw[ho,hd]at this
   exact this
 case h_4 v d ho hd=>
  simp only[ho,hd]
  split at h
  ·rename_i e he
   obtain⟨h1,h2⟩:=gV h
   simp only[aW,aA]at h2
   simp only[he]
   exact⟨h1,_,h2⟩
  ·rename_i he
   simp only[he]
   have:=iu h
   rw[ho,hd]at this
   exact this
 case h_5 t i d ho hd=>
  obtain⟨h1,h2⟩:=gV h
  rw[ej]at h2
  obtain⟨p,h3,h4⟩:=pE h2
  simp only[aW,aA]at h4
  simp only[ho,hd,h3]
  exact⟨h1,_,h4⟩
 case h_6 T len parts d ho hd=>
  obtain⟨h1,h2⟩:=gV h
  rw[kq]at h2
  split at h2
  ·rename_i p sc' e hu
   obtain⟨h3,h4⟩:=h2
   simp only[aW,aA]at h4
   simp only[ho,hd,h3,hu]
   exact⟨h1,_,h4⟩
  ·exact h2.elim
 case h_7 t y T T' d ho hd=>
  obtain⟨h1,h2⟩:=gV h
  rw[ej,bu]at h2
  split at h2
  ·rename_i es ns p sc' e he hn hu
   split at h2
   ·rename_i hc
    simp only[vae,vam]at hc
    obtain⟨h3,h4⟩:=h2
    simp only[aW,aA]at h4
    simp only[ho,hd,hu,he,hn,h3]
    exact⟨hc.1,h1,hc.2,_,h4⟩
   ·exact h2.elim
  ·exact h2.elim
 case h_8 T x d ho hd=>
  simp only[ho,hd]
  split at h
  ·rename_i hA
   obtain⟨h1,h2⟩:=gV h
   rw[bu]at h2
   rw[vaA (by simpa using hA)]
   split at h2
   ·rename_i i off e hx hu
    obtain⟨B,hB,h2⟩:=cJ h2
    split at h2
    ·rename_i cs own
     split at h2
     ·rename_i hc
      simp only[vae,vam]at hc
      simp only[ej,aW,aA]at h2
      have hget:cs[off]? =some (cs.getD off .undef):=by
       rw[van,vaa hc.2];rfl
      simp only[hx,hu,hB,hget]
      exact⟨h1,hc.1,_,h2⟩
     ·exact h2.elim
    ·exact h2.elim
   ·exact h2.elim
  ·rename_i hA
   rw[vaz (by simpa using hA)]
   have:=iu h
   rw[ho,hd]at this
   exact this
 case h_9 T x t ho=>
  simp only[ho]
  split at h
  ·rename_i y e hf
   rw[bu,ej]at h
   simp only[hf]
   unfold Dy at h
   split at h
   ·rename_i i off hx
    split at h
    ·rename_i H hst
     obtain⟨B,hB,h⟩:=cJ h
     split at h
     ·rename_i cs own
      split at h
      ·rename_i hone
       simp only[aW,aA,nr]at h
       simp only[hx,hst,hB,hone]
       exact⟨_,h⟩
      ·exact h.elim
     ·exact h.elim
    ·exact h.elim
   ·exact h.elim
  ·rename_i hf
   simp only[hf]
   have:=iu h
   rw[ho]at this
   exact this
 case h_10=>
  have:=iu h
  split
  all_goals first
   |exact this
   |(exfalso;simp_all;done)
   |(exfalso;simp_all;rename_i hx h1 h2;exact hx _ _ _ _ rfl rfl rfl rfl)
   |(exfalso;simp_all;rename_i hx h1 h2;exact hx _ _ _ _ _ rfl rfl rfl rfl rfl)
   |(exfalso;simp_all;rename_i hx h1 h2;exact hx _ _ _ rfl rfl rfl)
theorem wG{j:Nat}{want:Bool}{pos:Nat}{sc:List It}{st:az}{go:Bool->List It->az->Prop}(h:Cw ops j want pos sc st go):∃x,ou ops st.tmps j=some x/\((x=some want/\∃sc',go true sc' st)\/(x≠some want/\∃sc',go false sc' st)):=by
 unfold Cw at h
 split at h
 ·exact h.elim
 ·rename_i t ht
  rw[ej]at h
  have hget:∀{p},st.tmps.getD t .undef=p->p≠.undef->st.tmps[t]? =some p:=by
   intro p hp hne
   rw[van]at hp
   cases hx:st.tmps[t]? with
   |none=>rw[hx]at hp;exact absurd hp.symm hne
   |some q=>rw[hx]at hp;exact vbp some hp
  have hfin:∀(x:Bool) sc',go (x==want) sc' st->(some x=some want/\∃sc',go true sc' st)\/(some x≠some want/\∃sc',go false sc' st):=by
   intro x sc' hg
   cases x<;>cases want<;>simp at hg ⊢<;>exact⟨sc',hg⟩
  split at h
  ·rename_i x hp
   have hx:=hget hp (by simp)
   have hg:ou ops st.tmps j=some (some x):=by unfold ou;simp only[ht,hx]
   refine⟨_,hg,?_⟩
   split at h
   ·rename_i pos' b sc'
    split at h
    ·obtain⟨rfl,h⟩:=h
     rw[aW,zd hx]at h
     exact hfin x sc' h
    ·exact hfin x _ h
   ·exact hfin x _ h
  ·rename_i v hp
   have hx:=hget hp (by simp)
   split at h
   ·exact h.elim
   ·rename_i hb
    refine⟨none,?_,.inr ⟨by simp,_,h⟩⟩
    unfold ou
    simp only[ht,hx]
    cases v<;>simp[W9]at hb<;>rfl
  ·exact h.elim
theorem Fh{o:Oper}{id:Nat}{sc:List It}{st:az}{K:List It->az->Prop}(h:Cz P GE A o id sc st K):uY P GE A o id (λst'=>∃sc',K sc' st') st:=by
 unfold Cz at h
 split at h
 ·rename_i T parts p L sc' ho
  split at h
  ·rename_i d hd
   obtain⟨h1,h2⟩:=gV h
   rw[kq]at h2
   obtain⟨h3,h4,h5⟩:=h2
   simp only[aW,aA]at h5
   refine .inr (.inl ?_)
   unfold Eg
   simp only[ho,hd]
   exact⟨p,L,h3,h4,h1,sc',h5⟩
  ·exact h.elim
 ·rename_i T x t vs sc' ho
  rw[ej]at h
  split at h
  ·rename_i l hl
   split at h
   ·rename_i hd
    rw[bu]at h
    split at h
    ·rename_i i off hx
     rw[aA]at h
     obtain⟨rfl,h⟩:=h
     obtain⟨B,hB,h⟩:=cJ h
     split at h
     ·rename_i cs own
      split at h
      ·rename_i hc
       simp only[aW,aA]at h
       simp only[vae,vam]at hc
       obtain⟨⟨⟨⟨c1,c2⟩,c3⟩,c4⟩,c5⟩:=hc
       refine .inr (.inl ?_)
       unfold Eg
       simp only[ho,hd]
       have hi:=ag hB
       refine⟨i,off,st.boxes.set i (.cells (cs.take off++l++cs.drop (off+l.length)) (own.filter λy=>y.1<off||off+l.length<=y.1)),_,_,Bv t st.own,l,hx,hl,?_,vag hi,λy hy=>vP hy,jm c1,sc',?_⟩
       ·simp only[dh,bv,hB]
        rw[vaA ⟨c2,c3,c4,c5⟩]
       ·rw[vbE];exact h
      ·exact h.elim
     ·exact h.elim
    ·exact h.elim
   ·exact h.elim
  ·exact .inl (rM h)
 ·rename_i T x l sc' ho
  split at h
  ·rename_i fs hT
   split at h
   ·rename_i d hd
    obtain⟨h1,h⟩:=gV h
    rw[bu]at h
    split at h
    ·rename_i i off hx
     obtain⟨B,hB,h⟩:=cJ h
     split at h
     ·rename_i cs own
      obtain⟨h2,h⟩:=h
      rw[aA]at h
      split at h
      ·rename_i hn
       simp only[aW,aA]at h
       refine .inr (.inl ?_)
       unfold Eg
       simp only[ho,hd]
       have hlen:l.length=P.cellsOf T:=by
        have hp:=h2
        unfold aC at hp
        rw[hT]at hp
        simp only at hp
        split at hp
        ·rename_i hh;cases hp;rw[vaV];omega
        ·cases hp
       exact⟨i,off,cs,own,_,l,⟨fs,hT⟩,hx,hB,h2,λy hy=>(vO hy).1,jm hn,λy hy=>by rw[hlen];exact(vO hy).2,h1,sc',h⟩
      ·exact h.elim
     ·exact h.elim
    ·exact h.elim
   ·exact h.elim
  ·exact .inl (rM h)
 ·rename_i T x vs sc' ho
  split at h
  ·rename_i d hd
   obtain⟨h1,h⟩:=gV h
   rw[bu]at h
   obtain⟨h2,h⟩:=h
   simp only[aW,aA]at h
   refine .inr (.inl ?_)
   unfold Eg
   simp only[ho,hd]
   exact⟨vs,h2,h1,sc',h⟩
  ·exact h.elim
 ·rename_i f args tys c sc' ho
  split at h
  ·rename_i d hd
   obtain⟨h1,h⟩:=gV h
   obtain⟨H',h2,h3⟩:=lL h
   simp only[aW,aA]at h3
   refine .inr (.inl ?_)
   unfold Eg
   simp only[ho,hd]
   exact⟨c.r,c.ro,H',c.oa,h2,h1,sc',h3⟩
  ·exact h.elim
 ·rename_i f args tys c sc' ho
  split at h
  ·rename_i d hd
   obtain⟨h1,h⟩:=gV h
   refine .inr (.inr (.inr (.inl ?_)))
   exact Fe ho hd h1 h
  ·exact h.elim
 ·rename_i t y T T' i e n cs sc' ho
  split at h
  ·rename_i d hd
   have hh:=gV h
   clear h
   obtain⟨h1,h⟩:=hh
   rw[ej,bu]at h
   split at h
   ·rename_i ns he hn
    split at h
    ·rename_i hc
     simp only[vae,vam]at hc
     obtain⟨⟨rfl,c2⟩,rfl⟩:=hc
     obtain⟨h2,⟨p,h3⟩,⟨rfl,rfl⟩,h4⟩:=h
     simp only[aW,aA,Cj,aA]at h4
     refine .inr (.inr (.inl ?_))
     unfold K9
     simp only[ho,hd]
     exact⟨e,ns,p,vzz,h2,he,hn,h3,c2,h1,sc',h4⟩
    ·exact h.elim
   ·exact h.elim
  ·exact h.elim
 ·rename_i f x tys i e n cs sc' ho
  split at h
  ·rename_i d hd
   have hh:=gV h
   clear h
   obtain⟨h1,h⟩:=hh
   rw[bu,bu]at h
   split at h
   ·rename_i g ns hg hn
    split at h
    ·rename_i hc
     simp only[vam]at hc
     subst hc
     obtain⟨h2,⟨h3,h4,h5⟩,⟨rfl,rfl⟩,h6⟩:=h
     simp only[aW,aA,Cj,aA]at h6
     refine .inr (.inr (.inl ?_))
     unfold K9
     simp only[ho,hd]
     exact⟨g,e,ns,hg,h2,hn,h3,h4,h5,h1,sc',h6⟩
    ·exact h.elim
   ·exact h.elim
  ·exact h.elim
 ·rename_i T x v i0 e n0 cs0 sc' ho
  split at h
  ·rename_i hd hv
   have hv':v=.slice none 0 0:=by
    unfold i6 at hv
    split at hv
    ·rfl
    ·cases hv
   subst hv'
   rw[bu,bu]at h
   split at h
   ·rename_i i off vs hx hpc
    obtain⟨B,hB,h⟩:=cJ h
    split at h
    ·rename_i cs own
     split at h
     ·rename_i hc
      simp only[aW,aA]at h
      simp only[vae,vam]at hc
      obtain⟨⟨⟨c2,c3⟩,c4⟩,c5⟩:=hc
      refine .inr (.inr (.inl ?_))
      unfold K9
      simp only[ho,hd]
      have hi:=ag hB
      refine⟨i,off,e,st.boxes.set i (.cells (cs.take off++vs++cs.drop (off+vs.length)) (own.filter λy=>y.1<off||off+vs.length<=y.1)),_,_,vzz,hx,?_,vag hi,sc',?_⟩
      ·simp only[dh,hpc,hB]
       rw[vaA ⟨c2,c3,c4,c5⟩]
      ·rw[vbE];exact h
     ·exact h.elim
    ·exact h.elim
   ·exact h.elim
  ·exact h.elim
 ·rename_i T t vs sc' ho
  split at h
  ·rename_i d hd
   obtain⟨h1,h⟩:=gV h
   rw[ej]at h
   split at h
   ·rename_i l hl
    rw[aA]at h
    obtain⟨rfl,h⟩:=h
    split at h
    ·rename_i hn
     simp only[aW,aA]at h
     refine .inr (.inr (.inr (.inr (.inl ?_))))
     unfold Rh
     simp only[ho,hd]
     rw[vae]at hn
     exact⟨l,Bv t st.own,hl,hn.2,λy hy=>vP hy,jm hn.1,h1,sc',h⟩
    ·exact h.elim
   ·exact h.elim
  ·exact h.elim
 ·rename_i T vs sc' ho
  split at h
  ·rename_i d hd
   obtain⟨h1,h2,h⟩:=gV h
   simp only[aW,aA]at h
   refine .inr (.inr (.inr (.inr (.inl ?_))))
   unfold Rh
   simp only[ho,hd]
   exact⟨vs,h2,h1,sc',h⟩
  ·exact h.elim
 ·rename_i t y T T' ps sc' ho
  split at h
  ·rename_i d p hd
   have hh:=gV h
   clear h
   obtain⟨h1,h⟩:=hh
   rw[ej,bu]at h
   split at h
   ·rename_i es s e he hn hT
    split at h
    ·rename_i hc
     simp only[vam]at hc
     obtain⟨h2,h3⟩:=h
     simp only[aW,aA]at h3
     refine .inr (.inr (.inr (.inr (.inl ?_))))
     unfold Rh
     simp only[ho,hd]
     exact⟨es,s,e,p,he,hn,hT,hc,h2,h1,sc',h3⟩
    ·exact h.elim
   ·rename_i es ns e he hn hT
    split at h
    ·rename_i hc
     simp only[vae,vam]at hc
     obtain⟨h2,h3⟩:=h
     simp only[aW,aA]at h3
     refine .inr (.inr (.inr (.inr (.inr ?_))))
     unfold RW
     simp only[ho,hd]
     exact⟨es,ns,e,p,he,hn,hc.1,hT,hc.2,h2,h1,sc',h3⟩
    ·exact h.elim
   ·exact h.elim
  ·exact h.elim
 ·rename_i T t lo ps sc' ho
  split at h
  ·rename_i d p hd
   have hh:=gV h
   clear h
   obtain⟨h1,h⟩:=hh
   rw[ej,bu]at h
   split at h
   ·rename_i es e he hT
    split at h
    ·rename_i hc
     simp only[vae,va1,vam]at hc
     obtain⟨h2,h3⟩:=h
     simp only[aW,aA]at h3
     refine .inr (.inr (.inr (.inr (.inr ?_))))
     unfold RW
     simp only[ho,hd]
     exact⟨es,e,p,he,hT,h2,hc.1,hc.2,h1,sc',h3⟩
    ·exact h.elim
   ·exact h.elim
  ·exact h.elim
 ·exact .inl (rM h)
theorem uZ{o:Oper}{id:Nat}{K K':az->Prop}{st:az}(hk:∀st,K st->K' st)(h:uY P GE A o id K st):uY P GE A o id K' st:=by
 rcases h with h|h|h|h|h|h
 ·exact .inl (Lb hk h)
 rotate_left 2
 ·exact .inr (.inr (.inr (.inl (Nx hk h))))
 ·exact .inr (.inr (.inr (.inr (.inl (PA hk h)))))
 ·exact .inr (.inr (.inr (.inr (.inr (PN hk h)))))
 rotate_left
 ·refine .inr (.inr (.inl ?_))
  unfold K9 at *
  split at h
  ·obtain⟨e,ns,p,h1,h2,h3,h4,h5,h6,h7,h8⟩:=h;exact⟨e,ns,p,h1,h2,h3,h4,h5,h6,h7,hk _ h8⟩
  ·obtain⟨g,e,ns,h1,h2,h3,h4,h5,h6,h7,h8⟩:=h;exact⟨g,e,ns,h1,h2,h3,h4,h5,h6,h7,hk _ h8⟩
  ·obtain⟨i,off,e,H,cs,own,h1,h2,h3,h4,h5⟩:=h;exact⟨i,off,e,H,cs,own,h1,h2,h3,h4,hk _ h5⟩
  ·exact h
 ·refine .inr (.inl ?_)
  unfold Eg at *
  split at h
  ·obtain⟨p,L,h1,h2,h3,h4⟩:=h;exact⟨p,L,h1,h2,h3,hk _ h4⟩
  ·obtain⟨i,off,H,cs,own,L,l,h1,h2,h3,h4,h5,h6,h7⟩:=h;exact⟨i,off,H,cs,own,L,l,h1,h2,h3,h4,h5,h6,hk _ h7⟩
  ·obtain⟨i,off,cs,own,L,l,h0,h1,h2,h3,h4,h5,h6,h7,h8⟩:=h;exact⟨i,off,cs,own,L,l,h0,h1,h2,h3,h4,h5,h6,h7,hk _ h8⟩
  ·obtain⟨vs,h1,h2,h3⟩:=h;exact⟨vs,h1,h2,hk _ h3⟩
  ·obtain⟨r,ro,H',oa,h1,h2,h3⟩:=h;exact⟨r,ro,H',oa,h1,h2,hk _ h3⟩
  ·exact h
theorem rL{K:List It->az->Prop}:∀(rest:List Oper) (pos id:Nat) (sc:List It) (st:az),Dx P GE A ops K rest pos id sc st->dW P GE A ops (λst=>∃sc,K sc st) rest id st
 |[],_,_,sc,st,h=>⟨sc,h⟩
 | o :: rest,pos,id,sc,st,h => by
  simp only[Dx]at h
  have step:∀sc st,Cz P GE A o id sc st (λsc' st'=>Dx P GE A ops K rest (pos+1) (id+if aw o.op then 1 else 0) sc' st')->uY P GE A o id (dW P GE A ops (λst=>∃sc,K sc st) rest (id+if aw o.op then 1 else 0)) st:=
   λsc st hs=>uZ (λst' hx=>by obtain⟨sc',hx⟩:=hx;exact rL rest _ _ sc' st' hx) (Fh hs)
  unfold dW
  split at h
  ·rename_i hg;simp only[hg];exact step _ _ h
  ·rename_i j want hg
   obtain⟨x,hx,hc⟩:=wG h
   simp only[hg,hx]
   rcases hc with⟨rfl,sc',hc⟩|⟨hne,sc',hc⟩
   ·exact⟨λ_=>step _ _ hc,λhn=>absurd rfl hn⟩
   ·refine⟨λhe=>absurd he hne,λ_=>?_⟩
    simp only[nr]at hc
    exact rL rest _ _ sc' _ hc
end
end Go.Proofs.YtjddnhkahpfhdaaGreatDoor
