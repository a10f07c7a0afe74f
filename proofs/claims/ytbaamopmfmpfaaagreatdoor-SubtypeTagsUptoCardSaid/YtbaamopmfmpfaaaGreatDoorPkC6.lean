/- PROVED: parts of the proof (SatB SatC). Conditions: none. -/
import Derived.Test.YtbaamopmfmpfaaaGreatDoorPkC5
noncomputable section
namespace Go.Proofs.YtbaamopmfmpfaaaGreatDoor
open Go
structure GC where
 ρ:List Nat
 argsC:List PVal
 oa:List OA
 Bs:List aG
 Hc:List aG
 Bs':List aG
 Hc':List aG
 r:PVal
 rc:PVal
 ro:List (Nat×TypeId)
inductive It where
 |cg (c:GC)
 |ar (i:Nat) (e:TypeId) (n:Nat) (cs:List PVal)
 |fz (i:Nat) (es:List (List PVal)) (lv rk:List Nat)
 |g (j:Nat) (b:Bool)
 |k
 |s
 |v (p:PVal)
 |x (cs:List PVal)
 |w (i:Nat) (B:aG)
 |c (r:PVal) (ro:List (Nat×TypeId))
 |dr (an:List Nat)
 |dx (an:List Nat) (X:List aG) (br:List (Nat×Nat)) (rw:List Nat)
 |pa (n:Nat)
 |pc (st0:az) (e:Exit) (st1:az)
 |b (p:PVal) (L:List (Nat×TypeId))
 |y (vs:List PVal)
 |z (l:List PVal)
 |e (vs:List PVal)
def wd:List PVal->Nat->(PVal->Prop)->Prop
 |[],_,k=>k .undef
 |p::_,0,k=>k p
 |_::l,n+1,k=>wd l n k
theorem gZ:∀(l:List PVal) (n:Nat) (k:PVal->Prop),wd l n k=k (l.getD n .undef)
 |[],_,_=>by simp[wd]
 |_::_,0,_=>by simp[wd]
 |_::l,n+1,k=>by simp only[wd,gZ l n k,List.getD_cons_succ]
def fZ{α:Type}:List α->Nat->α->(List α->Prop)->Prop
 |[],_,_,k=>k []
 |_::l,0,v,k=>k (v::l)
 |x::l,n+1,v,k=>fZ l n v fun l'=>k (x::l')
theorem bK{α:Type}:∀(l:List α) (n:Nat) (v:α) (k:List α->Prop),fZ l n v k=k (l.set n v)
 |[],_,_,_=>by simp[fZ]
 |_::_,0,_,_=>by simp[fZ]
 |x::l,n+1,v,k=>by simp only[fZ,bK l n v,List.set_cons_succ]
def bG{α:Type}:List α->(List α->Prop)->Prop
 |[],k=>k []
 |x::l,k=>bG l fun l'=>k (x::l')
def N1(l:List aG)(r:List aG)(k:List aG->Prop):Prop:=bG (l++r) k
theorem aS{α:Type}:∀(l:List α) (k:List α->Prop),bG l k=k l
 |[],_=>rfl
 |x::l,k=>by simp only[bG,aS l]
def Zs:Value->(PVal->Prop)->Prop
 |.int a n,k=>k (.int a n)
 |.bool b,k=>k (.bool b)
 |.string s,k=>bG s.data.toList fun l=>k (.str l)
 |v,k=>k (absV v)
theorem Xx(v:Value)(k:PVal->Prop):Zs v k=k (absV v):=by
 unfold Zs
 split
 ·rfl
 ·rfl
 ·rw[aS];rfl
 ·rfl
def nX(GE:List (Nat×List PVal))(tmps:List PVal)(x:Operand)(k:PVal->Prop):Prop:=
 match x with
 |.tmp t=>wd tmps t k
 |.const v=>Zs v k
 |x=>k (opv GE tmps x)
theorem ce(GE:List (Nat×List PVal))(tmps:List PVal)(x:Operand)(k:PVal->Prop):nX GE tmps x k=k (opv GE tmps x):=by
 cases x with
 |tmp t=>exact gZ _ _ _
 |const v=>exact Xx _ _
 |global g=>rfl
 |func f=>rfl
def Mg(GE:List (Nat×List PVal))(tmps:List PVal):List Operand->(List PVal->Prop)->Prop
 |[],k=>k []
 |x::l,k=>nX GE tmps x fun p=>Mg GE tmps l fun ps=>k (p::ps)
theorem sI(GE:List (Nat×List PVal))(tmps:List PVal):∀(l:List Operand) (k:List PVal->Prop),Mg GE tmps l k=k (l.map (opv GE tmps))
 |[],_=>rfl
 |x::l,k=>by simp only[Mg,ce,sI GE tmps l,vax]
def wm(GE:List (Nat×List PVal))(tmps:List PVal):List (Nat×Operand)->(List (Nat×PVal)->Prop)->Prop
 |[],k=>k []
 |x::l,k=>nX GE tmps x.2 fun p=>wm GE tmps l fun ps=>k ((x.1,p)::ps)
theorem nO(GE:List (Nat×List PVal))(tmps:List PVal):∀(l:List (Nat×Operand)) (k:List (Nat×PVal)->Prop),wm GE tmps l k=k (l.map fun x=>(x.1,opv GE tmps x.2))
 |[],_=>rfl
 |x::l,k=>by simp only[wm,ce,nO GE tmps l,vax]
def X7(GE:List (Nat×List PVal))(tmps:List PVal):Option Operand->(Option PVal->Prop)->Prop
 |none,k=>k none
 |some x,k=>nX GE tmps x fun p=>k (some p)
theorem X8(GE:List (Nat×List PVal))(tmps:List PVal)(o:Option Operand)(k:Option PVal->Prop):X7 GE tmps o k=k (o.map (opv GE tmps)):=by
 cases o with
 |none=>rfl
 |some x=>simp only[X7,ce,vaj]
def DZ(sc:List It)(f:PVal->Prop)(K:PVal->List It->Prop):Prop:=
 match sc with
 |.v p::sc'=>f p/\K p sc'
 |_=>False
def L5(o:Option PVal)(K:PVal->Prop):Prop:=
 match o with
 |some p=>K p
 |none=>False
theorem uX{o:Option PVal}{K:PVal->Prop}(h:L5 o K):∃p,o=some p/\K p:=by
 unfold L5 at h
 split at h
 ·exact⟨_,rfl,h⟩
 ·exact h.elim
theorem lD{sc:List It}{f:PVal->Prop}{K:PVal->List It->Prop}(h:DZ sc f K):∃p sc',f p/\K p sc':=by
 unfold DZ at h
 split at h
 ·exact⟨_,_,h⟩
 ·exact h.elim
def CC(P:Program)(GE:List (Nat×List PVal))(g:FuncId)(args:List PVal)(r:PVal)(ro:List (Nat×TypeId)):Prop:=ig 0 args/\C P GE g args [] [] r ro []
def KP(P:Program)(t:TypeId)(es:List (PVal×PVal))(k:PVal)(ok:Bool):Option PVal:=
 match P.underlying t with
 | some (.map kt e) => match P.underlying kt with
  | some kd =>
   if mZ kd k then
    match A6 k es 0,GL P e with
    |some (some (_,v)),_=>some (if ok then .tuple [v,.bool true]else v)
    |some none,some z=>some (if ok then .tuple [z,.bool false]else z)
    |_,_=>none
   else none
  |_=>none
 |_=>none
theorem UT{P:Program}{t:TypeId}{es:List (PVal×PVal)}{k p:PVal}{ok:Bool}{H:List aG}{i:Nat}(hB:H[i]? =some (.map es))(h:KP P t es k ok=some p):u5 P t (.mapr i) k ok H=some p:=by
 unfold KP at h
 unfold u5
 split at h
 ·rename_i kt e hu
  split at h
  ·rename_i kd hk
   simp only[hu,hB,hk]
   exact h
  ·cases h
 ·cases h
def Nd(P:Program)(t:TypeId)(es:List (PVal×PVal))(k v:PVal):Option (List (PVal×PVal)):=
 match P.underlying t with
 | some (.map kt _) => match P.underlying kt with
  | some kd =>
   if mZ kd k then
    match A6 k es 0 with
    |some (some (j,_))=>some (es.set j (k,v))
    |some none=>some (es++[(k,v)])
    |none=>none
   else none
  |_=>none
 |_=>none
theorem QH{P:Program}{t:TypeId}{es es':List (PVal×PVal)}{k v:PVal}{H:List aG}{i:Nat}(hB:H[i]? =some (.map es))(h:Nd P t es k v=some es'):gy P t (.mapr i) k v H=some (H.set i (.map es')):=by
 unfold Nd at h
 unfold gy
 split at h
 ·rename_i kt e hu
  split at h
  ·rename_i kd hk
   simp only[hu,hB,hk]
   split at h
   ·rename_i hkk
    rw[vak hkk]
    split at h
    ·rename_i hf;cases h;simp[hf]
    ·rename_i hf;cases h;simp[hf]
    ·cases h
   ·cases h
  ·cases h
 ·cases h
def kL:List aG->Nat->(aG->Prop)->Prop
 |[],_,_=>False
 |B::_,0,k=>k B
 |_::l,n+1,k=>kL l n k
theorem dK:∀{l:List aG} {n:Nat} {k:aG->Prop},kL l n k->∃B,l[n]? =some B/\k B
 |[],_,_,h=>h.elim
 |B::_,0,_,h=>⟨B,rfl,h⟩
 |_::l,n+1,k,h=>by simp only[kL]at h;obtain⟨B,h1,h2⟩:=dK h;exact⟨B,by simpa using h1,h2⟩
def Ul(op:BinOp)(x:PVal):Bool:=match op,x with
 |.quo,_=>true
 |.rem,_=>true
 |.add,.str _=>true
 |_,.agg _=>true
 |_,_=>false
def SV(P:Program)(GE:List (Nat×List PVal))(op:Op)(tmps:List PVal)(H:List aG)(sc:List It)(K:PVal->List aG->List It->Prop):Prop:=
 match op with
 |.move x=>nX GE tmps x fun p=>K p H sc
 |.assign x=>nX GE tmps x fun p=>K p H sc
 |.pick c x y=>nX GE tmps c fun pc=>match pc with
  |.bool true=>nX GE tmps x fun p=>K p H sc
  |.bool false=>nX GE tmps y fun p=>K p H sc
  |_=>False
 |.binOp op T x y _=>nX GE tmps x fun vx=>nX GE tmps y fun vy=>match Ul op vx with
  |true=>DZ sc (fun p=>OX P op T vx vy=some p) fun p sc'=>K p H sc'
  |false=>L5 (OX P op T vx vy) fun p=>K p H sc
 |.unOp op _ x=>nX GE tmps x fun vx=>L5 (qcd op vx) fun p=>K p H sc
 |.convert s d x=>nX GE tmps x fun vx=>DZ sc (fun p=>Tn P s d vx=some p) fun p sc'=>K p H sc'
 |.extract t i=>nX GE tmps t fun vt=>L5 (tY vt i) fun p=>K p H sc
 |.nilCheck x=>nX GE tmps x fun vx=>match vx with
  |.eptr cs=>K (.eptr cs) H sc
  |.bptr i off=>K (.bptr i off) H sc
  |.func (.func f) first cap=>K (.func (.func f) first cap) H sc
  |_=>False
 |.makeFunc fn first cap=>Mg GE tmps first.toList fun f=>Mg GE tmps cap.toList fun c=>K (.func fn f c) H sc
 | .load t x => nX GE tmps x fun vx => match vx with
  |.eptr cs=>DZ sc (fun p=>aU P t cs=some p) fun p sc'=>K p H sc'
  | .bptr i off => kL H i fun B => match B with
   |.cells cs _=>match sc with
    |.s::sc'=>L5 (aU P t (cs.drop off)) fun p=>K p H sc'
    |.v p::sc'=>aU P t (cs.drop off)=some p/\K p H sc'
    |_=>False
   |_=>False
  |_=>False
 | .store t x y => nX GE tmps x fun vx => nX GE tmps y fun vy => match vx,sc with
  | .bptr i off,.s :: sc' => match bO vy with
   | some vs => kL H i fun B => match B with
    |.cells cs own=>match decide (vs.length=P.cellsOf t)&&(P.info? t).isSome&&decide (off+vs.length<=cs.length)&&vs.all PVal.one with
     |true=>bG (cs.take off++vs++cs.drop (off+vs.length)) fun cs'=>fZ H i (.cells cs' (own.filter fun y=>y.1<off||off+vs.length<=y.1)) fun H'=>K (.val undef) H' sc'
     |false=>False
    |_=>False
   |none=>False
  | .bptr i off,.x vs :: sc' => bO vy = some vs∧(kL H i fun B => match B with
    |.cells cs own=>match decide (vs.length=P.cellsOf t)&&(P.info? t).isSome&&decide (off+vs.length<=cs.length)&&vs.all PVal.one with
     |true=>bG (cs.take off++vs++cs.drop (off+vs.length)) fun cs'=>fZ H i (.cells cs' (own.filter fun y=>y.1<off||off+vs.length<=y.1)) fun H'=>K (.val undef) H' sc'
     |false=>False
    |_=>False)
  |.bptr i off,.w _ (.cells cs' own')::sc'=>kL H i fun B=>(dE P t (.bptr 0 off) vy [B]=some [.cells cs' own'])/\fZ H i (.cells cs' own') fun H'=>K (.val undef) H' sc'
  |_,_=>False
 |.fieldAddr s x f=>nX GE tmps x fun vx=>match vx with
  |.bptr i off=>L5 (aA P s (.bptr i off) f) fun p=>K p H sc
  |vx=>DZ sc (fun p=>aA P s vx f=some p) fun p sc'=>K p H sc'
 |.field t x f=>nX GE tmps x fun vx=>DZ sc (fun p=>KK P t vx f=some p) fun p sc'=>K p H sc'
 |.indexAddr t x i=>nX GE tmps x fun vx=>nX GE tmps i fun vi=>DZ sc (fun p=>kQ P t vx vi=some p) fun p sc'=>K p H sc'
 |.index t x i=>nX GE tmps x fun vx=>nX GE tmps i fun vi=>DZ sc (fun p=>GB P t vx vi=some p) fun p sc'=>K p H sc'
 | .lookup t m k ok => nX GE tmps m fun vm => nX GE tmps k fun vk => match vm with
  |.mapr i=>kL H i fun B=>match B with
   |.map es=>DZ sc (fun p=>KP P t es vk ok=some p) fun p sc'=>K p H sc'
   |_=>False
  |_=>False
 | .mapUpdate t m k x => nX GE tmps m fun vm => nX GE tmps k fun vk => nX GE tmps x fun vx => match vm,sc with
  |.mapr i,.w _ (.map es')::sc'=>kL H i fun B=>match B with
   |.map es=>Nd P t es vk vx=some es'/\fZ H i (.map es') fun H'=>K (.val undef) H' sc'
   |_=>False
  |_,_=>False
 |.slice t x lo hi none=>nX GE tmps x fun vx=>X7 GE tmps lo fun vl=>X7 GE tmps hi fun vh=>DZ sc (fun p=>Bj P t vx vl vh none=some p) fun p sc'=>K p H sc'
 |.build t parts=>wm GE tmps parts.toList fun ps=>DZ sc (fun p=>cW P t ps=some p) fun p sc'=>K p H sc'
 |.buildSlice t len parts=>wm GE tmps parts.toList fun ps=>DZ sc (fun p=>fw P t len ps=some p) fun p sc'=>K p H sc'
 | .call { callee := .builtin .len,args:=⟨[x]⟩,argTypes:=⟨[t]⟩ } => nX GE tmps x fun vx => match vx with
  |.mapr i=>kL H i fun B=>match B with
   |.map es=>DZ sc (fun p=>p=.int .i64 es.length/\(P.underlying t).any (fun d=>match d with|.map _ _=>true|_=>false)=true) fun p sc'=>K p H sc'
   |_=>False
  |vx=>DZ sc (fun p=>∀H,Bb P t vx H=some p) fun p sc'=>K p H sc'
 |.call {callee:=.builtin .max,args:=⟨x::r⟩,..}=>nX GE tmps x fun vx=>Mg GE tmps r fun vr=>L5 (Ho Ts vx vr) fun p=>K p H sc
 |.call {callee:=.builtin .min,args:=⟨x::r⟩,..}=>nX GE tmps x fun vx=>Mg GE tmps r fun vr=>L5 (Ho Tt vx vr) fun p=>K p H sc
 |_=>False
section
variable{P:Program}{GE:List (Nat×List PVal)}
theorem UY{t:TypeId}{off i:Nat}{y:PVal}{H:List aG}{B:aG}{cs':List PVal}{own':List (Nat×TypeId)}(hB:H[i]? =some B)(h:dE P t (.bptr 0 off) y [B]=some [.cells cs' own']):
  dE P t (.bptr i off) y H=some (H.set i (.cells cs' own')):=by
 unfold dE at h ⊢
 split at h
 ·rename_i i' off' vs h1 h2
  cases h1
  simp only[h2]
  change (match(some B:Option aG)with|some (.cells cs own)=>_|_=>none)=_ at h
  rw[hB]
  split at h
  ·rename_i hb
   cases hb
   simp only
   split at h
   ·rename_i hc
    rw[vak hc]
    simp only[List.set_cons_zero,vav,vbu,vcI]at h
    rw[h]
   ·cases h
  ·cases h
 ·cases h
theorem WK(t:TypeId)(id:Nat)(v:Operand->PVal)(x:Operand)(H:List aG):qU P (.load t x) id v H=(lG P t (v x) H).map fun p=>(p,H):=rfl
theorem Hf{op:Op}{id:Nat}{tmps:List PVal}{H:List aG}{sc:List It}{K:PVal->List aG->List It->Prop}(h:SV P GE op tmps H sc K):
  ∃p H' sc',qU P op id (opv GE tmps) H=some (p,H')/\K p H' sc'/\H'.length=H.length:=by
 unfold SV at h
 split at h
 case h_1=>rw[ce]at h;exact⟨_,_,_,rfl,h,rfl⟩
 case h_2=>rw[ce]at h;exact⟨_,_,_,rfl,h,rfl⟩
 case h_3 c x y=>
  rw[ce]at h
  split at h
  ·rename_i hc;rw[ce]at h;exact⟨_,_,_,by simp only[qU,hc],h,rfl⟩
  ·rename_i hc;rw[ce]at h;exact⟨_,_,_,by simp only[qU,hc],h,rfl⟩
  ·exact h.elim
 case h_4=>
  simp only[ce]at h
  split at h
  ·obtain⟨p,sc',h1,h2⟩:=lD h;exact⟨p,_,sc',by simp only[qU,h1,vaj],h2,rfl⟩
  ·obtain⟨p,h1,h2⟩:=uX h;exact⟨p,_,_,by simp only[qU,h1,vaj],h2,rfl⟩
 case h_5=>simp only[ce]at h;obtain⟨p,h1,h2⟩:=uX h;exact⟨p,_,_,by simp only[qU,h1,vaj],h2,rfl⟩
 case h_6=>simp only[ce]at h;obtain⟨p,sc',h1,h2⟩:=lD h;exact⟨p,_,sc',by simp only[qU,h1,vaj],h2,rfl⟩
 case h_7=>simp only[ce]at h;obtain⟨p,h1,h2⟩:=uX h;exact⟨p,_,_,by simp only[qU,h1,vaj],h2,rfl⟩
 case h_8=>
  simp only[ce]at h
  split at h
  ·rename_i hv;exact⟨_,_,_,by simp only[qU,hv],h,rfl⟩
  ·rename_i hv;exact⟨_,_,_,by simp only[qU,hv],h,rfl⟩
  ·rename_i hv;exact⟨_,_,_,by simp only[qU,hv],h,rfl⟩
  ·exact h.elim
 case h_9=>simp only[sI]at h;exact⟨_,_,_,rfl,h,rfl⟩
 case h_10 t x=>
  simp only[ce]at h
  rw[WK]
  split at h
  ·rename_i cs hv
   obtain⟨p,sc',h1,h2⟩:=lD h
   exact⟨p,_,sc',by simp only[hv,lG,h1,vaj],h2,rfl⟩
  ·rename_i i off hv
   obtain⟨B,hB,h⟩:=dK h
   split at h
   ·rename_i cs own
    split at h
    ·obtain⟨p,h1,h2⟩:=uX h
     exact⟨p,_,_,by simp only[hv,lG,hB,h1,vaj],h2,rfl⟩
    ·exact⟨_,_,_,by simp only[hv,lG,hB,h.1,vaj],h.2,rfl⟩
    ·exact h.elim
   ·exact h.elim
  ·exact h.elim
 case h_11 t x y=>
  simp only[ce]at h
  split at h
  ·rename_i i off sc' hv
   split at h
   ·rename_i vs hvs
    obtain⟨B,hB,h⟩:=dK h
    split at h
    ·rename_i cs own
     split at h
     ·rename_i hc
      simp only[aS,bK]at h
      simp only[vag,vam]at hc
      exact⟨_,_,_,by simp only[qU,dE,hv,hvs,hB];rw[vak ⟨hc.1.1.1,hc.1.1.2,hc.1.2,hc.2⟩];rfl,h,by simp⟩
     ·exact h.elim
    ·exact h.elim
   ·exact h.elim
  ·rename_i i off vs sc' hv
   obtain⟨hvs,h⟩:=h
   obtain⟨B,hB,h⟩:=dK h
   split at h
   ·rename_i cs own
    split at h
    ·rename_i hc
     simp only[aS,bK]at h
     simp only[vag,vam]at hc
     exact⟨_,_,_,by simp only[qU,dE,hv,hvs,hB];rw[vak ⟨hc.1.1.1,hc.1.1.2,hc.1.2,hc.2⟩];rfl,h,by simp⟩
    ·exact h.elim
   ·exact h.elim
  ·rename_i i off j cs' own' sc' hv
   obtain⟨B,hB,h1,h2⟩:=dK h
   rw[bK]at h2
   exact⟨_,_,_,by simp only[qU,hv,UY hB h1];rfl,h2,by simp⟩
  ·exact h.elim
 case h_12=>
  simp only[ce]at h
  split at h
  ·rename_i hv
   obtain⟨p,h1,h2⟩:=uX h;exact⟨p,_,_,by simp only[qU,hv,h1,vaj],h2,rfl⟩
  ·obtain⟨p,sc',h1,h2⟩:=lD h;exact⟨p,_,sc',by simp only[qU,h1,vaj],h2,rfl⟩
 case h_13=>simp only[ce]at h;obtain⟨p,sc',h1,h2⟩:=lD h;exact⟨p,_,sc',by simp only[qU,h1,vaj],h2,rfl⟩
 case h_14=>simp only[ce]at h;obtain⟨p,sc',h1,h2⟩:=lD h;exact⟨p,_,sc',by simp only[qU,h1,vaj],h2,rfl⟩
 case h_15=>simp only[ce]at h;obtain⟨p,sc',h1,h2⟩:=lD h;exact⟨p,_,sc',by simp only[qU,h1,vaj],h2,rfl⟩
 case h_16 t m k ok=>
  simp only[ce]at h
  split at h
  ·rename_i i hv
   obtain⟨B,hB,h⟩:=dK h
   split at h
   ·rename_i es
    obtain⟨p,sc',h1,h2⟩:=lD h
    exact⟨p,_,sc',by simp only[qU,hv,UT hB h1,vaj],h2,rfl⟩
   ·exact h.elim
  ·exact h.elim
 case h_17 t m k x=>
  simp only[ce]at h
  split at h
  ·rename_i i j es' sc' hv
   obtain⟨B,hB,h⟩:=dK h
   split at h
   ·rename_i es
    obtain⟨h1,h2⟩:=h
    rw[bK]at h2
    exact⟨_,_,_,by simp only[qU,hv,QH hB h1];rfl,h2,by simp⟩
   ·exact h.elim
  ·exact h.elim
 case h_18=>simp only[ce,X8]at h;obtain⟨p,sc',h1,h2⟩:=lD h;exact⟨p,_,sc',by simp only[qU,h1,vaj],h2,rfl⟩
 case h_19=>simp only[nO]at h;obtain⟨p,sc',h1,h2⟩:=lD h;exact⟨p,_,sc',by simp only[qU,h1,vaj],h2,rfl⟩
 case h_20=>simp only[nO]at h;obtain⟨p,sc',h1,h2⟩:=lD h;exact⟨p,_,sc',by simp only[qU,h1,vaj],h2,rfl⟩
 case h_21 x t=>
  simp only[ce]at h
  split at h
  ·rename_i i hv
   obtain⟨B,hB,h⟩:=dK h
   split at h
   ·rename_i es
    obtain⟨p,sc',⟨rfl,h1⟩,h2⟩:=lD h
    refine⟨_,_,sc',?_,h2,rfl⟩
    simp only[qU,hv,Bb]
    cases hu:P.underlying t with
    |none=>rw[hu]at h1;cases h1
    |some d=>
     rw[hu]at h1
     cases d<;>simp at h1
     simp only[hB,vaj]
   ·exact h.elim
  ·obtain⟨p,sc',h1,h2⟩:=lD h;exact⟨p,_,sc',by simp only[qU,h1 H,vaj],h2,rfl⟩
 case h_22=>simp only[ce,sI]at h;obtain⟨p,h1,h2⟩:=uX h;exact⟨p,_,_,by simp only[qU,h1,vaj],h2,rfl⟩
 case h_23=>simp only[ce,sI]at h;obtain⟨p,h1,h2⟩:=uX h;exact⟨p,_,_,by simp only[qU,h1,vaj],h2,rfl⟩
 case h_24=>exact h.elim
end
def Mn(st:az)(dst:Option Tmp)(p:PVal)(ro:List (Nat×TypeId))(H:List aG)(K:az->Prop):Prop:=
 match dst with
 |some d=>fZ st.tmps d p fun tm=>bG ((ro.map fun x=>((d,x.1),x.2))++cd d st.own) fun ow=>K ⟨tm,H,ow⟩
 |none=>K ⟨st.tmps,H,st.own⟩
theorem sK(st:az)(dst:Option Tmp)(p:PVal)(ro:List (Nat×TypeId))(H:List aG)(K:az->Prop):Mn st dst p ro H K=K (wq st dst p ro H):=by
 cases dst with
 |none=>rfl
 |some d=>simp only[Mn,bK,aS,wq]
def RM(P:Program)(GE:List (Nat×List PVal))(f:Operand)(args:List Operand)(tmps:List PVal)(sc:List It)(K:PVal->List (Nat×TypeId)->List It->Prop):Prop:=
 nX GE tmps f fun vf=>match vf with
  |.func (.func g) first cap=>Mg GE tmps args fun as=>match sc with
   |.c r ro::sc'=>CC P GE g (first++as++cap) r ro/\K r ro sc'
   |_=>False
  |_=>False
def uV(P:Program)(GE:List (Nat×List PVal))(o:Oper)(id:Nat)(sc:List It)(st:az)(K:List It->az->Prop):Prop:=
 match nu o st.tmps.length with
 |false=>False
 | true => match o.op with
  |.call {callee:=.value f,args,..}=>RM P GE f args.toList st.tmps sc fun r ro sc'=>Mn st o.dst r ro st.boxes fun st'=>K sc' st'
  |.alloc t=>match sc with
   |.x zs::sc'=>jC P t=some zs/\bG (QN P t) fun ow=>fZ st.boxes id (.cells zs ow) fun H=>Mn st o.dst (.bptr id 0) [] H fun st'=>K sc' st'
   |_=>False
  |.box _ x=>nX GE st.tmps x fun vx=>match sc with
   |.x cs::sc'=>bO vx=some cs/\fZ st.boxes id (.cells cs []) fun H=>Mn st o.dst (.bptr id 0) [] H fun st'=>K sc' st'
   |_=>False
  |.makeMap _ none=>fZ st.boxes id (.map []) fun H=>Mn st o.dst (.mapr id) [] H fun st'=>K sc st'
  |op=>SV P GE op st.tmps st.boxes sc fun p H sc'=>Mn st o.dst p [] H fun st'=>K sc' st'
def Ra(n d:Nat)(K:Prop):Prop:=match decide (d<n)with
 |true=>K
 |false=>False
theorem oH{n d:Nat}{K:Prop}(h:Ra n d K):d<n/\K:=by
 unfold Ra at h
 split at h
 ·rename_i hd;exact⟨by simpa using hd,h⟩
 ·exact h.elim
def J9(P:Program)(st:az)(T e:TypeId)(t:Nat)(dst:Option Tmp)(vx vt:PVal)(sc:List It)(K:List It->az->Prop):Prop:=
 match vx with
 | .bptr i off => match dE P T (.bptr i off) vt st.boxes with
  | some H => kL H i fun B => match B with
   |.cells cs own=>match vt.one with
    |true=>bG cs fun cs'=>fZ H i (.cells cs' ((off,e)::own)) fun H'=>Mn {st with own:=st.own.filter fun x=>x.1 !=(t,0)} dst (.val undef) [] H' fun st'=>K sc st'
    |false=>False
   |_=>False
  |none=>False
 |_=>False
def Ka(P:Program)(GE:List (Nat×List PVal))(A:List Nat)(o:Oper)(id:Nat)(sc:List It)(st:az)(K:List It->az->Prop):Prop:=
 match o.op,o.dst with
 |.assign (.tmp t),some d=>Ra st.tmps.length d (wd st.tmps t fun p=>fZ st.tmps d p fun tm=>bG (iq d (fun x=>if x.1=t then(d,x.2)else x) st.own) fun ow=>K sc ⟨tm,st.boxes,ow⟩)
 |.move (.tmp t),some d=>match decide (d∈A)with
  |true=>Ra st.tmps.length d (wd st.tmps t fun p=>fZ st.tmps d p fun tm=>bG (iq d (fun x=>if x.1=t then(d,x.2)else x) st.own) fun ow=>K sc ⟨tm,st.boxes,ow⟩)
  |false=>uV P GE o id sc st K
 |.assign (.const v),some d=>match sH P o.type v with
  |some e=>Ra st.tmps.length d (fZ st.tmps d (.slice []) fun tm=>bG (((d,0),e)::cd d st.own) fun ow=>K sc ⟨tm,st.boxes,ow⟩)
  |none=>uV P GE o id sc st K
 |.move (.const v),some d=>match sH P o.type v with
  |some e=>Ra st.tmps.length d (fZ st.tmps d (.slice []) fun tm=>bG (((d,0),e)::cd d st.own) fun ow=>K sc ⟨tm,st.boxes,ow⟩)
  |none=>uV P GE o id sc st K
 |.extract (.tmp t) i,some d=>Ra st.tmps.length d (wd st.tmps t fun vt=>L5 (tY vt i) fun p=>fZ st.tmps d p fun tm=>bG (iq d (fun x=>if x=(t,i)then(d,0)else x) st.own) fun ow=>K sc ⟨tm,st.boxes,ow⟩)
 |.buildSlice T len parts,some d=>Ra st.tmps.length d (wm GE st.tmps parts.toList fun ps=>match sc,P.underlying T with
  |.v p::sc',some (.slice e)=>fw P T len ps=some p/\fZ st.tmps d p fun tm=>bG (((d,0),e)::cd d st.own) fun ow=>K sc' ⟨tm,st.boxes,ow⟩
  |_,_=>False)
 | .call { callee := .builtin .append,args:=⟨[.tmp t,y]⟩,argTypes:=⟨[T,T']⟩ },some d => Ra st.tmps.length d (wd st.tmps t fun ve => nX GE st.tmps y fun vn => match ve,vn,sc,P.underlying T with
  |.slice es,.slice ns,.v p::sc',some (.slice e)=>match decide (T=T')&&decide (((t,0),e)∈st.own)with
   |true=>lx P T es ns=some p/\fZ st.tmps d p fun tm=>bG (((d,0),e)::cd d (st.own.filter fun x=>x.1 !=(t,0))) fun ow=>K sc' ⟨tm,st.boxes,ow⟩
   |false=>False
  |_,_,_,_=>False)
 | .load T x,some d => match decide (d ∈ A) with
  | true => Ra st.tmps.length d (nX GE st.tmps x fun vx => match vx,P.underlying T with
   | .bptr i off,some (.slice e) => kL st.boxes i fun B => match B with
    |.cells cs own=>match decide ((off,e)∈own)&&decide (off<cs.length)with
     |true=>wd cs off fun p=>fZ st.tmps d p fun tm=>bG (own.filter fun x=>x.1 !=off) fun own'=>fZ st.boxes i (.cells cs own') fun H=>bG (((d,0),e)::cd d st.own) fun ow=>K sc ⟨tm,H,ow⟩
     |false=>False
    |_=>False
   |_,_=>False)
  |false=>uV P GE o id sc st K
 |.store T x (.tmp t),_=>match st.own.find? (fun y=>y.1==(t,0))with
  |some (_,e)=>nX GE st.tmps x fun vx=>wd st.tmps t fun vt=>J9 P st T e t o.dst vx vt sc K
  |none=>uV P GE o id sc st K
 |_,_=>uV P GE o id sc st K
def qdq:Value->Bool
 |.bool _=>true
 |_=>false
def IN(ops:Array Oper)(j:Nat)(want:Bool)(pos:Nat)(sc:List It)(st:az)(go:Bool->List It->az->Prop):Prop:=
 match(ops[j]?).bind (·.dst)with
 |none=>False
 | some t => wd st.tmps t fun p => match p with
  | .bool x => match sc with
   |.g pos' b::sc'=>match pos'==pos with
    |true=>x=b/\fZ st.tmps t (.bool b) fun tm=>go (b==want) sc' ⟨tm,st.boxes,st.own⟩
    |false=>go (x==want) sc st
   |_=>go (x==want) sc st
  |.val v=>match qdq v with
   |true=>False
   |false=>go false sc st
  |_=>False
def tW:List Nat->Bool
 |[]=>true
 |x::r=>!(r.contains x)&&tW r
theorem nN:∀{l:List Nat},tW l=true->l.Nodup
 |[],_=>.nil
 |x::r,h=>by
  simp only[tW,vag,va3,vcz,vbm]at h
  exact vbM.2 ⟨h.1,nN h.2⟩
def M5(t:Nat)(own:List ((Nat×Nat)×TypeId)):List (Nat×TypeId):=own.filterMap fun x=>if x.1.1==t then some (x.1.2,x.2)else none
theorem Gy{t:Nat}{own:List ((Nat×Nat)×TypeId)}{y:Nat×TypeId}(h:y∈M5 t own):((t,y.1),y.2)∈own:=by
 unfold M5 at h
 obtain⟨⟨⟨t',k⟩,e⟩,hx,he⟩:=vbL.1 h
 split at he
 ·rename_i ht
  simp only[va1]at ht
  cases he;subst ht;exact hx
 ·cases he
def Tl(off n:Nat)(own:List (Nat×TypeId)):List (Nat×TypeId):=own.filterMap fun x=>if decide (off<=x.1)&&decide (x.1<off+n)then some (x.1 - off,x.2)else none
theorem BT{off n:Nat}{own:List (Nat×TypeId)}{y:Nat×TypeId}(h:y∈Tl off n own):(off+y.1,y.2)∈own/\y.1<n:=by
 unfold Tl at h
 obtain⟨⟨k,e⟩,hx,he⟩:=vbL.1 h
 split at he
 ·rename_i ht
  simp only[vag,vam]at ht
  cases he
  have:off+(k - off)=k:=by omega
  exact⟨by rw[this];exact hx,by simp only;omega⟩
 ·cases he
def NW(ρ:List Nat):List PVal->List PVal->Prop
 |[],[]=>True
 |p::ps,q::qs=>FB ρ p q/\NW ρ ps qs
 |_,_=>False
theorem NW.len{ρ:List Nat}:∀{l r:List PVal},NW ρ l r->l.length=r.length
 |[],[],_=>rfl
 |[],_::_,h=>h.elim
 |_::_,[],h=>h.elim
 |_::_,_::_,h=>by simp[NW.len h.2]
theorem NW.get{ρ:List Nat}:∀{l r:List PVal},NW ρ l r->∀(i:Nat) p q,l[i]? =some p->r[i]? =some q->FB ρ p q
 |[],[],_,i,p,q,hp,_=>by simp at hp
 |[],_::_,h,_,_,_,_,_=>h.elim
 |_::_,[],h,_,_,_,_,_=>h.elim
 |_::_,_::_,h,0,p,q,hp,hq=>by simp at hp hq;subst hp;subst hq;exact h.1
 |_::_,_::_,h,i+1,p,q,hp,hq=>NW.get h.2 i p q (by simpa using hp) (by simpa using hq)
def Vl(ρ:List Nat):aG->aG->Prop
 |.cells cs own,.cells cs' own'=>own=own'/\NW ρ cs cs'
 |.map es,.map es'=>es=es'/\∀x∈es,x.1.cl 0/\x.2.cl 0
 |_,_=>False
theorem Vl.to{ρ:List Nat}{B B':aG}(h:Vl ρ B B'):j6 ρ B B':=by
 cases B<;>cases B'<;>simp only[Vl]at h
 ·exact⟨h.1,h.2.len,h.2.get⟩
 ·obtain⟨rfl,h⟩:=h
  refine⟨rfl,fun i k u k' u' h1 h2=>?_⟩
  rw[h1]at h2;cases h2
  obtain⟨q1,q2⟩:=h _ (vaz h1)
  exact⟨.refl _ q1,.refl _ q2⟩
def yz(ρ:List Nat)(H:List aG):List Nat->List aG->List aG->Prop
 |[],[],[]=>True
 |j::js,B::Bs,Bc::Hc=>(kL H j fun B0=>L3 B0 B=B/\Vl ρ B Bc)/\yz ρ H js Bs Hc
 |_,_,_=>False
def Kl(ρ:List Nat):List aG->List aG->Prop
 |[],[]=>True
 |B::Bs,Bc::Hc=>Vl ρ B Bc/\Kl ρ Bs Hc
 |_,_=>False
def Bp(H:List aG):List Nat->List aG->List aG
 |j::js,B::Bs=>Bp (H.set j B) js Bs
 |_,_=>H
def Pa(H:List aG):List Nat->List aG->(List aG->Prop)->Prop
 |j::js,B::Bs,K=>fZ H j B fun H'=>Pa H' js Bs K
 |_,_,K=>K H
theorem BZ:∀(H:List aG) (js:List Nat) (Bs:List aG) (K:List aG->Prop),Pa H js Bs K=K (Bp H js Bs)
 |H,[],_,K=>by cases ‹List aG›<;>rfl
 |H,_::_,[],K=>rfl
 |H,j::js,B::Bs,K=>by simp only[Pa,bK,BZ,Bp]
theorem GU:∀(H:List aG) (js:List Nat) (Bs:List aG),(Bp H js Bs).length=H.length
 |H,[],_=>by cases ‹List aG›<;>rfl
 |H,_::_,[]=>rfl
 |H,j::js,B::Bs=>by simp only[Bp,GU,vbw]
theorem xm:∀(H:List aG) (js:List Nat) (Bs:List aG) {j:Nat},j∉js->(Bp H js Bs)[j]? =H[j]?
 |H,[],Bs,_,_=>by cases Bs<;>rfl
 |H,_::_,[],_,_=>rfl
 |H,k::js,B::Bs,j,h=>by
  simp only[vaA,not_or]at h
  simp only[Bp]
  rw[xm _ js Bs h.2,var (Ne.symm h.1)]
theorem Fs:∀(H:List aG) (js:List Nat) (Bs:List aG),js.Nodup->js.length=Bs.length->(∀j∈js,j<H.length)->∀(i j:Nat) B,js[i]? =some j->Bs[i]? =some B->(Bp H js Bs)[j]? =some B
 |H,[],Bs,_,_,_,i,j,B,hj,_=>by simp at hj
 |H,_::_,[],_,hl,_,_,_,_,_,_=>by simp at hl
 | H,k :: js,B0 :: Bs,hn,hl,hlt,i,j,B,hj,hB => by
  obtain⟨hn1,hn2⟩:=vbM.1 hn
  simp only[Bp]
  cases i with
  |zero=>
   simp at hj hB;subst hj;subst hB
   rw[xm _ js Bs hn1,vai (hlt _ (by simp))]
  |succ i=>exact Fs _ js Bs hn2 (by simpa using hl) (fun x hx=>by rw[vbw];exact hlt x (by simp[hx])) i j B (by simpa using hj) (by simpa using hB)
theorem Kk{ρ:List Nat}{H:List aG}:∀{js:List Nat} {Bs Hc:List aG},yz ρ H js Bs Hc->js.length=Bs.length/\Hc.length=js.length/\(∀j∈js,j<H.length)/\
  ∀(i j:Nat) B Bc,js[i]? =some j->Bs[i]? =some B->Hc[i]? =some Bc->(∃B0,H[j]? =some B0/\L3 B0 B=B)/\j6 ρ B Bc
 |[],[],[],_=>⟨rfl,rfl,by simp,by simp⟩
 |[],_::_,_,h=>by simp[yz]at h
 |[],[],_::_,h=>by simp[yz]at h
 |_::_,[],_,h=>by simp[yz]at h
 |_::_,_::_,[],h=>by simp[yz]at h
 | k :: js,B :: Bs,Bc :: Hc,h => by
  obtain⟨h1,h2⟩:=h
  obtain⟨B0,hB0,h3,h4⟩:=dK h1
  obtain⟨k1,k2,k3,k4⟩:=Kk h2
  refine⟨by simp[k1],by simp[k2],fun j hj=>?_,fun i j b bc hj hb hbc=>?_⟩
  ·rcases vaA.1 hj with rfl|hj
   ·exact am hB0
   ·exact k3 j hj
  ·cases i with
   |zero=>simp at hj hb hbc;subst hj;subst hb;subst hbc;exact⟨⟨B0,hB0,h3⟩,h4.to⟩
   |succ i=>exact k4 i j b bc (by simpa using hj) (by simpa using hb) (by simpa using hbc)
theorem Hj{ρ:List Nat}:∀{Bs Hc:List aG},Kl ρ Bs Hc->Bs.length=Hc.length/\∀(i:Nat) B Bc,Bs[i]? =some B->Hc[i]? =some Bc->j6 ρ B Bc
 |[],[],_=>⟨rfl,by simp⟩
 |[],_::_,h=>h.elim
 |_::_,[],h=>h.elim
 |B::Bs,Bc::Hc,h=>by
  obtain⟨k1,k2⟩:=Hj h.2
  refine⟨by simp[k1],fun i b bc hb hbc=>?_⟩
  cases i with
  |zero=>simp at hb hbc;subst hb;subst hbc;exact h.1.to
  |succ i=>exact k2 i b bc (by simpa using hb) (by simpa using hbc)
def Y3(t:Nat):Option Operand->Bool
 |some (.tmp u)=>u==t
 |_=>false
def Wc:Option Operand->Bool
 |some (.const v)=>kM v
 |_=>false
def Ux(n:Nat)(args:List Operand)(own:List ((Nat×Nat)×TypeId))(oa:List OA):Bool:=
 oa.all (fun x=>decide (n<=x.i)&&((Wc args[x.i - n]? &&x.k==0)||(decide (((x.t,x.k),x.e)∈own)&&Y3 x.t args[x.i - n]?)))&&oa.all fun x=>oa.all fun y=>!(x.t==y.t&&x.k==y.k)||x.i==y.i
def Tg:aG->Bool
 |.dead=>false
 |_=>true
def uU(P:Program)(GE:List (Nat×List PVal))(f:Operand)(args:List Operand)(c:GC)(st:az)(K:List aG->Prop):Prop:=
 nX GE st.tmps f fun vf=>match vf with
 | .func (.func g) first cap => Mg GE st.tmps args fun as => match tW c.ρ && Ux first.length args st.own c.oa && c.Bs.all Tg && decide (c.Bs'.length = c.ρ.length) with
  | true => C P GE g c.argsC (c.oa.map fun x => ((x.i,x.k),x.e)) c.Hc c.rc c.ro c.Hc'∧NW c.ρ (first ++ as ++ cap) c.argsC∧yz c.ρ st.boxes c.ρ c.Bs c.Hc∧Kl c.ρ c.Bs' c.Hc'∧FB c.ρ c.r c.rc ∧
    Pa st.boxes c.ρ c.Bs' K
  |false=>False
 |_=>False
theorem CI{P:Program}{GE:List (Nat×List PVal)}{f:Operand}{args:List Operand}{c:GC}{st:az}{K:List aG->Prop}(h:uU P GE f args c st K):
  ∃H',Pu P GE f args st c.r c.ro H' c.oa/\K H':=by
 unfold uU at h
 rw[ce]at h
 split at h
 ·rename_i g first cap hf
  rw[sI]at h
  split at h
  ·rename_i hb
   simp only[vag,vam]at hb
   obtain⟨⟨⟨b1,b2⟩,b3⟩,b4⟩:=hb
   obtain⟨h1,h2,h3,h4,h5,h6⟩:=h
   rw[BZ]at h6
   have hn:=nN b1
   obtain⟨i1,i2,i3,i4⟩:=Kk h3
   obtain⟨o1,o2⟩:=Hj h4
   unfold Ux at b2
   rw[vag]at b2
   obtain⟨c1,c2⟩:=b2
   have hgetB:∀{i j:Nat},c.ρ[i]? =some j->∃B,c.Bs[i]? =some B:=fun{i j} hj=>⟨_,vab (by rw[<-i1];exact am hj)⟩
   have hgetH:∀{i j:Nat},c.ρ[i]? =some j->∃B,c.Hc[i]? =some B:=fun{i j} hj=>⟨_,vab (by rw[i2];exact am hj)⟩
   refine⟨_,⟨g,first,cap,c.argsC,c.ρ,Bp st.boxes c.ρ c.Bs,c.Hc,c.Hc',c.rc,hf,hn,h1,⟨GU _ _ _,fun i B hB=>?_⟩,⟨i2,fun i j hj=>?_⟩,⟨by rw[<-o1];exact b4,fun i j hj=>?_⟩,GU _ _ _,fun j hj=>by rw[xm _ _ _ hj,xm _ _ _ hj],h5,h2.len,h2.get,fun x hx=>?_,fun x hx y hy e1 e2=>?_⟩,h6⟩
   ·by_cases hi:i∈c.ρ
    ·obtain⟨k,hk⟩:=vbg.1 hi
     obtain⟨B1,hB1⟩:=hgetB hk
     obtain⟨Bc,hBc⟩:=hgetH hk
     obtain⟨⟨B0,hB0,hfg⟩,_⟩:=i4 k i B1 Bc hk hB1 hBc
     rw[Fs _ _ _ hn i1 i3 k i B1 hk hB1]at hB
     cases hB
     refine⟨B0,hB0,?_⟩
     rcases SW B0 B with hx|hx|hx
     ·rw[hfg]at hx
      have:=vaw.1 b3 B (vaz hB1)
      rw[hx]at this;cases this
     ·rw[hfg]at hx;exact .inl hx
     ·rw[hfg]at hx;exact .inr hx
    ·rw[xm _ _ _ hi]at hB
     exact⟨B,hB,.inl rfl⟩
   ·obtain⟨B1,hB1⟩:=hgetB hj
    obtain⟨Bc,hBc⟩:=hgetH hj
    exact⟨B1,Bc,Fs _ _ _ hn i1 i3 i j B1 hj hB1,hBc,(i4 i j B1 Bc hj hB1 hBc).2⟩
   ·have hi:=am hj
    have e1:=vab (l:=c.Bs') (i:=i) (by omega)
    have e2:=vab (l:=c.Hc') (i:=i) (by omega)
    exact⟨_,_,Fs _ _ _ hn b4.symm i3 i j _ hj e1,e2,o2 i _ _ e1 e2⟩
   ·have:=vaw.1 c1 x hx
    simp only[vag,vbc,vam,va1]at this
    refine⟨x.i - first.length,by omega,?_⟩
    rcases this.2 with⟨h2,h3⟩|⟨h2,h3⟩
    ·left
     unfold Wc at h2
     split at h2
     ·rename_i v hv
      unfold kM at h2
      split at h2
      ·exact⟨hv,h3⟩
      ·cases h2
     ·cases h2
    ·right
     unfold Y3 at h3
     split at h3
     ·rename_i u hu
      simp only[va1]at h3
      subst h3;exact⟨h2,hu⟩
     ·cases h3
   ·have:=vaw.1 (vaw.1 c2 x hx) y hy
    simp only[vbc,va3,Bool.and_eq_false_iff,beq_eq_false_iff_ne,ne_eq,va1]at this
    rcases this with(hx|hx)|hx
    ·exact absurd e1 hx
    ·exact absurd e2 hx
    ·exact hx
  ·exact h.elim
 ·exact h.elim
def IQ (P:Program) (GE:List (Nat×List PVal)) (A:List Nat) (o:Oper) (id:Nat) (sc:List It) (st:az) (K:List It→az→Prop):Prop :=
 match o.op,sc with
 |.build T parts,.b p L::sc'=>match o.dst with
  |some d=>Ra st.tmps.length d (wm GE st.tmps parts.toList fun ps=>cW P T ps=some p/\qV P T ps L/\fZ st.tmps d p fun tm=>bG ((L.map fun x=>((d,x.1),x.2))++cd d st.own) fun ow=>K sc' ⟨tm,st.boxes,ow⟩)
  |none=>False
 | .store T x (.tmp t),.y vs :: sc' => wd st.tmps t fun vt => match vt with
  | .agg l => match o.dst with
   | none => nX GE st.tmps x fun vx => match vx with
    | .bptr i off => bG (M5 t st.own) fun L => l = vs∧kL st.boxes i fun B => match B with
     | .cells cs own => match tW (L.map (·.1)) && decide (vs.length = P.cellsOf T) && (P.info? T).isSome && decide (off + vs.length ≤ cs.length) && vs.all PVal.one with
      | true => bG (cs.take off ++ vs ++ cs.drop (off + vs.length)) fun cs' => bG ((L.map fun y => (off + y.1,y.2)).reverse ++ own.filter fun y => y.1 < off || off + vs.length ≤ y.1) fun own' =>
        fZ st.boxes i (.cells cs' own') fun H=>bG (st.own.filter fun x=>!L.any fun y=>x.1==(t,y.1)) fun ow=>K sc' ⟨st.tmps,H,ow⟩
      |false=>False
     |_=>False
    |_=>False
   |some _=>False
  |_=>Ka P GE A o id sc st K
 | .load T x,.z l :: sc' => match P.underlying T with
  | some (.struct _) => match o.dst with
   | some d => Ra st.tmps.length d (nX GE st.tmps x fun vx => match vx with
    | .bptr i off => kL st.boxes i fun B => match B with
     | .cells cs own => aU P T (cs.drop off) = some (.agg l)∧bG (Tl off (P.cellsOf T) own) fun L => match tW (L.map (·.1)) with
      | true => fZ st.tmps d (.agg l) fun tm => bG (own.filter fun x => !L.any fun y => x.1 == off + y.1) fun own' => fZ st.boxes i (.cells cs own') fun H =>
        bG ((L.map fun y=>((d,y.1),y.2)).reverse++cd d st.own) fun ow=>K sc' ⟨tm,H,ow⟩
      |false=>False
     |_=>False
    |_=>False)
   |none=>False
  |_=>Ka P GE A o id sc st K
 |.box _ x,.e vs::sc'=>match o.dst with
  |some d=>Ra st.tmps.length d (nX GE st.tmps x fun vx=>bO vx=some vs/\fZ st.tmps d (.eptr vs) fun tm=>bG (cd d st.own) fun ow=>K sc' ⟨tm,st.boxes,ow⟩)
  |none=>False
 |.call {callee:=.value f,args,..},.cg c::sc'=>match o.dst with
  |some d=>Ra st.tmps.length d (uU P GE f args.toList c st fun H=>fZ st.tmps d c.r fun tm=>bG ((c.ro.map fun x=>((d,x.1),x.2))++cd d (st.own.filter fun z=>!c.oa.any fun x=>z.1==(x.t,x.k))) fun ow=>K sc' ⟨tm,H,ow⟩)
  |none=>False
 | .call { callee := .builtin .append,args:=⟨[.tmp t,y]⟩,argTypes:=⟨[T,T']⟩ },.ar i e n cs :: sc' => match o.dst with
  | some d => Ra st.tmps.length d (wd st.tmps t fun ve => nX GE st.tmps y fun vn => match ve,vn with
   | .slice [],.slice ns => match decide (T = T') && decide (((t,0),e) ∈ st.own) && decide (i = st.boxes.length) with
    | true => P.underlying T = some (.slice e)∧(∃ p,lx P T [] ns = some p)∧(n = ns.length∧cs = ns.flatten) ∧
      fZ st.tmps d (.bsl i 0 n) fun tm=>bG (cd d (st.own.filter fun x=>x.1 !=(t,0))) fun ow=>N1 st.boxes [.cells cs []] fun H=>K sc' ⟨tm,H,ow⟩
    |false=>False
   |_,_=>False)
  |none=>False
 | .call { callee := .value f,args:=⟨[x]⟩,.. },.ar i e n cs :: sc' => match o.dst with
  | some d => Ra st.tmps.length d (nX GE st.tmps f fun vf => nX GE st.tmps x fun vn => match vf,vn with
   | .func (.func g) [] [],.slice ns => match decide (i = st.boxes.length) with
    | true => lI P g e∧(0 < P.cellsOf e∧(∀ x ∈ ns,x.length = P.cellsOf e∧∀ q ∈ x,q.one = true)∧ns.length ≤ ee)∧(n = ns.length∧cs = ns.flatten) ∧
      fZ st.tmps d (.bsl i 0 n) fun tm=>bG (cd d st.own) fun ow=>N1 st.boxes [.cells cs []] fun H=>K sc' ⟨tm,H,ow⟩
    |false=>False
   |_,_=>False)
  |none=>False
 | .store T x (.const v),.ar _ e _ _ :: sc' => match o.dst,kM v with
  | none,true => nX GE st.tmps x fun vx => nX GE st.tmps (.const v) fun vy => match vx,bO vy with
   | .bptr i off,some vs => kL st.boxes i fun B => match B with
    |.cells cs own=>match decide (vs.length=P.cellsOf T)&&(P.info? T).isSome&&decide (off+vs.length<=cs.length)&&vs.all PVal.one with
     |true=>bG (cs.take off++vs++cs.drop (off+vs.length)) fun cs'=>bG ((off,e)::own.filter fun y=>y.1<off||off+vs.length<=y.1) fun own'=>fZ st.boxes i (.cells cs' own') fun H=>K sc' ⟨st.tmps,H,st.own⟩
     |false=>False
    |_=>False
   |_,_=>False
  |_,_=>False
 |_,_=>Ka P GE A o id sc st K
def J8(P:Program)(GE:List (Nat×List PVal))(A:List Nat)(ops:Array Oper)(K:List It->az->Prop):List Oper->Nat->Nat->List It->az->Prop
 |[],_,_,sc,st=>K sc st
 | o :: rest,pos,id,sc,st =>
  let step (sc:List It) (st:az):Prop:=IQ P GE A o id sc st fun sc' st'=>J8 P GE A ops K rest (pos+1) (id+if aH o.op then 1 else 0) sc' st'
  match o.guard with
  |none=>step sc st
  |some (j,want)=>IN ops j want pos sc st fun b sc' st'=>match b with
   |true=>step sc' st'
   |false=>Mn st' o.dst (.val undef) [] st'.boxes fun st''=>J8 P GE A ops K rest (pos+1) (id+if aH o.op then 1 else 0) sc' st''
section
variable{P:Program}{GE:List (Nat×List PVal)}{A:List Nat}{ops:Array Oper}
theorem Oj{f:Operand}{args:List Operand}{tmps:List PVal}{H:List aG}{sc:List It}{K:PVal->List (Nat×TypeId)->List It->Prop}(h:RM P GE f args tmps sc K):
  DK P GE (opv GE tmps f) (args.map (opv GE tmps)) H fun r ro H'=>H'=H/\∃sc',K r ro sc':=by
 unfold RM at h
 rw[ce]at h
 split at h
 ·rename_i g first cap hf
  rw[sI]at h
  split at h
  ·rename_i r ro sc'
   rw[hf]
   exact .inl ⟨h.1.1,r,ro,h.1.2,rfl,sc',h.2⟩
  ·exact h.elim
 ·exact h.elim
theorem BU{op:Op}{id:Nat}{v:Operand->PVal}{H H':List aG}{p:PVal}{K:PVal->List (Nat×TypeId)->List aG->Prop}(hn:∀f args tys,op≠.call {callee:=.value f,args,argTypes:=tys})
  (h:qU P op id v H=some (p,H')) (hk:K p [] H'):M6 P GE op id v H K:=by
 unfold M6
 split
 ·rename_i f args tys;exact absurd rfl (hn _ _ _)
 ·rw[h];exact hk
theorem jX{o:Oper}{id:Nat}{sc:List It}{st:az}{K:List It->az->Prop}(h:uV P GE o id sc st K):
  nu o st.tmps.length=true/\M6 P GE o.op id (opv GE st.tmps) st.boxes fun p ro H=>(fun st'=>∃sc',K sc' st') (wq st o.dst p ro H):=by
 unfold uV at h
 split at h
 ·exact h.elim
 ·rename_i hc
  refine⟨hc,?_⟩
  split at h
  ·rename_i f args tys ho
   have:=Oj (H:=st.boxes) h
   unfold M6
   simp only[ho]
   unfold DK at this ⊢
   split at this
   ·rcases this with⟨k1,r,ro,k2,_,sc',k3⟩|⟨ρ,argsC,Hc,rc,ro,Hc',H',r,k1,k2,k3,k4,k5,k6,k7,k8,k9,rfl,sc',k10⟩
    ·rw[sK]at k3;exact .inl ⟨k1,r,ro,k2,sc',k3⟩
    ·rw[sK]at k10;exact .inr ⟨ρ,argsC,Hc,rc,ro,Hc',_,r,k1,k2,k3,k4,k5,k6,k7,k8,k9,sc',k10⟩
   ·exact this.elim
  ·rename_i t ho
   split at h
   ·rename_i zs sc'
    obtain⟨h1,h2⟩:=h
    simp only[aS,bK,sK]at h2
    rw[ho]
    exact BU (by simp) (by simp only[qU,h1,vaj]) ⟨sc',h2⟩
   ·exact h.elim
  ·rename_i t x ho
   rw[ce]at h
   split at h
   ·rename_i cs sc'
    obtain⟨h1,h2⟩:=h
    simp only[bK,sK]at h2
    rw[ho]
    exact BU (by simp) (by simp only[qU,h1,vaj]) ⟨sc',h2⟩
   ·exact h.elim
  ·rename_i t ho
   simp only[bK,sK]at h
   rw[ho]
   exact BU (by simp) (by simp only[qU]) ⟨_,h⟩
  ·rename_i n1 n2 n3 n4
   obtain⟨p,H',sc',k1,k2,_⟩:=Hf (id:=id) h
   rw[sK]at k2
   exact BU (fun f args tys e=>n1 f args tys e) k1 ⟨sc',k2⟩
theorem yw{o:Oper}{id:Nat}{sc:List It}{st:az}{K:List It->az->Prop}(h:Ka P GE A o id sc st K):Hr P GE A o id (fun st'=>∃sc',K sc' st') st:=by
 unfold Ka at h
 unfold Hr
 split at h
 case h_1 t d ho hd=>
  obtain⟨h1,h2⟩:=oH h
  simp only[gZ,bK,aS]at h2
  simp only[ho,hd]
  exact⟨h1,_,h2⟩
 case h_2 t d ho hd=>
  simp only[ho,hd]
  split at h
  ·rename_i hA
   obtain⟨h1,h2⟩:=oH h
   simp only[gZ,bK,aS]at h2
   rw[vak (by simpa using hA)]
   exact⟨h1,_,h2⟩
  ·rename_i hA
   rw[van (by simpa using hA)]
   have:=jX h
   rw[ho,hd]at this
   exact this
 case h_3 v d ho hd=>
  simp only[ho,hd]
  split at h
  ·rename_i e he
   obtain⟨h1,h2⟩:=oH h
   simp only[bK,aS]at h2
   simp only[he]
   exact⟨h1,_,h2⟩
  ·rename_i he
   simp only[he]
   have:=jX h
   rw[ho,hd]at this
   exact this
 case h_4 v d ho hd=>
  simp only[ho,hd]
  split at h
  ·rename_i e he
   obtain⟨h1,h2⟩:=oH h
   simp only[bK,aS]at h2
   simp only[he]
   exact⟨h1,_,h2⟩
  ·rename_i he
   simp only[he]
   have:=jX h
   rw[ho,hd]at this
   exact this
 case h_5 t i d ho hd=>
  obtain⟨h1,h2⟩:=oH h
  rw[gZ]at h2
  obtain⟨p,h3,h4⟩:=uX h2
  simp only[bK,aS]at h4
  simp only[ho,hd,h3]
  exact⟨h1,_,h4⟩
 case h_6 T len parts d ho hd=>
  obtain⟨h1,h2⟩:=oH h
  rw[nO]at h2
  split at h2
  ·rename_i p sc' e hu
   obtain⟨h3,h4⟩:=h2
   simp only[bK,aS]at h4
   simp only[ho,hd,h3,hu]
   exact⟨h1,_,h4⟩
  ·exact h2.elim
 case h_7 t y T T' d ho hd=>
  obtain⟨h1,h2⟩:=oH h
  rw[gZ,ce]at h2
  split at h2
  ·rename_i es ns p sc' e he hn hu
   split at h2
   ·rename_i hc
    simp only[vag,vam]at hc
    obtain⟨h3,h4⟩:=h2
    simp only[bK,aS]at h4
    simp only[ho,hd,hu,he,hn,h3]
    exact⟨hc.1,h1,hc.2,_,h4⟩
   ·exact h2.elim
  ·exact h2.elim
 case h_8 T x d ho hd=>
  simp only[ho,hd]
  split at h
  ·rename_i hA
   obtain⟨h1,h2⟩:=oH h
   rw[ce]at h2
   rw[vak (by simpa using hA)]
   split at h2
   ·rename_i i off e hx hu
    obtain⟨B,hB,h2⟩:=dK h2
    split at h2
    ·rename_i cs own
     split at h2
     ·rename_i hc
      simp only[vag,vam]at hc
      simp only[gZ,bK,aS]at h2
      have hget:cs[off]? =some (cs.getD off .undef):=by
       rw[vac,vab hc.2];rfl
      simp only[hx,hu,hB,hget]
      exact⟨h1,hc.1,_,h2⟩
     ·exact h2.elim
    ·exact h2.elim
   ·exact h2.elim
  ·rename_i hA
   rw[van (by simpa using hA)]
   have:=jX h
   rw[ho,hd]at this
   exact this
 case h_9 T x t ho=>
  simp only[ho]
  split at h
  ·rename_i y e hf
   rw[ce,gZ]at h
   simp only[hf]
   unfold J9 at h
   split at h
   ·rename_i i off hx
    split at h
    ·rename_i H hst
     obtain⟨B,hB,h⟩:=dK h
     split at h
     ·rename_i cs own
      split at h
      ·rename_i hone
       simp only[bK,aS,sK]at h
       simp only[hx,hst,hB,hone]
       exact⟨_,h⟩
      ·exact h.elim
     ·exact h.elim
    ·exact h.elim
   ·exact h.elim
  ·rename_i hf
   simp only[hf]
   have:=jX h
   rw[ho]at this
   exact this
 case h_10=>
  have:=jX h
  split
  all_goals first
   |exact this
   |(exfalso;simp_all;done)
   |(exfalso;simp_all;rename_i hx h1 h2;exact hx _ _ _ _ rfl rfl rfl rfl)
   |(exfalso;simp_all;rename_i hx h1 h2;exact hx _ _ _ _ _ rfl rfl rfl rfl rfl)
   |(exfalso;simp_all;rename_i hx h1 h2;exact hx _ _ _ rfl rfl rfl)
theorem CJ{j:Nat}{want:Bool}{pos:Nat}{sc:List It}{st:az}{go:Bool->List It->az->Prop}(h:IN ops j want pos sc st go):
  ∃x,tZ ops st.tmps j=some x/\((x=some want/\∃sc',go true sc' st)\/(x≠some want/\∃sc',go false sc' st)):=by
 unfold IN at h
 split at h
 ·exact h.elim
 ·rename_i t ht
  rw[gZ]at h
  have hget:∀{p},st.tmps.getD t .undef=p->p≠.undef->st.tmps[t]? =some p:=by
   intro p hp hne
   rw[vac]at hp
   cases hx:st.tmps[t]? with
   |none=>rw[hx]at hp;exact absurd hp.symm hne
   |some q=>rw[hx]at hp;exact vbr some hp
  have hfin:∀(x:Bool) sc',go (x==want) sc' st->(some x=some want/\∃sc',go true sc' st)\/(some x≠some want/\∃sc',go false sc' st):=by
   intro x sc' hg
   cases x<;>cases want<;>simp at hg ⊢<;>exact⟨sc',hg⟩
  split at h
  ·rename_i x hp
   have hx:=hget hp (by simp)
   have hg:tZ ops st.tmps j=some (some x):=by unfold tZ;simp only[ht,hx]
   refine⟨_,hg,?_⟩
   split at h
   ·rename_i pos' b sc'
    split at h
    ·obtain⟨rfl,h⟩:=h
     rw[bK,Fu hx]at h
     exact hfin x sc' h
    ·exact hfin x _ h
   ·exact hfin x _ h
  ·rename_i v hp
   have hx:=hget hp (by simp)
   split at h
   ·exact h.elim
   ·rename_i hb
    refine⟨none,?_,.inr ⟨by simp,_,h⟩⟩
    unfold tZ
    simp only[ht,hx]
    cases v<;>simp[qdq]at hb<;>rfl
  ·exact h.elim
theorem LN{o:Oper}{id:Nat}{sc:List It}{st:az}{K:List It->az->Prop}(h:IQ P GE A o id sc st K):Bk P GE A o id (fun st'=>∃sc',K sc' st') st:=by
 unfold IQ at h
 split at h
 ·rename_i T parts p L sc' ho
  split at h
  ·rename_i d hd
   obtain⟨h1,h2⟩:=oH h
   rw[nO]at h2
   obtain⟨h3,h4,h5⟩:=h2
   simp only[bK,aS]at h5
   refine .inr (.inl ?_)
   unfold KW
   simp only[ho,hd]
   exact⟨p,L,h3,h4,h1,sc',h5⟩
  ·exact h.elim
 ·rename_i T x t vs sc' ho
  rw[gZ]at h
  split at h
  ·rename_i l hl
   split at h
   ·rename_i hd
    rw[ce]at h
    split at h
    ·rename_i i off hx
     rw[aS]at h
     obtain⟨rfl,h⟩:=h
     obtain⟨B,hB,h⟩:=dK h
     split at h
     ·rename_i cs own
      split at h
      ·rename_i hc
       simp only[bK,aS]at h
       simp only[vag,vam]at hc
       obtain⟨⟨⟨⟨c1,c2⟩,c3⟩,c4⟩,c5⟩:=hc
       refine .inr (.inl ?_)
       unfold KW
       simp only[ho,hd]
       have hi:=am hB
       refine⟨i,off,st.boxes.set i (.cells (cs.take off++l++cs.drop (off+l.length)) (own.filter fun y=>y.1<off||off+l.length<=y.1)),_,_,M5 t st.own,l,hx,hl,?_,vai hi,fun y hy=>Gy hy,nN c1,sc',?_⟩
       ·simp only[dE,bO,hB]
        rw[vak ⟨c2,c3,c4,c5⟩]
       ·rw[vbT];exact h
      ·exact h.elim
     ·exact h.elim
    ·exact h.elim
   ·exact h.elim
  ·exact .inl (yw h)
 ·rename_i T x l sc' ho
  split at h
  ·rename_i fs hT
   split at h
   ·rename_i d hd
    obtain⟨h1,h⟩:=oH h
    rw[ce]at h
    split at h
    ·rename_i i off hx
     obtain⟨B,hB,h⟩:=dK h
     split at h
     ·rename_i cs own
      obtain⟨h2,h⟩:=h
      rw[aS]at h
      split at h
      ·rename_i hn
       simp only[bK,aS]at h
       refine .inr (.inl ?_)
       unfold KW
       simp only[ho,hd]
       have hlen:l.length=P.cellsOf T:=by
        have hp:=h2
        unfold aU at hp
        rw[hT]at hp
        simp only at hp
        split at hp
        ·rename_i hh;cases hp;rw[vaM];omega
        ·cases hp
       exact⟨i,off,cs,own,_,l,⟨fs,hT⟩,hx,hB,h2,fun y hy=>(BT hy).1,nN hn,fun y hy=>by rw[hlen];exact(BT hy).2,h1,sc',h⟩
      ·exact h.elim
     ·exact h.elim
    ·exact h.elim
   ·exact h.elim
  ·exact .inl (yw h)
 ·rename_i T x vs sc' ho
  split at h
  ·rename_i d hd
   obtain⟨h1,h⟩:=oH h
   rw[ce]at h
   obtain⟨h2,h⟩:=h
   simp only[bK,aS]at h
   refine .inr (.inl ?_)
   unfold KW
   simp only[ho,hd]
   exact⟨vs,h2,h1,sc',h⟩
  ·exact h.elim
 ·rename_i f args tys c sc' ho
  split at h
  ·rename_i d hd
   obtain⟨h1,h⟩:=oH h
   obtain⟨H',h2,h3⟩:=CI h
   simp only[bK,aS]at h3
   refine .inr (.inl ?_)
   unfold KW
   simp only[ho,hd]
   exact⟨c.r,c.ro,H',c.oa,h2,h1,sc',h3⟩
  ·exact h.elim
 ·rename_i t y T T' i e n cs sc' ho
  split at h
  ·rename_i d hd
   have hh:=oH h
   clear h
   obtain⟨h1,h⟩:=hh
   rw[gZ,ce]at h
   split at h
   ·rename_i ns he hn
    split at h
    ·rename_i hc
     simp only[vag,vam]at hc
     obtain⟨⟨rfl,c2⟩,rfl⟩:=hc
     obtain⟨h2,⟨p,h3⟩,⟨rfl,rfl⟩,h4⟩:=h
     simp only[bK,aS,N1,aS]at h4
     refine .inr (.inr ?_)
     unfold Sq
     simp only[ho,hd]
     exact⟨e,ns,p,trivial,h2,he,hn,h3,c2,h1,sc',h4⟩
    ·exact h.elim
   ·exact h.elim
  ·exact h.elim
 ·rename_i f x tys i e n cs sc' ho
  split at h
  ·rename_i d hd
   have hh:=oH h
   clear h
   obtain⟨h1,h⟩:=hh
   rw[ce,ce]at h
   split at h
   ·rename_i g ns hg hn
    split at h
    ·rename_i hc
     simp only[vam]at hc
     subst hc
     obtain⟨h2,⟨h3,h4,h5⟩,⟨rfl,rfl⟩,h6⟩:=h
     simp only[bK,aS,N1,aS]at h6
     refine .inr (.inr ?_)
     unfold Sq
     simp only[ho,hd]
     exact⟨g,e,ns,hg,h2,hn,h3,h4,h5,h1,sc',h6⟩
    ·exact h.elim
   ·exact h.elim
  ·exact h.elim
 ·rename_i T x v i0 e n0 cs0 sc' ho
  split at h
  ·rename_i hd hv
   have hv':v=.slice none 0 0:=by
    unfold kM at hv
    split at hv
    ·rfl
    ·cases hv
   subst hv'
   rw[ce,ce]at h
   split at h
   ·rename_i i off vs hx hpc
    obtain⟨B,hB,h⟩:=dK h
    split at h
    ·rename_i cs own
     split at h
     ·rename_i hc
      simp only[bK,aS]at h
      simp only[vag,vam]at hc
      obtain⟨⟨⟨c2,c3⟩,c4⟩,c5⟩:=hc
      refine .inr (.inr ?_)
      unfold Sq
      simp only[ho,hd]
      have hi:=am hB
      refine⟨i,off,e,st.boxes.set i (.cells (cs.take off++vs++cs.drop (off+vs.length)) (own.filter fun y=>y.1<off||off+vs.length<=y.1)),_,_,trivial,hx,?_,vai hi,sc',?_⟩
      ·simp only[dE,hpc,hB]
       rw[vak ⟨c2,c3,c4,c5⟩]
      ·rw[vbT];exact h
     ·exact h.elim
    ·exact h.elim
   ·exact h.elim
  ·exact h.elim
 ·exact .inl (yw h)
theorem Bl{o:Oper}{id:Nat}{K K':az->Prop}{st:az}(hk:∀st,K st->K' st)(h:Bk P GE A o id K st):Bk P GE A o id K' st:=by
 rcases h with h|h|h
 ·exact .inl (St hk h)
 rotate_left
 ·refine .inr (.inr ?_)
  unfold Sq at *
  split at h
  ·obtain⟨e,ns,p,h1,h2,h3,h4,h5,h6,h7,h8⟩:=h;exact⟨e,ns,p,h1,h2,h3,h4,h5,h6,h7,hk _ h8⟩
  ·obtain⟨g,e,ns,h1,h2,h3,h4,h5,h6,h7,h8⟩:=h;exact⟨g,e,ns,h1,h2,h3,h4,h5,h6,h7,hk _ h8⟩
  ·obtain⟨i,off,e,H,cs,own,h1,h2,h3,h4,h5⟩:=h;exact⟨i,off,e,H,cs,own,h1,h2,h3,h4,hk _ h5⟩
  ·exact h
 ·refine .inr (.inl ?_)
  unfold KW at *
  split at h
  ·obtain⟨p,L,h1,h2,h3,h4⟩:=h;exact⟨p,L,h1,h2,h3,hk _ h4⟩
  ·obtain⟨i,off,H,cs,own,L,l,h1,h2,h3,h4,h5,h6,h7⟩:=h;exact⟨i,off,H,cs,own,L,l,h1,h2,h3,h4,h5,h6,hk _ h7⟩
  ·obtain⟨i,off,cs,own,L,l,h0,h1,h2,h3,h4,h5,h6,h7,h8⟩:=h;exact⟨i,off,cs,own,L,l,h0,h1,h2,h3,h4,h5,h6,h7,hk _ h8⟩
  ·obtain⟨vs,h1,h2,h3⟩:=h;exact⟨vs,h1,h2,hk _ h3⟩
  ·obtain⟨r,ro,H',oa,h1,h2,h3⟩:=h;exact⟨r,ro,H',oa,h1,h2,hk _ h3⟩
  ·exact h
theorem yu{K:List It->az->Prop}:∀(rest:List Oper) (pos id:Nat) (sc:List It) (st:az),J8 P GE A ops K rest pos id sc st->cY P GE A ops (fun st=>∃sc,K sc st) rest id st
 |[],_,_,sc,st,h=>⟨sc,h⟩
 | o :: rest,pos,id,sc,st,h => by
  simp only[J8]at h
  have step:∀sc st,IQ P GE A o id sc st (fun sc' st'=>J8 P GE A ops K rest (pos+1) (id+if aH o.op then 1 else 0) sc' st')->Bk P GE A o id (cY P GE A ops (fun st=>∃sc,K sc st) rest (id+if aH o.op then 1 else 0)) st:=
   fun sc st hs=>Bl (fun st' hx=>by obtain⟨sc',hx⟩:=hx;exact yu rest _ _ sc' st' hx) (LN hs)
  unfold cY
  split at h
  ·rename_i hg;simp only[hg];exact step _ _ h
  ·rename_i j want hg
   obtain⟨x,hx,hc⟩:=CJ h
   simp only[hg,hx]
   rcases hc with⟨rfl,sc',hc⟩|⟨hne,sc',hc⟩
   ·exact⟨fun _=>step _ _ hc,fun hn=>absurd rfl hn⟩
   ·refine⟨fun he=>absurd he hne,fun _=>?_⟩
    simp only[sK]at hc
    exact yu rest _ _ sc' _ hc
end
end Go.Proofs.YtbaamopmfmpfaaaGreatDoor
