/- PROVED: parts of the proof (SatB SatC). Conditions: none. -/
import Derived.Test.YtggeppllafbidaaGreatDoorPkA5
noncomputable section
namespace Go.Proofs.YtggeppllafbidaaGreatDoor
open Go
structure GC where
 ρ:List Nat
 argsC:List PVal
 oa:List OA
 Bs:List ax
 Hc:List ax
 Bs':List ax
 Hc':List ax
 r:PVal
 rc:PVal
 ro:List (Nat×TypeId)
inductive It where
 |cg (c:GC)
 |ar (i:Nat) (e:TypeId) (n:Nat) (cs:List PVal)
 |fz (i:Nat) (es:List (List PVal)) (lv rk:List Nat)
 |g (j:Nat) (b:Bool)
 |k
 |s
 |v (p:PVal)
 |x (cs:List PVal)
 |w (i:Nat) (B:ax)
 |c (r:PVal) (ro:List (Nat×TypeId))
 |dr (an:List Nat)
 |dx (an:List Nat) (X:List ax) (br:List (Nat×Nat)) (rw:List Nat)
 |pa (n:Nat)
 |pc (st0:av) (e:Exit) (st1:av)
 |b (p:PVal) (L:List (Nat×TypeId))
 |y (vs:List PVal)
 |z (l:List PVal)
 |e (vs:List PVal)
def qY:List PVal->Nat->(PVal->Prop)->Prop
 |[],_,k=>k .undef
 |p::_,0,k=>k p
 |_::l,n+1,k=>qY l n k
theorem fw:∀(l:List PVal) (n:Nat) (k:PVal->Prop),qY l n k=k (l.getD n .undef)
 |[],_,_=>by simp[qY]
 |_::_,0,_=>by simp[qY]
 |_::l,n+1,k=>by simp only[qY,fw l n k,List.getD_cons_succ]
def eE{α:Type}:List α->Nat->α->(List α->Prop)->Prop
 |[],_,_,k=>k []
 |_::l,0,v,k=>k (v::l)
 |x::l,n+1,v,k=>eE l n v fun l'=>k (x::l')
theorem bo{α:Type}:∀(l:List α) (n:Nat) (v:α) (k:List α->Prop),eE l n v k=k (l.set n v)
 |[],_,_,_=>by simp[eE]
 |_::_,0,_,_=>by simp[eE]
 |x::l,n+1,v,k=>by simp only[eE,bo l n v,List.set_cons_succ]
def bk{α:Type}:List α->(List α->Prop)->Prop
 |[],k=>k []
 |x::l,k=>bk l fun l'=>k (x::l')
def HY(l:List ax)(r:List ax)(k:List ax->Prop):Prop:=bk (l++r) k
theorem aA{α:Type}:∀(l:List α) (k:List α->Prop),bk l k=k l
 |[],_=>rfl
 |x::l,k=>by simp only[bk,aA l]
def Qy:Value->(PVal->Prop)->Prop
 |.int a n,k=>k (.int a n)
 |.bool b,k=>k (.bool b)
 |.string s,k=>bk s.data.toList fun l=>k (.str l)
 |v,k=>k (absV v)
theorem O5(v:Value)(k:PVal->Prop):Qy v k=k (absV v):=by
 unfold Qy
 split
 ·rfl
 ·rfl
 ·rw[aA];rfl
 ·rfl
def kO(GE:List (Nat×List PVal))(tmps:List PVal)(x:Operand)(k:PVal->Prop):Prop:=
 match x with
 |.tmp t=>qY tmps t k
 |.const v=>Qy v k
 |x=>k (opv GE tmps x)
theorem bI(GE:List (Nat×List PVal))(tmps:List PVal)(x:Operand)(k:PVal->Prop):kO GE tmps x k=k (opv GE tmps x):=by
 cases x with
 |tmp t=>exact fw _ _ _
 |const v=>exact O5 _ _
 |global g=>rfl
 |func f=>rfl
def GD(GE:List (Nat×List PVal))(tmps:List PVal):List Operand->(List PVal->Prop)->Prop
 |[],k=>k []
 |x::l,k=>kO GE tmps x fun p=>GD GE tmps l fun ps=>k (p::ps)
theorem ol(GE:List (Nat×List PVal))(tmps:List PVal):∀(l:List Operand) (k:List PVal->Prop),GD GE tmps l k=k (l.map (opv GE tmps))
 |[],_=>rfl
 |x::l,k=>by simp only[GD,bI,ol GE tmps l,vaz]
def rh(GE:List (Nat×List PVal))(tmps:List PVal):List (Nat×Operand)->(List (Nat×PVal)->Prop)->Prop
 |[],k=>k []
 |x::l,k=>kO GE tmps x.2 fun p=>rh GE tmps l fun ps=>k ((x.1,p)::ps)
theorem kI(GE:List (Nat×List PVal))(tmps:List PVal):∀(l:List (Nat×Operand)) (k:List (Nat×PVal)->Prop),rh GE tmps l k=k (l.map fun x=>(x.1,opv GE tmps x.2))
 |[],_=>rfl
 |x::l,k=>by simp only[rh,bI,kI GE tmps l,vaz]
def PF(GE:List (Nat×List PVal))(tmps:List PVal):Option Operand->(Option PVal->Prop)->Prop
 |none,k=>k none
 |some x,k=>kO GE tmps x fun p=>k (some p)
theorem PG(GE:List (Nat×List PVal))(tmps:List PVal)(o:Option Operand)(k:Option PVal->Prop):PF GE tmps o k=k (o.map (opv GE tmps)):=by
 cases o with
 |none=>rfl
 |some x=>simp only[PF,bI,vaf]
def zi(sc:List It)(f:PVal->Prop)(K:PVal->List It->Prop):Prop:=
 match sc with
 |.v p::sc'=>f p/\K p sc'
 |_=>False
def Gz(o:Option PVal)(K:PVal->Prop):Prop:=
 match o with
 |some p=>K p
 |none=>False
theorem qh{o:Option PVal}{K:PVal->Prop}(h:Gz o K):∃p,o=some p/\K p:=by
 unfold Gz at h
 split at h
 ·exact⟨_,rfl,h⟩
 ·exact h.elim
theorem jj{sc:List It}{f:PVal->Prop}{K:PVal->List It->Prop}(h:zi sc f K):∃p sc',f p/\K p sc':=by
 unfold zi at h
 split at h
 ·exact⟨_,_,h⟩
 ·exact h.elim
def CC(P:Program)(GE:List (Nat×List PVal))(g:FuncId)(args:List PVal)(r:PVal)(ro:List (Nat×TypeId)):Prop:=iB 0 args/\C P GE g args [] [] r ro []
def Fg(P:Program)(t:TypeId)(es:List (PVal×PVal))(k:PVal)(ok:Bool):Option PVal:=
 match P.underlying t with
 | some (.map kt e) => match P.underlying kt with
  | some kd =>
   if j6 kd k then
    match vH k es 0,B4 P e with
    |some (some (_,v)),_=>some (if ok then .tuple [v,.bool true]else v)
    |some none,some z=>some (if ok then .tuple [z,.bool false]else z)
    |_,_=>none
   else none
  |_=>none
 |_=>none
theorem MM{P:Program}{t:TypeId}{es:List (PVal×PVal)}{k p:PVal}{ok:Bool}{H:List ax}{i:Nat}(hB:H[i]? =some (.map es))(h:Fg P t es k ok=some p):qp P t (.mapr i) k ok H=some p:=by
 unfold Fg at h
 unfold qp
 split at h
 ·rename_i kt e hu
  split at h
  ·rename_i kd hk
   simp only[hu,hB,hk]
   exact h
  ·cases h
 ·cases h
def Hk(P:Program)(t:TypeId)(es:List (PVal×PVal))(k v:PVal):Option (List (PVal×PVal)):=
 match P.underlying t with
 | some (.map kt _) => match P.underlying kt with
  | some kd =>
   if j6 kd k then
    match vH k es 0 with
    |some (some (j,_))=>some (es.set j (k,v))
    |some none=>some (es++[(k,v)])
    |none=>none
   else none
  |_=>none
 |_=>none
theorem JP{P:Program}{t:TypeId}{es es':List (PVal×PVal)}{k v:PVal}{H:List ax}{i:Nat}(hB:H[i]? =some (.map es))(h:Hk P t es k v=some es'):eV P t (.mapr i) k v H=some (H.set i (.map es')):=by
 unfold Hk at h
 unfold eV
 split at h
 ·rename_i kt e hu
  split at h
  ·rename_i kd hk
   simp only[hu,hB,hk]
   split at h
   ·rename_i hkk
    rw[vaj hkk]
    split at h
    ·rename_i hf;cases h;simp[hf]
    ·rename_i hf;cases h;simp[hf]
    ·cases h
   ·cases h
  ·cases h
 ·cases h
def iP:List ax->Nat->(ax->Prop)->Prop
 |[],_,_=>False
 |B::_,0,k=>k B
 |_::l,n+1,k=>iP l n k
theorem de:∀{l:List ax} {n:Nat} {k:ax->Prop},iP l n k->∃B,l[n]? =some B/\k B
 |[],_,_,h=>h.elim
 |B::_,0,_,h=>⟨B,rfl,h⟩
 |_::l,n+1,k,h=>by simp only[iP]at h;obtain⟨B,h1,h2⟩:=de h;exact⟨B,by simpa using h1,h2⟩
def Mt(op:BinOp)(x:PVal):Bool:=match op,x with
 |.quo,_=>true
 |.rem,_=>true
 |.add,.str _=>true
 |_,.agg _=>true
 |_,_=>false
def Lu(P:Program)(GE:List (Nat×List PVal))(op:Op)(tmps:List PVal)(H:List ax)(sc:List It)(K:PVal->List ax->List It->Prop):Prop:=
 match op with
 |.move x=>kO GE tmps x fun p=>K p H sc
 |.assign x=>kO GE tmps x fun p=>K p H sc
 |.pick c x y=>kO GE tmps c fun pc=>match pc with
  |.bool true=>kO GE tmps x fun p=>K p H sc
  |.bool false=>kO GE tmps y fun p=>K p H sc
  |_=>False
 |.binOp op T x y _=>kO GE tmps x fun vx=>kO GE tmps y fun vy=>match Mt op vx with
  |true=>zi sc (fun p=>E8 P op T vx vy=some p) fun p sc'=>K p H sc'
  |false=>Gz (E8 P op T vx vy) fun p=>K p H sc
 |.unOp op _ x=>kO GE tmps x fun vx=>Gz (SK op vx) fun p=>K p H sc
 |.convert s d x=>kO GE tmps x fun vx=>zi sc (fun p=>CF P s d vx=some p) fun p sc'=>K p H sc'
 |.extract t i=>kO GE tmps t fun vt=>Gz (po vt i) fun p=>K p H sc
 |.nilCheck x=>kO GE tmps x fun vx=>match vx with
  |.eptr cs=>K (.eptr cs) H sc
  |.bptr i off=>K (.bptr i off) H sc
  |.func (.func f) first cap=>K (.func (.func f) first cap) H sc
  |_=>False
 |.makeFunc fn first cap=>GD GE tmps first.toList fun f=>GD GE tmps cap.toList fun c=>K (.func fn f c) H sc
 | .load t x => kO GE tmps x fun vx => match vx with
  |.eptr cs=>zi sc (fun p=>ch P t cs=some p) fun p sc'=>K p H sc'
  | .bptr i off => iP H i fun B => match B with
   |.cells cs _=>match sc with
    |.s::sc'=>Gz (ch P t (cs.drop off)) fun p=>K p H sc'
    |.v p::sc'=>ch P t (cs.drop off)=some p/\K p H sc'
    |_=>False
   |_=>False
  |_=>False
 | .store t x y => kO GE tmps x fun vx => kO GE tmps y fun vy => match vx,sc with
  | .bptr i off,.s :: sc' => match bR vy with
   | some vs => iP H i fun B => match B with
    |.cells cs own=>match decide (vs.length=P.cellsOf t)&&(P.info? t).isSome&&decide (off+vs.length<=cs.length)&&vs.all PVal.one with
     |true=>bk (cs.take off++vs++cs.drop (off+vs.length)) fun cs'=>eE H i (.cells cs' (own.filter fun y=>y.1<off||off+vs.length<=y.1)) fun H'=>K (.val undef) H' sc'
     |false=>False
    |_=>False
   |none=>False
  | .bptr i off,.x vs :: sc' => bR vy = some vs∧(iP H i fun B => match B with
    |.cells cs own=>match decide (vs.length=P.cellsOf t)&&(P.info? t).isSome&&decide (off+vs.length<=cs.length)&&vs.all PVal.one with
     |true=>bk (cs.take off++vs++cs.drop (off+vs.length)) fun cs'=>eE H i (.cells cs' (own.filter fun y=>y.1<off||off+vs.length<=y.1)) fun H'=>K (.val undef) H' sc'
     |false=>False
    |_=>False)
  |.bptr i off,.w _ (.cells cs' own')::sc'=>iP H i fun B=>(cY P t (.bptr 0 off) vy [B]=some [.cells cs' own'])/\eE H i (.cells cs' own') fun H'=>K (.val undef) H' sc'
  |_,_=>False
 |.fieldAddr s x f=>kO GE tmps x fun vx=>match vx with
  |.bptr i off=>Gz (cy P s (.bptr i off) f) fun p=>K p H sc
  |vx=>zi sc (fun p=>cy P s vx f=some p) fun p sc'=>K p H sc'
 |.field t x f=>kO GE tmps x fun vx=>zi sc (fun p=>IA P t vx f=some p) fun p sc'=>K p H sc'
 |.indexAddr t x i=>kO GE tmps x fun vx=>kO GE tmps i fun vi=>zi sc (fun p=>fL P t vx vi=some p) fun p sc'=>K p H sc'
 |.index t x i=>kO GE tmps x fun vx=>kO GE tmps i fun vi=>zi sc (fun p=>tH P t vx vi=some p) fun p sc'=>K p H sc'
 | .lookup t m k ok => kO GE tmps m fun vm => kO GE tmps k fun vk => match vm with
  |.mapr i=>iP H i fun B=>match B with
   |.map es=>zi sc (fun p=>Fg P t es vk ok=some p) fun p sc'=>K p H sc'
   |_=>False
  |_=>False
 | .mapUpdate t m k x => kO GE tmps m fun vm => kO GE tmps k fun vk => kO GE tmps x fun vx => match vm,sc with
  |.mapr i,.w _ (.map es')::sc'=>iP H i fun B=>match B with
   |.map es=>Hk P t es vk vx=some es'/\eE H i (.map es') fun H'=>K (.val undef) H' sc'
   |_=>False
  |_,_=>False
 |.slice t x lo hi none=>kO GE tmps x fun vx=>PF GE tmps lo fun vl=>PF GE tmps hi fun vh=>zi sc (fun p=>rl P t vx vl vh none=some p) fun p sc'=>K p H sc'
 |.build t parts=>rh GE tmps parts.toList fun ps=>zi sc (fun p=>df P t ps=some p) fun p sc'=>K p H sc'
 |.buildSlice t len parts=>rh GE tmps parts.toList fun ps=>zi sc (fun p=>d6 P t len ps=some p) fun p sc'=>K p H sc'
 | .call { callee := .builtin .len,args:=⟨[x]⟩,argTypes:=⟨[t]⟩ } => kO GE tmps x fun vx => match vx with
  |.mapr i=>iP H i fun B=>match B with
   |.map es=>zi sc (fun p=>p=.int .i64 es.length/\(P.underlying t).any (fun d=>match d with|.map _ _=>true|_=>false)=true) fun p sc'=>K p H sc'
   |_=>False
  |vx=>zi sc (fun p=>∀H,vI P t vx H=some p) fun p sc'=>K p H sc'
 |.call {callee:=.builtin .max,args:=⟨x::r⟩,..}=>kO GE tmps x fun vx=>GD GE tmps r fun vr=>Gz (CG LN vx vr) fun p=>K p H sc
 |.call {callee:=.builtin .min,args:=⟨x::r⟩,..}=>kO GE tmps x fun vx=>GD GE tmps r fun vr=>Gz (CG LO vx vr) fun p=>K p H sc
 |_=>False
section
variable{P:Program}{GE:List (Nat×List PVal)}
theorem MP{t:TypeId}{off i:Nat}{y:PVal}{H:List ax}{B:ax}{cs':List PVal}{own':List (Nat×TypeId)}(hB:H[i]? =some B)(h:cY P t (.bptr 0 off) y [B]=some [.cells cs' own']):
  cY P t (.bptr i off) y H=some (H.set i (.cells cs' own')):=by
 unfold cY at h ⊢
 split at h
 ·rename_i i' off' vs h1 h2
  cases h1
  simp only[h2]
  change (match(some B:Option ax)with|some (.cells cs own)=>_|_=>none)=_ at h
  rw[hB]
  split at h
  ·rename_i hb
   cases hb
   simp only
   split at h
   ·rename_i hc
    rw[vaj hc]
    simp only[List.set_cons_zero,vat,vbB,vcR]at h
    rw[h]
   ·cases h
  ·cases h
 ·cases h
theorem Oe(t:TypeId)(id:Nat)(v:Operand->PVal)(x:Operand)(H:List ax):ni P (.load t x) id v H=(jm P t (v x) H).map fun p=>(p,H):=rfl
theorem Cu{op:Op}{id:Nat}{tmps:List PVal}{H:List ax}{sc:List It}{K:PVal->List ax->List It->Prop}(h:Lu P GE op tmps H sc K):
  ∃p H' sc',ni P op id (opv GE tmps) H=some (p,H')/\K p H' sc'/\H'.length=H.length:=by
 unfold Lu at h
 split at h
 case h_1=>rw[bI]at h;exact⟨_,_,_,rfl,h,rfl⟩
 case h_2=>rw[bI]at h;exact⟨_,_,_,rfl,h,rfl⟩
 case h_3 c x y=>
  rw[bI]at h
  split at h
  ·rename_i hc;rw[bI]at h;exact⟨_,_,_,by simp only[ni,hc],h,rfl⟩
  ·rename_i hc;rw[bI]at h;exact⟨_,_,_,by simp only[ni,hc],h,rfl⟩
  ·exact h.elim
 case h_4=>
  simp only[bI]at h
  split at h
  ·obtain⟨p,sc',h1,h2⟩:=jj h;exact⟨p,_,sc',by simp only[ni,h1,vaf],h2,rfl⟩
  ·obtain⟨p,h1,h2⟩:=qh h;exact⟨p,_,_,by simp only[ni,h1,vaf],h2,rfl⟩
 case h_5=>simp only[bI]at h;obtain⟨p,h1,h2⟩:=qh h;exact⟨p,_,_,by simp only[ni,h1,vaf],h2,rfl⟩
 case h_6=>simp only[bI]at h;obtain⟨p,sc',h1,h2⟩:=jj h;exact⟨p,_,sc',by simp only[ni,h1,vaf],h2,rfl⟩
 case h_7=>simp only[bI]at h;obtain⟨p,h1,h2⟩:=qh h;exact⟨p,_,_,by simp only[ni,h1,vaf],h2,rfl⟩
 case h_8=>
  simp only[bI]at h
  split at h
  ·rename_i hv;exact⟨_,_,_,by simp only[ni,hv],h,rfl⟩
  ·rename_i hv;exact⟨_,_,_,by simp only[ni,hv],h,rfl⟩
  ·rename_i hv;exact⟨_,_,_,by simp only[ni,hv],h,rfl⟩
  ·exact h.elim
 case h_9=>simp only[ol]at h;exact⟨_,_,_,rfl,h,rfl⟩
 case h_10 t x=>
  simp only[bI]at h
  rw[Oe]
  split at h
  ·rename_i cs hv
   obtain⟨p,sc',h1,h2⟩:=jj h
   exact⟨p,_,sc',by simp only[hv,jm,h1,vaf],h2,rfl⟩
  ·rename_i i off hv
   obtain⟨B,hB,h⟩:=de h
   split at h
   ·rename_i cs own
    split at h
    ·obtain⟨p,h1,h2⟩:=qh h
     exact⟨p,_,_,by simp only[hv,jm,hB,h1,vaf],h2,rfl⟩
    ·exact⟨_,_,_,by simp only[hv,jm,hB,h.1,vaf],h.2,rfl⟩
    ·exact h.elim
   ·exact h.elim
  ·exact h.elim
 case h_11 t x y=>
  simp only[bI]at h
  split at h
  ·rename_i i off sc' hv
   split at h
   ·rename_i vs hvs
    obtain⟨B,hB,h⟩:=de h
    split at h
    ·rename_i cs own
     split at h
     ·rename_i hc
      simp only[aA,bo]at h
      simp only[vae,vai]at hc
      exact⟨_,_,_,by simp only[ni,cY,hv,hvs,hB];rw[vaj ⟨hc.1.1.1,hc.1.1.2,hc.1.2,hc.2⟩];rfl,h,by simp⟩
     ·exact h.elim
    ·exact h.elim
   ·exact h.elim
  ·rename_i i off vs sc' hv
   obtain⟨hvs,h⟩:=h
   obtain⟨B,hB,h⟩:=de h
   split at h
   ·rename_i cs own
    split at h
    ·rename_i hc
     simp only[aA,bo]at h
     simp only[vae,vai]at hc
     exact⟨_,_,_,by simp only[ni,cY,hv,hvs,hB];rw[vaj ⟨hc.1.1.1,hc.1.1.2,hc.1.2,hc.2⟩];rfl,h,by simp⟩
    ·exact h.elim
   ·exact h.elim
  ·rename_i i off j cs' own' sc' hv
   obtain⟨B,hB,h1,h2⟩:=de h
   rw[bo]at h2
   exact⟨_,_,_,by simp only[ni,hv,MP hB h1];rfl,h2,by simp⟩
  ·exact h.elim
 case h_12=>
  simp only[bI]at h
  split at h
  ·rename_i hv
   obtain⟨p,h1,h2⟩:=qh h;exact⟨p,_,_,by simp only[ni,hv,h1,vaf],h2,rfl⟩
  ·obtain⟨p,sc',h1,h2⟩:=jj h;exact⟨p,_,sc',by simp only[ni,h1,vaf],h2,rfl⟩
 case h_13=>simp only[bI]at h;obtain⟨p,sc',h1,h2⟩:=jj h;exact⟨p,_,sc',by simp only[ni,h1,vaf],h2,rfl⟩
 case h_14=>simp only[bI]at h;obtain⟨p,sc',h1,h2⟩:=jj h;exact⟨p,_,sc',by simp only[ni,h1,vaf],h2,rfl⟩
 case h_15=>simp only[bI]at h;obtain⟨p,sc',h1,h2⟩:=jj h;exact⟨p,_,sc',by simp only[ni,h1,vaf],h2,rfl⟩
 case h_16 t m k ok=>
  simp only[bI]at h
  split at h
  ·rename_i i hv
   obtain⟨B,hB,h⟩:=de h
   split at h
   ·rename_i es
    obtain⟨p,sc',h1,h2⟩:=jj h
    exact⟨p,_,sc',by simp only[ni,hv,MM hB h1,vaf],h2,rfl⟩
   ·exact h.elim
  ·exact h.elim
 case h_17 t m k x=>
  simp only[bI]at h
  split at h
  ·rename_i i j es' sc' hv
   obtain⟨B,hB,h⟩:=de h
   split at h
   ·rename_i es
    obtain⟨h1,h2⟩:=h
    rw[bo]at h2
    exact⟨_,_,_,by simp only[ni,hv,JP hB h1];rfl,h2,by simp⟩
   ·exact h.elim
  ·exact h.elim
 case h_18=>simp only[bI,PG]at h;obtain⟨p,sc',h1,h2⟩:=jj h;exact⟨p,_,sc',by simp only[ni,h1,vaf],h2,rfl⟩
 case h_19=>simp only[kI]at h;obtain⟨p,sc',h1,h2⟩:=jj h;exact⟨p,_,sc',by simp only[ni,h1,vaf],h2,rfl⟩
 case h_20=>simp only[kI]at h;obtain⟨p,sc',h1,h2⟩:=jj h;exact⟨p,_,sc',by simp only[ni,h1,vaf],h2,rfl⟩
 case h_21 x t=>
  simp only[bI]at h
  split at h
  ·rename_i i hv
   obtain⟨B,hB,h⟩:=de h
   split at h
   ·rename_i es
    obtain⟨p,sc',⟨rfl,h1⟩,h2⟩:=jj h
    refine⟨_,_,sc',?_,h2,rfl⟩
    simp only[ni,hv,vI]
    cases hu:P.underlying t with
    |none=>rw[hu]at h1;cases h1
    |some d=>
     rw[hu]at h1
     cases d<;>simp at h1
     simp only[hB,vaf]
   ·exact h.elim
  ·obtain⟨p,sc',h1,h2⟩:=jj h;exact⟨p,_,sc',by simp only[ni,h1 H,vaf],h2,rfl⟩
 case h_22=>simp only[bI,ol]at h;obtain⟨p,h1,h2⟩:=qh h;exact⟨p,_,_,by simp only[ni,h1,vaf],h2,rfl⟩
 case h_23=>simp only[bI,ol]at h;obtain⟨p,h1,h2⟩:=qh h;exact⟨p,_,_,by simp only[ni,h1,vaf],h2,rfl⟩
 case h_24=>exact h.elim
end
def GN(st:av)(dst:Option Tmp)(p:PVal)(ro:List (Nat×TypeId))(H:List ax)(K:av->Prop):Prop:=
 match dst with
 |some d=>eE st.tmps d p fun tm=>bk ((ro.map fun x=>((d,x.1),x.2))++bG d st.own) fun ow=>K ⟨tm,H,ow⟩
 |none=>K ⟨st.tmps,H,st.own⟩
theorem oo(st:av)(dst:Option Tmp)(p:PVal)(ro:List (Nat×TypeId))(H:List ax)(K:av->Prop):GN st dst p ro H K=K (rm st dst p ro H):=by
 cases dst with
 |none=>rfl
 |some d=>simp only[GN,bo,aA,rm]
def KK(P:Program)(GE:List (Nat×List PVal))(f:Operand)(args:List Operand)(tmps:List PVal)(sc:List It)(K:PVal->List (Nat×TypeId)->List It->Prop):Prop:=
 kO GE tmps f fun vf=>match vf with
  |.func (.func g) first cap=>GD GE tmps args fun as=>match sc with
   |.c r ro::sc'=>CC P GE g (first++as++cap) r ro/\K r ro sc'
   |_=>False
  |_=>False
def qe(P:Program)(GE:List (Nat×List PVal))(o:Oper)(id:Nat)(sc:List It)(st:av)(K:List It->av->Prop):Prop:=
 match kf o st.tmps.length with
 |false=>False
 | true => match o.op with
  |.call {callee:=.value f,args,..}=>KK P GE f args.toList st.tmps sc fun r ro sc'=>GN st o.dst r ro st.boxes fun st'=>K sc' st'
  |.alloc t=>match sc with
   |.x zs::sc'=>iV P t=some zs/\bk (JV P t) fun ow=>eE st.boxes id (.cells zs ow) fun H=>GN st o.dst (.bptr id 0) [] H fun st'=>K sc' st'
   |_=>False
  |.box _ x=>kO GE st.tmps x fun vx=>match sc with
   |.x cs::sc'=>bR vx=some cs/\eE st.boxes id (.cells cs []) fun H=>GN st o.dst (.bptr id 0) [] H fun st'=>K sc' st'
   |_=>False
  |.makeMap _ none=>eE st.boxes id (.map []) fun H=>GN st o.dst (.mapr id) [] H fun st'=>K sc st'
  |op=>Lu P GE op st.tmps st.boxes sc fun p H sc'=>GN st o.dst p [] H fun st'=>K sc' st'
def Kf(n d:Nat)(K:Prop):Prop:=match decide (d<n)with
 |true=>K
 |false=>False
theorem lx{n d:Nat}{K:Prop}(h:Kf n d K):d<n/\K:=by
 unfold Kf at h
 split at h
 ·rename_i hd;exact⟨by simpa using hd,h⟩
 ·exact h.elim
def EB(P:Program)(st:av)(T e:TypeId)(t:Nat)(dst:Option Tmp)(vx vt:PVal)(sc:List It)(K:List It->av->Prop):Prop:=
 match vx with
 | .bptr i off => match cY P T (.bptr i off) vt st.boxes with
  | some H => iP H i fun B => match B with
   |.cells cs own=>match vt.one with
    |true=>bk cs fun cs'=>eE H i (.cells cs' ((off,e)::own)) fun H'=>GN {st with own:=st.own.filter fun x=>x.1 !=(t,0)} dst (.val undef) [] H' fun st'=>K sc st'
    |false=>False
   |_=>False
  |none=>False
 |_=>False
def EC(P:Program)(GE:List (Nat×List PVal))(A:List Nat)(o:Oper)(id:Nat)(sc:List It)(st:av)(K:List It->av->Prop):Prop:=
 match o.op,o.dst with
 |.assign (.tmp t),some d=>Kf st.tmps.length d (qY st.tmps t fun p=>eE st.tmps d p fun tm=>bk (fP d (fun x=>if x.1=t then(d,x.2)else x) st.own) fun ow=>K sc ⟨tm,st.boxes,ow⟩)
 |.move (.tmp t),some d=>match decide (d∈A)with
  |true=>Kf st.tmps.length d (qY st.tmps t fun p=>eE st.tmps d p fun tm=>bk (fP d (fun x=>if x.1=t then(d,x.2)else x) st.own) fun ow=>K sc ⟨tm,st.boxes,ow⟩)
  |false=>qe P GE o id sc st K
 |.assign (.const v),some d=>match oh P o.type v with
  |some e=>Kf st.tmps.length d (eE st.tmps d (.slice []) fun tm=>bk (((d,0),e)::bG d st.own) fun ow=>K sc ⟨tm,st.boxes,ow⟩)
  |none=>qe P GE o id sc st K
 |.move (.const v),some d=>match oh P o.type v with
  |some e=>Kf st.tmps.length d (eE st.tmps d (.slice []) fun tm=>bk (((d,0),e)::bG d st.own) fun ow=>K sc ⟨tm,st.boxes,ow⟩)
  |none=>qe P GE o id sc st K
 |.extract (.tmp t) i,some d=>Kf st.tmps.length d (qY st.tmps t fun vt=>Gz (po vt i) fun p=>eE st.tmps d p fun tm=>bk (fP d (fun x=>if x=(t,i)then(d,0)else x) st.own) fun ow=>K sc ⟨tm,st.boxes,ow⟩)
 |.buildSlice T len parts,some d=>Kf st.tmps.length d (rh GE st.tmps parts.toList fun ps=>match sc,P.underlying T with
  |.v p::sc',some (.slice e)=>d6 P T len ps=some p/\eE st.tmps d p fun tm=>bk (((d,0),e)::bG d st.own) fun ow=>K sc' ⟨tm,st.boxes,ow⟩
  |_,_=>False)
 | .call { callee := .builtin .append,args:=⟨[.tmp t,y]⟩,argTypes:=⟨[T,T']⟩ },some d => Kf st.tmps.length d (qY st.tmps t fun ve => kO GE st.tmps y fun vn => match ve,vn,sc,P.underlying T with
  |.slice es,.slice ns,.v p::sc',some (.slice e)=>match decide (T=T')&&decide (((t,0),e)∈st.own)with
   |true=>iv P T es ns=some p/\eE st.tmps d p fun tm=>bk (((d,0),e)::bG d (st.own.filter fun x=>x.1 !=(t,0))) fun ow=>K sc' ⟨tm,st.boxes,ow⟩
   |false=>False
  |_,_,_,_=>False)
 | .load T x,some d => match decide (d ∈ A) with
  | true => Kf st.tmps.length d (kO GE st.tmps x fun vx => match vx,P.underlying T with
   | .bptr i off,some (.slice e) => iP st.boxes i fun B => match B with
    |.cells cs own=>match decide ((off,e)∈own)&&decide (off<cs.length)with
     |true=>qY cs off fun p=>eE st.tmps d p fun tm=>bk (own.filter fun x=>x.1 !=off) fun own'=>eE st.boxes i (.cells cs own') fun H=>bk (((d,0),e)::bG d st.own) fun ow=>K sc ⟨tm,H,ow⟩
     |false=>False
    |_=>False
   |_,_=>False)
  |false=>qe P GE o id sc st K
 |.store T x (.tmp t),_=>match st.own.find? (fun y=>y.1==(t,0))with
  |some (_,e)=>kO GE st.tmps x fun vx=>qY st.tmps t fun vt=>EB P st T e t o.dst vx vt sc K
  |none=>qe P GE o id sc st K
 |_,_=>qe P GE o id sc st K
def Ub:Value->Bool
 |.bool _=>true
 |_=>false
def DP(ops:Array Oper)(j:Nat)(want:Bool)(pos:Nat)(sc:List It)(st:av)(go:Bool->List It->av->Prop):Prop:=
 match(ops[j]?).bind (·.dst)with
 |none=>False
 | some t => qY st.tmps t fun p => match p with
  | .bool x => match sc with
   |.g pos' b::sc'=>match pos'==pos with
    |true=>x=b/\eE st.tmps t (.bool b) fun tm=>go (b==want) sc' ⟨tm,st.boxes,st.own⟩
    |false=>go (x==want) sc st
   |_=>go (x==want) sc st
  |.val v=>match Ub v with
   |true=>False
   |false=>go false sc st
  |_=>False
def pn:List Nat->Bool
 |[]=>true
 |x::r=>!(r.contains x)&&pn r
theorem kH:∀{l:List Nat},pn l=true->l.Nodup
 |[],_=>.nil
 |x::r,h=>by
  simp only[pn,vae,va1,vcB,vbh]at h
  exact vbP.2 ⟨h.1,kH h.2⟩
def Hh(t:Nat)(own:List ((Nat×Nat)×TypeId)):List (Nat×TypeId):=own.filterMap fun x=>if x.1.1==t then some (x.1.2,x.2)else none
theorem BT{t:Nat}{own:List ((Nat×Nat)×TypeId)}{y:Nat×TypeId}(h:y∈Hh t own):((t,y.1),y.2)∈own:=by
 unfold Hh at h
 obtain⟨⟨⟨t',k⟩,e⟩,hx,he⟩:=vbO.1 h
 split at he
 ·rename_i ht
  simp only[vaZ]at ht
  cases he;subst ht;exact hx
 ·cases he
def LL(off n:Nat)(own:List (Nat×TypeId)):List (Nat×TypeId):=own.filterMap fun x=>if decide (off<=x.1)&&decide (x.1<off+n)then some (x.1 - off,x.2)else none
theorem wG{off n:Nat}{own:List (Nat×TypeId)}{y:Nat×TypeId}(h:y∈LL off n own):(off+y.1,y.2)∈own/\y.1<n:=by
 unfold LL at h
 obtain⟨⟨k,e⟩,hx,he⟩:=vbO.1 h
 split at he
 ·rename_i ht
  simp only[vae,vai]at ht
  cases he
  have:off+(k - off)=k:=by omega
  exact⟨by rw[this];exact hx,by simp only;omega⟩
 ·cases he
def Gm(ρ:List Nat):List PVal->List PVal->Prop
 |[],[]=>True
 |p::ps,q::qs=>zC ρ p q/\Gm ρ ps qs
 |_,_=>False
theorem Gm.len{ρ:List Nat}:∀{l r:List PVal},Gm ρ l r->l.length=r.length
 |[],[],_=>rfl
 |[],_::_,h=>h.elim
 |_::_,[],h=>h.elim
 |_::_,_::_,h=>by simp[Gm.len h.2]
theorem Gm.get{ρ:List Nat}:∀{l r:List PVal},Gm ρ l r->∀(i:Nat) p q,l[i]? =some p->r[i]? =some q->zC ρ p q
 |[],[],_,i,p,q,hp,_=>by simp at hp
 |[],_::_,h,_,_,_,_,_=>h.elim
 |_::_,[],h,_,_,_,_,_=>h.elim
 |_::_,_::_,h,0,p,q,hp,hq=>by simp at hp hq;subst hp;subst hq;exact h.1
 |_::_,_::_,h,i+1,p,q,hp,hq=>Gm.get h.2 i p q (by simpa using hp) (by simpa using hq)
def Nm(ρ:List Nat):ax->ax->Prop
 |.cells cs own,.cells cs' own'=>own=own'/\Gm ρ cs cs'
 |.map es,.map es'=>es=es'/\∀x∈es,x.1.cl 0/\x.2.cl 0
 |_,_=>False
theorem Nm.to{ρ:List Nat}{B B':ax}(h:Nm ρ B B'):ip ρ B B':=by
 cases B<;>cases B'<;>simp only[Nm]at h
 ·exact⟨h.1,h.2.len,h.2.get⟩
 ·obtain⟨rfl,h⟩:=h
  refine⟨rfl,fun i k u k' u' h1 h2=>?_⟩
  rw[h1]at h2;cases h2
  obtain⟨q1,q2⟩:=h _ (vay h1)
  exact⟨.refl _ q1,.refl _ q2⟩
def tv(ρ:List Nat)(H:List ax):List Nat->List ax->List ax->Prop
 |[],[],[]=>True
 |j::js,B::Bs,Bc::Hc=>(iP H j fun B0=>Gy B0 B=B/\Nm ρ B Bc)/\tv ρ H js Bs Hc
 |_,_,_=>False
def EK(ρ:List Nat):List ax->List ax->Prop
 |[],[]=>True
 |B::Bs,Bc::Hc=>Nm ρ B Bc/\EK ρ Bs Hc
 |_,_=>False
def vW(H:List ax):List Nat->List ax->List ax
 |j::js,B::Bs=>vW (H.set j B) js Bs
 |_,_=>H
def IJ(H:List ax):List Nat->List ax->(List ax->Prop)->Prop
 |j::js,B::Bs,K=>eE H j B fun H'=>IJ H' js Bs K
 |_,_,K=>K H
theorem wM:∀(H:List ax) (js:List Nat) (Bs:List ax) (K:List ax->Prop),IJ H js Bs K=K (vW H js Bs)
 |H,[],_,K=>by cases ‹List ax›<;>rfl
 |H,_::_,[],K=>rfl
 |H,j::js,B::Bs,K=>by simp only[IJ,bo,wM,vW]
theorem Ca:∀(H:List ax) (js:List Nat) (Bs:List ax),(vW H js Bs).length=H.length
 |H,[],_=>by cases ‹List ax›<;>rfl
 |H,_::_,[]=>rfl
 |H,j::js,B::Bs=>by simp only[vW,Ca,vbu]
theorem sw:∀(H:List ax) (js:List Nat) (Bs:List ax) {j:Nat},j∉js->(vW H js Bs)[j]? =H[j]?
 |H,[],Bs,_,_=>by cases Bs<;>rfl
 |H,_::_,[],_,_=>rfl
 |H,k::js,B::Bs,j,h=>by
  simp only[vaG,not_or]at h
  simp only[vW]
  rw[sw _ js Bs h.2,vap (Ne.symm h.1)]
theorem AV:∀(H:List ax) (js:List Nat) (Bs:List ax),js.Nodup->js.length=Bs.length->(∀j∈js,j<H.length)->∀(i j:Nat) B,js[i]? =some j->Bs[i]? =some B->(vW H js Bs)[j]? =some B
 |H,[],Bs,_,_,_,i,j,B,hj,_=>by simp at hj
 |H,_::_,[],_,hl,_,_,_,_,_,_=>by simp at hl
 | H,k :: js,B0 :: Bs,hn,hl,hlt,i,j,B,hj,hB => by
  obtain⟨hn1,hn2⟩:=vbP.1 hn
  simp only[vW]
  cases i with
  |zero=>
   simp at hj hB;subst hj;subst hB
   rw[sw _ js Bs hn1,vag (hlt _ (by simp))]
  |succ i=>exact AV _ js Bs hn2 (by simpa using hl) (fun x hx=>by rw[vbu];exact hlt x (by simp[hx])) i j B (by simpa using hj) (by simpa using hB)
theorem EJ{ρ:List Nat}{H:List ax}:∀{js:List Nat} {Bs Hc:List ax},tv ρ H js Bs Hc->js.length=Bs.length/\Hc.length=js.length/\(∀j∈js,j<H.length)/\
  ∀(i j:Nat) B Bc,js[i]? =some j->Bs[i]? =some B->Hc[i]? =some Bc->(∃B0,H[j]? =some B0/\Gy B0 B=B)/\ip ρ B Bc
 |[],[],[],_=>⟨rfl,rfl,by simp,by simp⟩
 |[],_::_,_,h=>by simp[tv]at h
 |[],[],_::_,h=>by simp[tv]at h
 |_::_,[],_,h=>by simp[tv]at h
 |_::_,_::_,[],h=>by simp[tv]at h
 | k :: js,B :: Bs,Bc :: Hc,h => by
  obtain⟨h1,h2⟩:=h
  obtain⟨B0,hB0,h3,h4⟩:=de h1
  obtain⟨k1,k2,k3,k4⟩:=EJ h2
  refine⟨by simp[k1],by simp[k2],fun j hj=>?_,fun i j b bc hj hb hbc=>?_⟩
  ·rcases vaG.1 hj with rfl|hj
   ·exact ak hB0
   ·exact k3 j hj
  ·cases i with
   |zero=>simp at hj hb hbc;subst hj;subst hb;subst hbc;exact⟨⟨B0,hB0,h3⟩,h4.to⟩
   |succ i=>exact k4 i j b bc (by simpa using hj) (by simpa using hb) (by simpa using hbc)
theorem Cx{ρ:List Nat}:∀{Bs Hc:List ax},EK ρ Bs Hc->Bs.length=Hc.length/\∀(i:Nat) B Bc,Bs[i]? =some B->Hc[i]? =some Bc->ip ρ B Bc
 |[],[],_=>⟨rfl,by simp⟩
 |[],_::_,h=>h.elim
 |_::_,[],h=>h.elim
 |B::Bs,Bc::Hc,h=>by
  obtain⟨k1,k2⟩:=Cx h.2
  refine⟨by simp[k1],fun i b bc hb hbc=>?_⟩
  cases i with
  |zero=>simp at hb hbc;subst hb;subst hbc;exact h.1.to
  |succ i=>exact k2 i b bc (by simpa using hb) (by simpa using hbc)
def P8(t:Nat):Option Operand->Bool
 |some (.tmp u)=>u==t
 |_=>false
def NS:Option Operand->Bool
 |some (.const v)=>iQ v
 |_=>false
def Mz(n:Nat)(args:List Operand)(own:List ((Nat×Nat)×TypeId))(oa:List OA):Bool:=
 oa.all (fun x=>decide (n<=x.i)&&((NS args[x.i - n]? &&x.k==0)||(decide (((x.t,x.k),x.e)∈own)&&P8 x.t args[x.i - n]?)))&&oa.all fun x=>oa.all fun y=>!(x.t==y.t&&x.k==y.k)||x.i==y.i
def LH:ax->Bool
 |.dead=>false
 |_=>true
def qd(P:Program)(GE:List (Nat×List PVal))(f:Operand)(args:List Operand)(c:GC)(st:av)(K:List ax->Prop):Prop:=
 kO GE st.tmps f fun vf=>match vf with
 | .func (.func g) first cap => GD GE st.tmps args fun as => match pn c.ρ && Mz first.length args st.own c.oa && c.Bs.all LH && decide (c.Bs'.length = c.ρ.length) with
  | true => C P GE g c.argsC (c.oa.map fun x => ((x.i,x.k),x.e)) c.Hc c.rc c.ro c.Hc'∧Gm c.ρ (first ++ as ++ cap) c.argsC∧tv c.ρ st.boxes c.ρ c.Bs c.Hc∧EK c.ρ c.Bs' c.Hc'∧zC c.ρ c.r c.rc ∧
    IJ st.boxes c.ρ c.Bs' K
  |false=>False
 |_=>False
theorem xq{P:Program}{GE:List (Nat×List PVal)}{f:Operand}{args:List Operand}{c:GC}{st:av}{K:List ax->Prop}(h:qd P GE f args c st K):
  ∃H',I0 P GE f args st c.r c.ro H' c.oa/\K H':=by
 unfold qd at h
 rw[bI]at h
 split at h
 ·rename_i g first cap hf
  rw[ol]at h
  split at h
  ·rename_i hb
   simp only[vae,vai]at hb
   obtain⟨⟨⟨b1,b2⟩,b3⟩,b4⟩:=hb
   obtain⟨h1,h2,h3,h4,h5,h6⟩:=h
   rw[wM]at h6
   have hn:=kH b1
   obtain⟨i1,i2,i3,i4⟩:=EJ h3
   obtain⟨o1,o2⟩:=Cx h4
   unfold Mz at b2
   rw[vae]at b2
   obtain⟨c1,c2⟩:=b2
   have hgetB:∀{i j:Nat},c.ρ[i]? =some j->∃B,c.Bs[i]? =some B:=fun{i j} hj=>⟨_,vab (by rw[<-i1];exact ak hj)⟩
   have hgetH:∀{i j:Nat},c.ρ[i]? =some j->∃B,c.Hc[i]? =some B:=fun{i j} hj=>⟨_,vab (by rw[i2];exact ak hj)⟩
   refine⟨_,⟨g,first,cap,c.argsC,c.ρ,vW st.boxes c.ρ c.Bs,c.Hc,c.Hc',c.rc,hf,hn,h1,⟨Ca _ _ _,fun i B hB=>?_⟩,⟨i2,fun i j hj=>?_⟩,⟨by rw[<-o1];exact b4,fun i j hj=>?_⟩,Ca _ _ _,fun j hj=>by rw[sw _ _ _ hj,sw _ _ _ hj],h5,h2.len,h2.get,fun x hx=>?_,fun x hx y hy e1 e2=>?_⟩,h6⟩
   ·by_cases hi:i∈c.ρ
    ·obtain⟨k,hk⟩:=vbe.1 hi
     obtain⟨B1,hB1⟩:=hgetB hk
     obtain⟨Bc,hBc⟩:=hgetH hk
     obtain⟨⟨B0,hB0,hfg⟩,_⟩:=i4 k i B1 Bc hk hB1 hBc
     rw[AV _ _ _ hn i1 i3 k i B1 hk hB1]at hB
     cases hB
     refine⟨B0,hB0,?_⟩
     rcases Lw B0 B with hx|hx|hx
     ·rw[hfg]at hx
      have:=vau.1 b3 B (vay hB1)
      rw[hx]at this;cases this
     ·rw[hfg]at hx;exact .inl hx
     ·rw[hfg]at hx;exact .inr hx
    ·rw[sw _ _ _ hi]at hB
     exact⟨B,hB,.inl rfl⟩
   ·obtain⟨B1,hB1⟩:=hgetB hj
    obtain⟨Bc,hBc⟩:=hgetH hj
    exact⟨B1,Bc,AV _ _ _ hn i1 i3 i j B1 hj hB1,hBc,(i4 i j B1 Bc hj hB1 hBc).2⟩
   ·have hi:=ak hj
    have e1:=vab (l:=c.Bs') (i:=i) (by omega)
    have e2:=vab (l:=c.Hc') (i:=i) (by omega)
    exact⟨_,_,AV _ _ _ hn b4.symm i3 i j _ hj e1,e2,o2 i _ _ e1 e2⟩
   ·have:=vau.1 c1 x hx
    simp only[vae,va4,vai,vaZ]at this
    refine⟨x.i - first.length,by omega,?_⟩
    rcases this.2 with⟨h2,h3⟩|⟨h2,h3⟩
    ·left
     unfold NS at h2
     split at h2
     ·rename_i v hv
      unfold iQ at h2
      split at h2
      ·exact⟨hv,h3⟩
      ·cases h2
     ·cases h2
    ·right
     unfold P8 at h3
     split at h3
     ·rename_i u hu
      simp only[vaZ]at h3
      subst h3;exact⟨h2,hu⟩
     ·cases h3
   ·have:=vau.1 (vau.1 c2 x hx) y hy
    simp only[va4,va1,Bool.and_eq_false_iff,beq_eq_false_iff_ne,ne_eq,vaZ]at this
    rcases this with(hx|hx)|hx
    ·exact absurd e1 hx
    ·exact absurd e2 hx
    ·exact hx
  ·exact h.elim
 ·exact h.elim
def DR (P:Program) (GE:List (Nat×List PVal)) (A:List Nat) (o:Oper) (id:Nat) (sc:List It) (st:av) (K:List It→av→Prop):Prop :=
 match o.op,sc with
 |.build T parts,.b p L::sc'=>match o.dst with
  |some d=>Kf st.tmps.length d (rh GE st.tmps parts.toList fun ps=>df P T ps=some p/\ri P T ps L/\eE st.tmps d p fun tm=>bk ((L.map fun x=>((d,x.1),x.2))++bG d st.own) fun ow=>K sc' ⟨tm,st.boxes,ow⟩)
  |none=>False
 | .store T x (.tmp t),.y vs :: sc' => qY st.tmps t fun vt => match vt with
  | .agg l => match o.dst with
   | none => kO GE st.tmps x fun vx => match vx with
    | .bptr i off => bk (Hh t st.own) fun L => l = vs∧iP st.boxes i fun B => match B with
     | .cells cs own => match pn (L.map (·.1)) && decide (vs.length = P.cellsOf T) && (P.info? T).isSome && decide (off + vs.length ≤ cs.length) && vs.all PVal.one with
      | true => bk (cs.take off ++ vs ++ cs.drop (off + vs.length)) fun cs' => bk ((L.map fun y => (off + y.1,y.2)).reverse ++ own.filter fun y => y.1 < off || off + vs.length ≤ y.1) fun own' =>
        eE st.boxes i (.cells cs' own') fun H=>bk (st.own.filter fun x=>!L.any fun y=>x.1==(t,y.1)) fun ow=>K sc' ⟨st.tmps,H,ow⟩
      |false=>False
     |_=>False
    |_=>False
   |some _=>False
  |_=>EC P GE A o id sc st K
 | .load T x,.z l :: sc' => match P.underlying T with
  | some (.struct _) => match o.dst with
   | some d => Kf st.tmps.length d (kO GE st.tmps x fun vx => match vx with
    | .bptr i off => iP st.boxes i fun B => match B with
     | .cells cs own => ch P T (cs.drop off) = some (.agg l)∧bk (LL off (P.cellsOf T) own) fun L => match pn (L.map (·.1)) with
      | true => eE st.tmps d (.agg l) fun tm => bk (own.filter fun x => !L.any fun y => x.1 == off + y.1) fun own' => eE st.boxes i (.cells cs own') fun H =>
        bk ((L.map fun y=>((d,y.1),y.2)).reverse++bG d st.own) fun ow=>K sc' ⟨tm,H,ow⟩
      |false=>False
     |_=>False
    |_=>False)
   |none=>False
  |_=>EC P GE A o id sc st K
 |.box _ x,.e vs::sc'=>match o.dst with
  |some d=>Kf st.tmps.length d (kO GE st.tmps x fun vx=>bR vx=some vs/\eE st.tmps d (.eptr vs) fun tm=>bk (bG d st.own) fun ow=>K sc' ⟨tm,st.boxes,ow⟩)
  |none=>False
 |.call {callee:=.value f,args,..},.cg c::sc'=>match o.dst with
  |some d=>Kf st.tmps.length d (qd P GE f args.toList c st fun H=>eE st.tmps d c.r fun tm=>bk ((c.ro.map fun x=>((d,x.1),x.2))++bG d (st.own.filter fun z=>!c.oa.any fun x=>z.1==(x.t,x.k))) fun ow=>K sc' ⟨tm,H,ow⟩)
  |none=>False
 | .call { callee := .builtin .append,args:=⟨[.tmp t,y]⟩,argTypes:=⟨[T,T']⟩ },.ar i e n cs :: sc' => match o.dst with
  | some d => Kf st.tmps.length d (qY st.tmps t fun ve => kO GE st.tmps y fun vn => match ve,vn with
   | .slice [],.slice ns => match decide (T = T') && decide (((t,0),e) ∈ st.own) && decide (i = st.boxes.length) with
    | true => P.underlying T = some (.slice e)∧(∃ p,iv P T [] ns = some p)∧(n = ns.length∧cs = ns.flatten) ∧
      eE st.tmps d (.bsl i 0 n) fun tm=>bk (bG d (st.own.filter fun x=>x.1 !=(t,0))) fun ow=>HY st.boxes [.cells cs []] fun H=>K sc' ⟨tm,H,ow⟩
    |false=>False
   |_,_=>False)
  |none=>False
 | .call { callee := .value f,args:=⟨[x]⟩,.. },.ar i e n cs :: sc' => match o.dst with
  | some d => Kf st.tmps.length d (kO GE st.tmps f fun vf => kO GE st.tmps x fun vn => match vf,vn with
   | .func (.func g) [] [],.slice ns => match decide (i = st.boxes.length) with
    | true => ma P g e∧(0 < P.cellsOf e∧(∀ x ∈ ns,x.length = P.cellsOf e∧∀ q ∈ x,q.one = true)∧ns.length ≤ dB)∧(n = ns.length∧cs = ns.flatten) ∧
      eE st.tmps d (.bsl i 0 n) fun tm=>bk (bG d st.own) fun ow=>HY st.boxes [.cells cs []] fun H=>K sc' ⟨tm,H,ow⟩
    |false=>False
   |_,_=>False)
  |none=>False
 | .store T x (.const v),.ar _ e _ _ :: sc' => match o.dst,iQ v with
  | none,true => kO GE st.tmps x fun vx => kO GE st.tmps (.const v) fun vy => match vx,bR vy with
   | .bptr i off,some vs => iP st.boxes i fun B => match B with
    |.cells cs own=>match decide (vs.length=P.cellsOf T)&&(P.info? T).isSome&&decide (off+vs.length<=cs.length)&&vs.all PVal.one with
     |true=>bk (cs.take off++vs++cs.drop (off+vs.length)) fun cs'=>bk ((off,e)::own.filter fun y=>y.1<off||off+vs.length<=y.1) fun own'=>eE st.boxes i (.cells cs' own') fun H=>K sc' ⟨st.tmps,H,st.own⟩
     |false=>False
    |_=>False
   |_,_=>False
  |_,_=>False
 |_,_=>EC P GE A o id sc st K
def EA(P:Program)(GE:List (Nat×List PVal))(A:List Nat)(ops:Array Oper)(K:List It->av->Prop):List Oper->Nat->Nat->List It->av->Prop
 |[],_,_,sc,st=>K sc st
 | o :: rest,pos,id,sc,st =>
  let step (sc:List It) (st:av):Prop:=DR P GE A o id sc st fun sc' st'=>EA P GE A ops K rest (pos+1) (id+if ay o.op then 1 else 0) sc' st'
  match o.guard with
  |none=>step sc st
  |some (j,want)=>DP ops j want pos sc st fun b sc' st'=>match b with
   |true=>step sc' st'
   |false=>GN st' o.dst (.val undef) [] st'.boxes fun st''=>EA P GE A ops K rest (pos+1) (id+if ay o.op then 1 else 0) sc' st''
section
variable{P:Program}{GE:List (Nat×List PVal)}{A:List Nat}{ops:Array Oper}
theorem H9{f:Operand}{args:List Operand}{tmps:List PVal}{H:List ax}{sc:List It}{K:PVal->List (Nat×TypeId)->List It->Prop}(h:KK P GE f args tmps sc K):
  yY P GE (opv GE tmps f) (args.map (opv GE tmps)) H fun r ro H'=>H'=H/\∃sc',K r ro sc':=by
 unfold KK at h
 rw[bI]at h
 split at h
 ·rename_i g first cap hf
  rw[ol]at h
  split at h
  ·rename_i r ro sc'
   rw[hf]
   exact .inl ⟨h.1.1,r,ro,h.1.2,rfl,sc',h.2⟩
  ·exact h.elim
 ·exact h.elim
theorem wH{op:Op}{id:Nat}{v:Operand->PVal}{H H':List ax}{p:PVal}{K:PVal->List (Nat×TypeId)->List ax->Prop}(hn:∀f args tys,op≠.call {callee:=.value f,args,argTypes:=tys})
  (h:ni P op id v H=some (p,H')) (hk:K p [] H'):Hi P GE op id v H K:=by
 unfold Hi
 split
 ·rename_i f args tys;exact absurd rfl (hn _ _ _)
 ·rw[h];exact hk
theorem il{o:Oper}{id:Nat}{sc:List It}{st:av}{K:List It->av->Prop}(h:qe P GE o id sc st K):
  kf o st.tmps.length=true/\Hi P GE o.op id (opv GE st.tmps) st.boxes fun p ro H=>(fun st'=>∃sc',K sc' st') (rm st o.dst p ro H):=by
 unfold qe at h
 split at h
 ·exact h.elim
 ·rename_i hc
  refine⟨hc,?_⟩
  split at h
  ·rename_i f args tys ho
   have:=H9 (H:=st.boxes) h
   unfold Hi
   simp only[ho]
   unfold yY at this ⊢
   split at this
   ·rcases this with⟨k1,r,ro,k2,_,sc',k3⟩|⟨ρ,argsC,Hc,rc,ro,Hc',H',r,k1,k2,k3,k4,k5,k6,k7,k8,k9,rfl,sc',k10⟩
    ·rw[oo]at k3;exact .inl ⟨k1,r,ro,k2,sc',k3⟩
    ·rw[oo]at k10;exact .inr ⟨ρ,argsC,Hc,rc,ro,Hc',_,r,k1,k2,k3,k4,k5,k6,k7,k8,k9,sc',k10⟩
   ·exact this.elim
  ·rename_i t ho
   split at h
   ·rename_i zs sc'
    obtain⟨h1,h2⟩:=h
    simp only[aA,bo,oo]at h2
    rw[ho]
    exact wH (by simp) (by simp only[ni,h1,vaf]) ⟨sc',h2⟩
   ·exact h.elim
  ·rename_i t x ho
   rw[bI]at h
   split at h
   ·rename_i cs sc'
    obtain⟨h1,h2⟩:=h
    simp only[bo,oo]at h2
    rw[ho]
    exact wH (by simp) (by simp only[ni,h1,vaf]) ⟨sc',h2⟩
   ·exact h.elim
  ·rename_i t ho
   simp only[bo,oo]at h
   rw[ho]
   exact wH (by simp) (by simp only[ni]) ⟨_,h⟩
  ·rename_i n1 n2 n3 n4
   obtain⟨p,H',sc',k1,k2,_⟩:=Cu (id:=id) h
   rw[oo]at k2
   exact wH (fun f args tys e=>n1 f args tys e) k1 ⟨sc',k2⟩
theorem tr{o:Oper}{id:Nat}{sc:List It}{st:av}{K:List It->av->Prop}(h:EC P GE A o id sc st K):CL P GE A o id (fun st'=>∃sc',K sc' st') st:=by
 unfold EC at h
 unfold CL
 split at h
 case h_1 t d ho hd=>
  obtain⟨h1,h2⟩:=lx h
  simp only[fw,bo,aA]at h2
  simp only[ho,hd]
  exact⟨h1,_,h2⟩
 case h_2 t d ho hd=>
  simp only[ho,hd]
  split at h
  ·rename_i hA
   obtain⟨h1,h2⟩:=lx h
   simp only[fw,bo,aA]at h2
   rw[vaj (by simpa using hA)]
   exact⟨h1,_,h2⟩
  ·rename_i hA
   rw[van (by simpa using hA)]
   have:=il h
   rw[ho,hd]at this
   exact this
 case h_3 v d ho hd=>
  simp only[ho,hd]
  split at h
  ·rename_i e he
   obtain⟨h1,h2⟩:=lx h
   simp only[bo,aA]at h2
   simp only[he]
   exact⟨h1,_,h2⟩
  ·rename_i he
   simp only[he]
   have:=il h
   rw[ho,hd]at this
   exact this
 case h_4 v d ho hd=>
  simp only[ho,hd]
  split at h
  ·rename_i e he
   obtain⟨h1,h2⟩:=lx h
   simp only[bo,aA]at h2
   simp only[he]
   exact⟨h1,_,h2⟩
  ·rename_i he
   simp only[he]
   have:=il h
   rw[ho,hd]at this
   exact this
 case h_5 t i d ho hd=>
  obtain⟨h1,h2⟩:=lx h
  rw[fw]at h2
  obtain⟨p,h3,h4⟩:=qh h2
  simp only[bo,aA]at h4
  simp only[ho,hd,h3]
  exact⟨h1,_,h4⟩
 case h_6 T len parts d ho hd=>
  obtain⟨h1,h2⟩:=lx h
  rw[kI]at h2
  split at h2
  ·rename_i p sc' e hu
   obtain⟨h3,h4⟩:=h2
   simp only[bo,aA]at h4
   simp only[ho,hd,h3,hu]
   exact⟨h1,_,h4⟩
  ·exact h2.elim
 case h_7 t y T T' d ho hd=>
  obtain⟨h1,h2⟩:=lx h
  rw[fw,bI]at h2
  split at h2
  ·rename_i es ns p sc' e he hn hu
   split at h2
   ·rename_i hc
    simp only[vae,vai]at hc
    obtain⟨h3,h4⟩:=h2
    simp only[bo,aA]at h4
    simp only[ho,hd,hu,he,hn,h3]
    exact⟨hc.1,h1,hc.2,_,h4⟩
   ·exact h2.elim
  ·exact h2.elim
 case h_8 T x d ho hd=>
  simp only[ho,hd]
  split at h
  ·rename_i hA
   obtain⟨h1,h2⟩:=lx h
   rw[bI]at h2
   rw[vaj (by simpa using hA)]
   split at h2
   ·rename_i i off e hx hu
    obtain⟨B,hB,h2⟩:=de h2
    split at h2
    ·rename_i cs own
     split at h2
     ·rename_i hc
      simp only[vae,vai]at hc
      simp only[fw,bo,aA]at h2
      have hget:cs[off]? =some (cs.getD off .undef):=by
       rw[vah,vab hc.2];rfl
      simp only[hx,hu,hB,hget]
      exact⟨h1,hc.1,_,h2⟩
     ·exact h2.elim
    ·exact h2.elim
   ·exact h2.elim
  ·rename_i hA
   rw[van (by simpa using hA)]
   have:=il h
   rw[ho,hd]at this
   exact this
 case h_9 T x t ho=>
  simp only[ho]
  split at h
  ·rename_i y e hf
   rw[bI,fw]at h
   simp only[hf]
   unfold EB at h
   split at h
   ·rename_i i off hx
    split at h
    ·rename_i H hst
     obtain⟨B,hB,h⟩:=de h
     split at h
     ·rename_i cs own
      split at h
      ·rename_i hone
       simp only[bo,aA,oo]at h
       simp only[hx,hst,hB,hone]
       exact⟨_,h⟩
      ·exact h.elim
     ·exact h.elim
    ·exact h.elim
   ·exact h.elim
  ·rename_i hf
   simp only[hf]
   have:=il h
   rw[ho]at this
   exact this
 case h_10=>
  have:=il h
  split
  all_goals first
   |exact this
   |(exfalso;simp_all;done)
   |(exfalso;simp_all;rename_i hx h1 h2;exact hx _ _ _ _ rfl rfl rfl rfl)
   |(exfalso;simp_all;rename_i hx h1 h2;exact hx _ _ _ _ _ rfl rfl rfl rfl rfl)
   |(exfalso;simp_all;rename_i hx h1 h2;exact hx _ _ _ rfl rfl rfl)
theorem xr{j:Nat}{want:Bool}{pos:Nat}{sc:List It}{st:av}{go:Bool->List It->av->Prop}(h:DP ops j want pos sc st go):
  ∃x,pp ops st.tmps j=some x/\((x=some want/\∃sc',go true sc' st)\/(x≠some want/\∃sc',go false sc' st)):=by
 unfold DP at h
 split at h
 ·exact h.elim
 ·rename_i t ht
  rw[fw]at h
  have hget:∀{p},st.tmps.getD t .undef=p->p≠.undef->st.tmps[t]? =some p:=by
   intro p hp hne
   rw[vah]at hp
   cases hx:st.tmps[t]? with
   |none=>rw[hx]at hp;exact absurd hp.symm hne
   |some q=>rw[hx]at hp;exact vbr some hp
  have hfin:∀(x:Bool) sc',go (x==want) sc' st->(some x=some want/\∃sc',go true sc' st)\/(some x≠some want/\∃sc',go false sc' st):=by
   intro x sc' hg
   cases x<;>cases want<;>simp at hg ⊢<;>exact⟨sc',hg⟩
  split at h
  ·rename_i x hp
   have hx:=hget hp (by simp)
   have hg:pp ops st.tmps j=some (some x):=by unfold pp;simp only[ht,hx]
   refine⟨_,hg,?_⟩
   split at h
   ·rename_i pos' b sc'
    split at h
    ·obtain⟨rfl,h⟩:=h
     rw[bo,AW hx]at h
     exact hfin x sc' h
    ·exact hfin x _ h
   ·exact hfin x _ h
  ·rename_i v hp
   have hx:=hget hp (by simp)
   split at h
   ·exact h.elim
   ·rename_i hb
    refine⟨none,?_,.inr ⟨by simp,_,h⟩⟩
    unfold pp
    simp only[ht,hx]
    cases v<;>simp[Ub]at hb<;>rfl
  ·exact h.elim
theorem Gw{o:Oper}{id:Nat}{sc:List It}{st:av}{K:List It->av->Prop}(h:DR P GE A o id sc st K):vO P GE A o id (fun st'=>∃sc',K sc' st') st:=by
 unfold DR at h
 split at h
 ·rename_i T parts p L sc' ho
  split at h
  ·rename_i d hd
   obtain⟨h1,h2⟩:=lx h
   rw[kI]at h2
   obtain⟨h3,h4,h5⟩:=h2
   simp only[bo,aA]at h5
   refine .inr (.inl ?_)
   unfold Fl
   simp only[ho,hd]
   exact⟨p,L,h3,h4,h1,sc',h5⟩
  ·exact h.elim
 ·rename_i T x t vs sc' ho
  rw[fw]at h
  split at h
  ·rename_i l hl
   split at h
   ·rename_i hd
    rw[bI]at h
    split at h
    ·rename_i i off hx
     rw[aA]at h
     obtain⟨rfl,h⟩:=h
     obtain⟨B,hB,h⟩:=de h
     split at h
     ·rename_i cs own
      split at h
      ·rename_i hc
       simp only[bo,aA]at h
       simp only[vae,vai]at hc
       obtain⟨⟨⟨⟨c1,c2⟩,c3⟩,c4⟩,c5⟩:=hc
       refine .inr (.inl ?_)
       unfold Fl
       simp only[ho,hd]
       have hi:=ak hB
       refine⟨i,off,st.boxes.set i (.cells (cs.take off++l++cs.drop (off+l.length)) (own.filter fun y=>y.1<off||off+l.length<=y.1)),_,_,Hh t st.own,l,hx,hl,?_,vag hi,fun y hy=>BT hy,kH c1,sc',?_⟩
       ·simp only[cY,bR,hB]
        rw[vaj ⟨c2,c3,c4,c5⟩]
       ·rw[vbW];exact h
      ·exact h.elim
     ·exact h.elim
    ·exact h.elim
   ·exact h.elim
  ·exact .inl (tr h)
 ·rename_i T x l sc' ho
  split at h
  ·rename_i fs hT
   split at h
   ·rename_i d hd
    obtain⟨h1,h⟩:=lx h
    rw[bI]at h
    split at h
    ·rename_i i off hx
     obtain⟨B,hB,h⟩:=de h
     split at h
     ·rename_i cs own
      obtain⟨h2,h⟩:=h
      rw[aA]at h
      split at h
      ·rename_i hn
       simp only[bo,aA]at h
       refine .inr (.inl ?_)
       unfold Fl
       simp only[ho,hd]
       have hlen:l.length=P.cellsOf T:=by
        have hp:=h2
        unfold ch at hp
        rw[hT]at hp
        simp only at hp
        split at hp
        ·rename_i hh;cases hp;rw[vaR];omega
        ·cases hp
       exact⟨i,off,cs,own,_,l,⟨fs,hT⟩,hx,hB,h2,fun y hy=>(wG hy).1,kH hn,fun y hy=>by rw[hlen];exact(wG hy).2,h1,sc',h⟩
      ·exact h.elim
     ·exact h.elim
    ·exact h.elim
   ·exact h.elim
  ·exact .inl (tr h)
 ·rename_i T x vs sc' ho
  split at h
  ·rename_i d hd
   obtain⟨h1,h⟩:=lx h
   rw[bI]at h
   obtain⟨h2,h⟩:=h
   simp only[bo,aA]at h
   refine .inr (.inl ?_)
   unfold Fl
   simp only[ho,hd]
   exact⟨vs,h2,h1,sc',h⟩
  ·exact h.elim
 ·rename_i f args tys c sc' ho
  split at h
  ·rename_i d hd
   obtain⟨h1,h⟩:=lx h
   obtain⟨H',h2,h3⟩:=xq h
   simp only[bo,aA]at h3
   refine .inr (.inl ?_)
   unfold Fl
   simp only[ho,hd]
   exact⟨c.r,c.ro,H',c.oa,h2,h1,sc',h3⟩
  ·exact h.elim
 ·rename_i t y T T' i e n cs sc' ho
  split at h
  ·rename_i d hd
   have hh:=lx h
   clear h
   obtain⟨h1,h⟩:=hh
   rw[fw,bI]at h
   split at h
   ·rename_i ns he hn
    split at h
    ·rename_i hc
     simp only[vae,vai]at hc
     obtain⟨⟨rfl,c2⟩,rfl⟩:=hc
     obtain⟨h2,⟨p,h3⟩,⟨rfl,rfl⟩,h4⟩:=h
     simp only[bo,aA,HY,aA]at h4
     refine .inr (.inr ?_)
     unfold KY
     simp only[ho,hd]
     exact⟨e,ns,p,trivial,h2,he,hn,h3,c2,h1,sc',h4⟩
    ·exact h.elim
   ·exact h.elim
  ·exact h.elim
 ·rename_i f x tys i e n cs sc' ho
  split at h
  ·rename_i d hd
   have hh:=lx h
   clear h
   obtain⟨h1,h⟩:=hh
   rw[bI,bI]at h
   split at h
   ·rename_i g ns hg hn
    split at h
    ·rename_i hc
     simp only[vai]at hc
     subst hc
     obtain⟨h2,⟨h3,h4,h5⟩,⟨rfl,rfl⟩,h6⟩:=h
     simp only[bo,aA,HY,aA]at h6
     refine .inr (.inr ?_)
     unfold KY
     simp only[ho,hd]
     exact⟨g,e,ns,hg,h2,hn,h3,h4,h5,h1,sc',h6⟩
    ·exact h.elim
   ·exact h.elim
  ·exact h.elim
 ·rename_i T x v i0 e n0 cs0 sc' ho
  split at h
  ·rename_i hd hv
   have hv':v=.slice none 0 0:=by
    unfold iQ at hv
    split at hv
    ·rfl
    ·cases hv
   subst hv'
   rw[bI,bI]at h
   split at h
   ·rename_i i off vs hx hpc
    obtain⟨B,hB,h⟩:=de h
    split at h
    ·rename_i cs own
     split at h
     ·rename_i hc
      simp only[bo,aA]at h
      simp only[vae,vai]at hc
      obtain⟨⟨⟨c2,c3⟩,c4⟩,c5⟩:=hc
      refine .inr (.inr ?_)
      unfold KY
      simp only[ho,hd]
      have hi:=ak hB
      refine⟨i,off,e,st.boxes.set i (.cells (cs.take off++vs++cs.drop (off+vs.length)) (own.filter fun y=>y.1<off||off+vs.length<=y.1)),_,_,trivial,hx,?_,vag hi,sc',?_⟩
      ·simp only[cY,hpc,hB]
       rw[vaj ⟨c2,c3,c4,c5⟩]
      ·rw[vbW];exact h
     ·exact h.elim
    ·exact h.elim
   ·exact h.elim
  ·exact h.elim
 ·exact .inl (tr h)
theorem vP{o:Oper}{id:Nat}{K K':av->Prop}{st:av}(hk:∀st,K st->K' st)(h:vO P GE A o id K st):vO P GE A o id K' st:=by
 rcases h with h|h|h
 ·exact .inl (K1 hk h)
 rotate_left
 ·refine .inr (.inr ?_)
  unfold KY at *
  split at h
  ·obtain⟨e,ns,p,h1,h2,h3,h4,h5,h6,h7,h8⟩:=h;exact⟨e,ns,p,h1,h2,h3,h4,h5,h6,h7,hk _ h8⟩
  ·obtain⟨g,e,ns,h1,h2,h3,h4,h5,h6,h7,h8⟩:=h;exact⟨g,e,ns,h1,h2,h3,h4,h5,h6,h7,hk _ h8⟩
  ·obtain⟨i,off,e,H,cs,own,h1,h2,h3,h4,h5⟩:=h;exact⟨i,off,e,H,cs,own,h1,h2,h3,h4,hk _ h5⟩
  ·exact h
 ·refine .inr (.inl ?_)
  unfold Fl at *
  split at h
  ·obtain⟨p,L,h1,h2,h3,h4⟩:=h;exact⟨p,L,h1,h2,h3,hk _ h4⟩
  ·obtain⟨i,off,H,cs,own,L,l,h1,h2,h3,h4,h5,h6,h7⟩:=h;exact⟨i,off,H,cs,own,L,l,h1,h2,h3,h4,h5,h6,hk _ h7⟩
  ·obtain⟨i,off,cs,own,L,l,h0,h1,h2,h3,h4,h5,h6,h7,h8⟩:=h;exact⟨i,off,cs,own,L,l,h0,h1,h2,h3,h4,h5,h6,h7,hk _ h8⟩
  ·obtain⟨vs,h1,h2,h3⟩:=h;exact⟨vs,h1,h2,hk _ h3⟩
  ·obtain⟨r,ro,H',oa,h1,h2,h3⟩:=h;exact⟨r,ro,H',oa,h1,h2,hk _ h3⟩
  ·exact h
theorem tq{K:List It->av->Prop}:∀(rest:List Oper) (pos id:Nat) (sc:List It) (st:av),EA P GE A ops K rest pos id sc st->cB P GE A ops (fun st=>∃sc,K sc st) rest id st
 |[],_,_,sc,st,h=>⟨sc,h⟩
 | o :: rest,pos,id,sc,st,h => by
  simp only[EA]at h
  have step:∀sc st,DR P GE A o id sc st (fun sc' st'=>EA P GE A ops K rest (pos+1) (id+if ay o.op then 1 else 0) sc' st')->vO P GE A o id (cB P GE A ops (fun st=>∃sc,K sc st) rest (id+if ay o.op then 1 else 0)) st:=
   fun sc st hs=>vP (fun st' hx=>by obtain⟨sc',hx⟩:=hx;exact tq rest _ _ sc' st' hx) (Gw hs)
  unfold cB
  split at h
  ·rename_i hg;simp only[hg];exact step _ _ h
  ·rename_i j want hg
   obtain⟨x,hx,hc⟩:=xr h
   simp only[hg,hx]
   rcases hc with⟨rfl,sc',hc⟩|⟨hne,sc',hc⟩
   ·exact⟨fun _=>step _ _ hc,fun hn=>absurd rfl hn⟩
   ·refine⟨fun he=>absurd he hne,fun _=>?_⟩
    simp only[oo]at hc
    exact tq rest _ _ sc' _ hc
end
end Go.Proofs.YtggeppllafbidaaGreatDoor
