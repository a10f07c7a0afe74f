/- PROVED: parts of the proof (SatB SatC). Conditions: none. -/
import Derived.Test.YtbaamopmfmpfaaaGreatDoorPkD5
noncomputable section
namespace Go.Proofs.YtbaamopmfmpfaaaGreatDoor
open Go
structure GC where
 ρ:List Nat
 argsC:List PVal
 oa:List OA
 Bs:List aF
 Hc:List aF
 Bs':List aF
 Hc':List aF
 r:PVal
 rc:PVal
 ro:List (Nat×TypeId)
inductive It where
 |cg (c:GC)
 |ar (i:Nat) (e:TypeId) (n:Nat) (cs:List PVal)
 |fz (i:Nat) (es:List (List PVal)) (lv rk:List Nat)
 |g (j:Nat) (b:Bool)
 |k
 |s
 |v (p:PVal)
 |x (cs:List PVal)
 |w (i:Nat) (B:aF)
 |c (r:PVal) (ro:List (Nat×TypeId))
 |dr (an:List Nat)
 |dx (an:List Nat) (X:List aF) (br:List (Nat×Nat)) (rw:List Nat)
 |pa (n:Nat)
 |pc (st0:az) (e:Exit) (st1:az)
 |b (p:PVal) (L:List (Nat×TypeId))
 |y (vs:List PVal)
 |z (l:List PVal)
 |e (vs:List PVal)
def wd:List PVal->Nat->(PVal->Prop)->Prop
 |[],_,k=>k .undef
 |p::_,0,k=>k p
 |_::l,n+1,k=>wd l n k
theorem g7:∀(l:List PVal) (n:Nat) (k:PVal->Prop),wd l n k=k (l.getD n .undef)
 |[],_,_=>by simp[wd]
 |_::_,0,_=>by simp[wd]
 |_::l,n+1,k=>by simp only[wd,g7 l n k,List.getD_cons_succ]
def fZ{α:Type}:List α->Nat->α->(List α->Prop)->Prop
 |[],_,_,k=>k []
 |_::l,0,v,k=>k (v::l)
 |x::l,n+1,v,k=>fZ l n v fun l'=>k (x::l')
theorem bG{α:Type}:∀(l:List α) (n:Nat) (v:α) (k:List α->Prop),fZ l n v k=k (l.set n v)
 |[],_,_,_=>by simp[fZ]
 |_::_,0,_,_=>by simp[fZ]
 |x::l,n+1,v,k=>by simp only[fZ,bG l n v,List.set_cons_succ]
def bD{α:Type}:List α->(List α->Prop)->Prop
 |[],k=>k []
 |x::l,k=>bD l fun l'=>k (x::l')
def NT(l:List aF)(r:List aF)(k:List aF->Prop):Prop:=bD (l++r) k
theorem aP{α:Type}:∀(l:List α) (k:List α->Prop),bD l k=k l
 |[],_=>rfl
 |x::l,k=>by simp only[bD,aP l]
def Zg:Value->(PVal->Prop)->Prop
 |.int a n,k=>k (.int a n)
 |.bool b,k=>k (.bool b)
 |.string s,k=>bD s.data.toList fun l=>k (.str l)
 |v,k=>k (absV v)
theorem Xm(v:Value)(k:PVal->Prop):Zg v k=k (absV v):=by
 unfold Zg
 split
 ·rfl
 ·rfl
 ·rw[aP];rfl
 ·rfl
def od(GE:List (Nat×List PVal))(tmps:List PVal)(x:Operand)(k:PVal->Prop):Prop:=
 match x with
 |.tmp t=>wd tmps t k
 |.const v=>Zg v k
 |x=>k (opv GE tmps x)
theorem bZ(GE:List (Nat×List PVal))(tmps:List PVal)(x:Operand)(k:PVal->Prop):od GE tmps x k=k (opv GE tmps x):=by
 cases x with
 |tmp t=>exact g7 _ _ _
 |const v=>exact Xm _ _
 |global g=>rfl
 |func f=>rfl
def L8(GE:List (Nat×List PVal))(tmps:List PVal):List Operand->(List PVal->Prop)->Prop
 |[],k=>k []
 |x::l,k=>od GE tmps x fun p=>L8 GE tmps l fun ps=>k (p::ps)
theorem sM(GE:List (Nat×List PVal))(tmps:List PVal):∀(l:List Operand) (k:List PVal->Prop),L8 GE tmps l k=k (l.map (opv GE tmps))
 |[],_=>rfl
 |x::l,k=>by simp only[L8,bZ,sM GE tmps l,vax]
def wj(GE:List (Nat×List PVal))(tmps:List PVal):List (Nat×Operand)->(List (Nat×PVal)->Prop)->Prop
 |[],k=>k []
 |x::l,k=>od GE tmps x.2 fun p=>wj GE tmps l fun ps=>k ((x.1,p)::ps)
theorem nW(GE:List (Nat×List PVal))(tmps:List PVal):∀(l:List (Nat×Operand)) (k:List (Nat×PVal)->Prop),wj GE tmps l k=k (l.map fun x=>(x.1,opv GE tmps x.2))
 |[],_=>rfl
 |x::l,k=>by simp only[wj,bZ,nW GE tmps l,vax]
def XU(GE:List (Nat×List PVal))(tmps:List PVal):Option Operand->(Option PVal->Prop)->Prop
 |none,k=>k none
 |some x,k=>od GE tmps x fun p=>k (some p)
theorem XV(GE:List (Nat×List PVal))(tmps:List PVal)(o:Option Operand)(k:Option PVal->Prop):XU GE tmps o k=k (o.map (opv GE tmps)):=by
 cases o with
 |none=>rfl
 |some x=>simp only[XU,bZ,vak]
def DR(sc:List It)(f:PVal->Prop)(K:PVal->List It->Prop):Prop:=
 match sc with
 |.v p::sc'=>f p/\K p sc'
 |_=>False
def LW(o:Option PVal)(K:PVal->Prop):Prop:=
 match o with
 |some p=>K p
 |none=>False
theorem u3{o:Option PVal}{K:PVal->Prop}(h:LW o K):∃p,o=some p/\K p:=by
 unfold LW at h
 split at h
 ·exact⟨_,rfl,h⟩
 ·exact h.elim
theorem lN{sc:List It}{f:PVal->Prop}{K:PVal->List It->Prop}(h:DR sc f K):∃p sc',f p/\K p sc':=by
 unfold DR at h
 split at h
 ·exact⟨_,_,h⟩
 ·exact h.elim
def CC(P:Program)(GE:List (Nat×List PVal))(g:FuncId)(args:List PVal)(r:PVal)(ro:List (Nat×TypeId)):Prop:=ii 0 args/\C P GE g args [] [] r ro []
def KE(P:Program)(t:TypeId)(es:List (PVal×PVal))(k:PVal)(ok:Bool):Option PVal:=
 match P.underlying t with
 | some (.map kt e) => match P.underlying kt with
  | some kd =>
   if ng kd k then
    match AS k es 0,GF P e with
    |some (some (_,v)),_=>some (if ok then .tuple [v,.bool true]else v)
    |some none,some z=>some (if ok then .tuple [z,.bool false]else z)
    |_,_=>none
   else none
  |_=>none
 |_=>none
theorem UF{P:Program}{t:TypeId}{es:List (PVal×PVal)}{k p:PVal}{ok:Bool}{H:List aF}{i:Nat}(hB:H[i]? =some (.map es))(h:KE P t es k ok=some p):u9 P t (.mapr i) k ok H=some p:=by
 unfold KE at h
 unfold u9
 split at h
 ·rename_i kt e hu
  split at h
  ·rename_i kd hk
   simp only[hu,hB,hk]
   exact h
  ·cases h
 ·cases h
def M2(P:Program)(t:TypeId)(es:List (PVal×PVal))(k v:PVal):Option (List (PVal×PVal)):=
 match P.underlying t with
 | some (.map kt _) => match P.underlying kt with
  | some kd =>
   if ng kd k then
    match AS k es 0 with
    |some (some (j,_))=>some (es.set j (k,v))
    |some none=>some (es++[(k,v)])
    |none=>none
   else none
  |_=>none
 |_=>none
theorem Qv{P:Program}{t:TypeId}{es es':List (PVal×PVal)}{k v:PVal}{H:List aF}{i:Nat}(hB:H[i]? =some (.map es))(h:M2 P t es k v=some es'):gv P t (.mapr i) k v H=some (H.set i (.map es')):=by
 unfold M2 at h
 unfold gv
 split at h
 ·rename_i kt e hu
  split at h
  ·rename_i kd hk
   simp only[hu,hB,hk]
   split at h
   ·rename_i hkk
    rw[vaj hkk]
    split at h
    ·rename_i hf;cases h;simp[hf]
    ·rename_i hf;cases h;simp[hf]
    ·cases h
   ·cases h
  ·cases h
 ·cases h
def kV:List aF->Nat->(aF->Prop)->Prop
 |[],_,_=>False
 |B::_,0,k=>k B
 |_::l,n+1,k=>kV l n k
theorem dO:∀{l:List aF} {n:Nat} {k:aF->Prop},kV l n k->∃B,l[n]? =some B/\k B
 |[],_,_,h=>h.elim
 |B::_,0,_,h=>⟨B,rfl,h⟩
 |_::l,n+1,k,h=>by simp only[kV]at h;obtain⟨B,h1,h2⟩:=dO h;exact⟨B,by simpa using h1,h2⟩
def T6(op:BinOp)(x:PVal):Bool:=match op,x with
 |.quo,_=>true
 |.rem,_=>true
 |.add,.str _=>true
 |_,.agg _=>true
 |_,_=>false
def SI(P:Program)(GE:List (Nat×List PVal))(op:Op)(tmps:List PVal)(H:List aF)(sc:List It)(K:PVal->List aF->List It->Prop):Prop:=
 match op with
 |.move x=>od GE tmps x fun p=>K p H sc
 |.assign x=>od GE tmps x fun p=>K p H sc
 |.pick c x y=>od GE tmps c fun pc=>match pc with
  |.bool true=>od GE tmps x fun p=>K p H sc
  |.bool false=>od GE tmps y fun p=>K p H sc
  |_=>False
 |.binOp op T x y _=>od GE tmps x fun vx=>od GE tmps y fun vy=>match T6 op vx with
  |true=>DR sc (fun p=>OO P op T vx vy=some p) fun p sc'=>K p H sc'
  |false=>LW (OO P op T vx vy) fun p=>K p H sc
 |.unOp op _ x=>od GE tmps x fun vx=>LW (qb4 op vx) fun p=>K p H sc
 |.convert s d x=>od GE tmps x fun vx=>DR sc (fun p=>Ta P s d vx=some p) fun p sc'=>K p H sc'
 |.extract t i=>od GE tmps t fun vt=>LW (tY vt i) fun p=>K p H sc
 |.nilCheck x=>od GE tmps x fun vx=>match vx with
  |.eptr cs=>K (.eptr cs) H sc
  |.bptr i off=>K (.bptr i off) H sc
  |.func (.func f) first cap=>K (.func (.func f) first cap) H sc
  |_=>False
 |.makeFunc fn first cap=>L8 GE tmps first.toList fun f=>L8 GE tmps cap.toList fun c=>K (.func fn f c) H sc
 | .load t x => od GE tmps x fun vx => match vx with
  |.eptr cs=>DR sc (fun p=>aS P t cs=some p) fun p sc'=>K p H sc'
  | .bptr i off => kV H i fun B => match B with
   |.cells cs _=>match sc with
    |.s::sc'=>LW (aS P t (cs.drop off)) fun p=>K p H sc'
    |.v p::sc'=>aS P t (cs.drop off)=some p/\K p H sc'
    |_=>False
   |_=>False
  |_=>False
 | .store t x y => od GE tmps x fun vx => od GE tmps y fun vy => match vx,sc with
  | .bptr i off,.s :: sc' => match bQ vy with
   | some vs => kV H i fun B => match B with
    |.cells cs own=>match decide (vs.length=P.cellsOf t)&&(P.info? t).isSome&&decide (off+vs.length<=cs.length)&&vs.all PVal.one with
     |true=>bD (cs.take off++vs++cs.drop (off+vs.length)) fun cs'=>fZ H i (.cells cs' (own.filter fun y=>y.1<off||off+vs.length<=y.1)) fun H'=>K (.val undef) H' sc'
     |false=>False
    |_=>False
   |none=>False
  | .bptr i off,.x vs :: sc' => bQ vy = some vs∧(kV H i fun B => match B with
    |.cells cs own=>match decide (vs.length=P.cellsOf t)&&(P.info? t).isSome&&decide (off+vs.length<=cs.length)&&vs.all PVal.one with
     |true=>bD (cs.take off++vs++cs.drop (off+vs.length)) fun cs'=>fZ H i (.cells cs' (own.filter fun y=>y.1<off||off+vs.length<=y.1)) fun H'=>K (.val undef) H' sc'
     |false=>False
    |_=>False)
  |.bptr i off,.w _ (.cells cs' own')::sc'=>kV H i fun B=>(dH P t (.bptr 0 off) vy [B]=some [.cells cs' own'])/\fZ H i (.cells cs' own') fun H'=>K (.val undef) H' sc'
  |_,_=>False
 |.fieldAddr s x f=>od GE tmps x fun vx=>match vx with
  |.bptr i off=>LW (aB P s (.bptr i off) f) fun p=>K p H sc
  |vx=>DR sc (fun p=>aB P s vx f=some p) fun p sc'=>K p H sc'
 |.field t x f=>od GE tmps x fun vx=>DR sc (fun p=>Kz P t vx f=some p) fun p sc'=>K p H sc'
 |.indexAddr t x i=>od GE tmps x fun vx=>od GE tmps i fun vi=>DR sc (fun p=>lc P t vx vi=some p) fun p sc'=>K p H sc'
 |.index t x i=>od GE tmps x fun vx=>od GE tmps i fun vi=>DR sc (fun p=>Gw P t vx vi=some p) fun p sc'=>K p H sc'
 | .lookup t m k ok => od GE tmps m fun vm => od GE tmps k fun vk => match vm with
  |.mapr i=>kV H i fun B=>match B with
   |.map es=>DR sc (fun p=>KE P t es vk ok=some p) fun p sc'=>K p H sc'
   |_=>False
  |_=>False
 | .mapUpdate t m k x => od GE tmps m fun vm => od GE tmps k fun vk => od GE tmps x fun vx => match vm,sc with
  |.mapr i,.w _ (.map es')::sc'=>kV H i fun B=>match B with
   |.map es=>M2 P t es vk vx=some es'/\fZ H i (.map es') fun H'=>K (.val undef) H' sc'
   |_=>False
  |_,_=>False
 |.slice t x lo hi none=>od GE tmps x fun vx=>XU GE tmps lo fun vl=>XU GE tmps hi fun vh=>DR sc (fun p=>A1 P t vx vl vh none=some p) fun p sc'=>K p H sc'
 |.build t parts=>wj GE tmps parts.toList fun ps=>DR sc (fun p=>cX P t ps=some p) fun p sc'=>K p H sc'
 |.buildSlice t len parts=>wj GE tmps parts.toList fun ps=>DR sc (fun p=>ft P t len ps=some p) fun p sc'=>K p H sc'
 | .call { callee := .builtin .len,args:=⟨[x]⟩,argTypes:=⟨[t]⟩ } => od GE tmps x fun vx => match vx with
  |.mapr i=>kV H i fun B=>match B with
   |.map es=>DR sc (fun p=>p=.int .i64 es.length/\(P.underlying t).any (fun d=>match d with|.map _ _=>true|_=>false)=true) fun p sc'=>K p H sc'
   |_=>False
  |vx=>DR sc (fun p=>∀H,AU P t vx H=some p) fun p sc'=>K p H sc'
 |.call {callee:=.builtin .max,args:=⟨x::r⟩,..}=>od GE tmps x fun vx=>L8 GE tmps r fun vr=>LW (Hf Tf vx vr) fun p=>K p H sc
 |.call {callee:=.builtin .min,args:=⟨x::r⟩,..}=>od GE tmps x fun vx=>L8 GE tmps r fun vr=>LW (Hf Tg vx vr) fun p=>K p H sc
 |_=>False
section
variable{P:Program}{GE:List (Nat×List PVal)}
theorem UK{t:TypeId}{off i:Nat}{y:PVal}{H:List aF}{B:aF}{cs':List PVal}{own':List (Nat×TypeId)}(hB:H[i]? =some B)(h:dH P t (.bptr 0 off) y [B]=some [.cells cs' own']):
  dH P t (.bptr i off) y H=some (H.set i (.cells cs' own')):=by
 unfold dH at h ⊢
 split at h
 ·rename_i i' off' vs h1 h2
  cases h1
  simp only[h2]
  change (match(some B:Option aF)with|some (.cells cs own)=>_|_=>none)=_ at h
  rw[hB]
  split at h
  ·rename_i hb
   cases hb
   simp only
   split at h
   ·rename_i hc
    rw[vaj hc]
    simp only[List.set_cons_zero,vav,vbt,vcI]at h
    rw[h]
   ·cases h
  ·cases h
 ·cases h
theorem WB(t:TypeId)(id:Nat)(v:Operand->PVal)(x:Operand)(H:List aF):qX P (.load t x) id v H=(lQ P t (v x) H).map fun p=>(p,H):=rfl
theorem G7{op:Op}{id:Nat}{tmps:List PVal}{H:List aF}{sc:List It}{K:PVal->List aF->List It->Prop}(h:SI P GE op tmps H sc K):
  ∃p H' sc',qX P op id (opv GE tmps) H=some (p,H')/\K p H' sc'/\H'.length=H.length:=by
 unfold SI at h
 split at h
 case h_1=>rw[bZ]at h;exact⟨_,_,_,rfl,h,rfl⟩
 case h_2=>rw[bZ]at h;exact⟨_,_,_,rfl,h,rfl⟩
 case h_3 c x y=>
  rw[bZ]at h
  split at h
  ·rename_i hc;rw[bZ]at h;exact⟨_,_,_,by simp only[qX,hc],h,rfl⟩
  ·rename_i hc;rw[bZ]at h;exact⟨_,_,_,by simp only[qX,hc],h,rfl⟩
  ·exact h.elim
 case h_4=>
  simp only[bZ]at h
  split at h
  ·obtain⟨p,sc',h1,h2⟩:=lN h;exact⟨p,_,sc',by simp only[qX,h1,vak],h2,rfl⟩
  ·obtain⟨p,h1,h2⟩:=u3 h;exact⟨p,_,_,by simp only[qX,h1,vak],h2,rfl⟩
 case h_5=>simp only[bZ]at h;obtain⟨p,h1,h2⟩:=u3 h;exact⟨p,_,_,by simp only[qX,h1,vak],h2,rfl⟩
 case h_6=>simp only[bZ]at h;obtain⟨p,sc',h1,h2⟩:=lN h;exact⟨p,_,sc',by simp only[qX,h1,vak],h2,rfl⟩
 case h_7=>simp only[bZ]at h;obtain⟨p,h1,h2⟩:=u3 h;exact⟨p,_,_,by simp only[qX,h1,vak],h2,rfl⟩
 case h_8=>
  simp only[bZ]at h
  split at h
  ·rename_i hv;exact⟨_,_,_,by simp only[qX,hv],h,rfl⟩
  ·rename_i hv;exact⟨_,_,_,by simp only[qX,hv],h,rfl⟩
  ·rename_i hv;exact⟨_,_,_,by simp only[qX,hv],h,rfl⟩
  ·exact h.elim
 case h_9=>simp only[sM]at h;exact⟨_,_,_,rfl,h,rfl⟩
 case h_10 t x=>
  simp only[bZ]at h
  rw[WB]
  split at h
  ·rename_i cs hv
   obtain⟨p,sc',h1,h2⟩:=lN h
   exact⟨p,_,sc',by simp only[hv,lQ,h1,vak],h2,rfl⟩
  ·rename_i i off hv
   obtain⟨B,hB,h⟩:=dO h
   split at h
   ·rename_i cs own
    split at h
    ·obtain⟨p,h1,h2⟩:=u3 h
     exact⟨p,_,_,by simp only[hv,lQ,hB,h1,vak],h2,rfl⟩
    ·exact⟨_,_,_,by simp only[hv,lQ,hB,h.1,vak],h.2,rfl⟩
    ·exact h.elim
   ·exact h.elim
  ·exact h.elim
 case h_11 t x y=>
  simp only[bZ]at h
  split at h
  ·rename_i i off sc' hv
   split at h
   ·rename_i vs hvs
    obtain⟨B,hB,h⟩:=dO h
    split at h
    ·rename_i cs own
     split at h
     ·rename_i hc
      simp only[aP,bG]at h
      simp only[vag,vam]at hc
      exact⟨_,_,_,by simp only[qX,dH,hv,hvs,hB];rw[vaj ⟨hc.1.1.1,hc.1.1.2,hc.1.2,hc.2⟩];rfl,h,by simp⟩
     ·exact h.elim
    ·exact h.elim
   ·exact h.elim
  ·rename_i i off vs sc' hv
   obtain⟨hvs,h⟩:=h
   obtain⟨B,hB,h⟩:=dO h
   split at h
   ·rename_i cs own
    split at h
    ·rename_i hc
     simp only[aP,bG]at h
     simp only[vag,vam]at hc
     exact⟨_,_,_,by simp only[qX,dH,hv,hvs,hB];rw[vaj ⟨hc.1.1.1,hc.1.1.2,hc.1.2,hc.2⟩];rfl,h,by simp⟩
    ·exact h.elim
   ·exact h.elim
  ·rename_i i off j cs' own' sc' hv
   obtain⟨B,hB,h1,h2⟩:=dO h
   rw[bG]at h2
   exact⟨_,_,_,by simp only[qX,hv,UK hB h1];rfl,h2,by simp⟩
  ·exact h.elim
 case h_12=>
  simp only[bZ]at h
  split at h
  ·rename_i hv
   obtain⟨p,h1,h2⟩:=u3 h;exact⟨p,_,_,by simp only[qX,hv,h1,vak],h2,rfl⟩
  ·obtain⟨p,sc',h1,h2⟩:=lN h;exact⟨p,_,sc',by simp only[qX,h1,vak],h2,rfl⟩
 case h_13=>simp only[bZ]at h;obtain⟨p,sc',h1,h2⟩:=lN h;exact⟨p,_,sc',by simp only[qX,h1,vak],h2,rfl⟩
 case h_14=>simp only[bZ]at h;obtain⟨p,sc',h1,h2⟩:=lN h;exact⟨p,_,sc',by simp only[qX,h1,vak],h2,rfl⟩
 case h_15=>simp only[bZ]at h;obtain⟨p,sc',h1,h2⟩:=lN h;exact⟨p,_,sc',by simp only[qX,h1,vak],h2,rfl⟩
 case h_16 t m k ok=>
  simp only[bZ]at h
  split at h
  ·rename_i i hv
   obtain⟨B,hB,h⟩:=dO h
   split at h
   ·rename_i es
    obtain⟨p,sc',h1,h2⟩:=lN h
    exact⟨p,_,sc',by simp only[qX,hv,UF hB h1,vak],h2,rfl⟩
   ·exact h.elim
  ·exact h.elim
 case h_17 t m k x=>
  simp only[bZ]at h
  split at h
  ·rename_i i j es' sc' hv
   obtain⟨B,hB,h⟩:=dO h
   split at h
   ·rename_i es
    obtain⟨h1,h2⟩:=h
    rw[bG]at h2
    exact⟨_,_,_,by simp only[qX,hv,Qv hB h1];rfl,h2,by simp⟩
   ·exact h.elim
  ·exact h.elim
 case h_18=>simp only[bZ,XV]at h;obtain⟨p,sc',h1,h2⟩:=lN h;exact⟨p,_,sc',by simp only[qX,h1,vak],h2,rfl⟩
 case h_19=>simp only[nW]at h;obtain⟨p,sc',h1,h2⟩:=lN h;exact⟨p,_,sc',by simp only[qX,h1,vak],h2,rfl⟩
 case h_20=>simp only[nW]at h;obtain⟨p,sc',h1,h2⟩:=lN h;exact⟨p,_,sc',by simp only[qX,h1,vak],h2,rfl⟩
 case h_21 x t=>
  simp only[bZ]at h
  split at h
  ·rename_i i hv
   obtain⟨B,hB,h⟩:=dO h
   split at h
   ·rename_i es
    obtain⟨p,sc',⟨rfl,h1⟩,h2⟩:=lN h
    refine⟨_,_,sc',?_,h2,rfl⟩
    simp only[qX,hv,AU]
    cases hu:P.underlying t with
    |none=>rw[hu]at h1;cases h1
    |some d=>
     rw[hu]at h1
     cases d<;>simp at h1
     simp only[hB,vak]
   ·exact h.elim
  ·obtain⟨p,sc',h1,h2⟩:=lN h;exact⟨p,_,sc',by simp only[qX,h1 H,vak],h2,rfl⟩
 case h_22=>simp only[bZ,sM]at h;obtain⟨p,h1,h2⟩:=u3 h;exact⟨p,_,_,by simp only[qX,h1,vak],h2,rfl⟩
 case h_23=>simp only[bZ,sM]at h;obtain⟨p,h1,h2⟩:=u3 h;exact⟨p,_,_,by simp only[qX,h1,vak],h2,rfl⟩
 case h_24=>exact h.elim
end
def Mg(st:az)(dst:Option Tmp)(p:PVal)(ro:List (Nat×TypeId))(H:List aF)(K:az->Prop):Prop:=
 match dst with
 |some d=>fZ st.tmps d p fun tm=>bD ((ro.map fun x=>((d,x.1),x.2))++bY d st.own) fun ow=>K ⟨tm,H,ow⟩
 |none=>K ⟨st.tmps,H,st.own⟩
theorem sP(st:az)(dst:Option Tmp)(p:PVal)(ro:List (Nat×TypeId))(H:List aF)(K:az->Prop):Mg st dst p ro H K=K (wn st dst p ro H):=by
 cases dst with
 |none=>rfl
 |some d=>simp only[Mg,bG,aP,wn]
def RB(P:Program)(GE:List (Nat×List PVal))(f:Operand)(args:List Operand)(tmps:List PVal)(sc:List It)(K:PVal->List (Nat×TypeId)->List It->Prop):Prop:=
 od GE tmps f fun vf=>match vf with
  |.func (.func g) first cap=>L8 GE tmps args fun as=>match sc with
   |.c r ro::sc'=>CC P GE g (first++as++cap) r ro/\K r ro sc'
   |_=>False
  |_=>False
def uY(P:Program)(GE:List (Nat×List PVal))(o:Oper)(id:Nat)(sc:List It)(st:az)(K:List It->az->Prop):Prop:=
 match nx o st.tmps.length with
 |false=>False
 | true => match o.op with
  |.call {callee:=.value f,args,..}=>RB P GE f args.toList st.tmps sc fun r ro sc'=>Mg st o.dst r ro st.boxes fun st'=>K sc' st'
  |.alloc t=>match sc with
   |.x zs::sc'=>jI P t=some zs/\bD (QB P t) fun ow=>fZ st.boxes id (.cells zs ow) fun H=>Mg st o.dst (.bptr id 0) [] H fun st'=>K sc' st'
   |_=>False
  |.box _ x=>od GE st.tmps x fun vx=>match sc with
   |.x cs::sc'=>bQ vx=some cs/\fZ st.boxes id (.cells cs []) fun H=>Mg st o.dst (.bptr id 0) [] H fun st'=>K sc' st'
   |_=>False
  |.makeMap _ none=>fZ st.boxes id (.map []) fun H=>Mg st o.dst (.mapr id) [] H fun st'=>K sc st'
  |op=>SI P GE op st.tmps st.boxes sc fun p H sc'=>Mg st o.dst p [] H fun st'=>K sc' st'
def QZ(n d:Nat)(K:Prop):Prop:=match decide (d<n)with
 |true=>K
 |false=>False
theorem oQ{n d:Nat}{K:Prop}(h:QZ n d K):d<n/\K:=by
 unfold QZ at h
 split at h
 ·rename_i hd;exact⟨by simpa using hd,h⟩
 ·exact h.elim
def JW(P:Program)(st:az)(T e:TypeId)(t:Nat)(dst:Option Tmp)(vx vt:PVal)(sc:List It)(K:List It->az->Prop):Prop:=
 match vx with
 | .bptr i off => match dH P T (.bptr i off) vt st.boxes with
  | some H => kV H i fun B => match B with
   |.cells cs own=>match vt.one with
    |true=>bD cs fun cs'=>fZ H i (.cells cs' ((off,e)::own)) fun H'=>Mg {st with own:=st.own.filter fun x=>x.1 !=(t,0)} dst (.val undef) [] H' fun st'=>K sc st'
    |false=>False
   |_=>False
  |none=>False
 |_=>False
def JX(P:Program)(GE:List (Nat×List PVal))(A:List Nat)(o:Oper)(id:Nat)(sc:List It)(st:az)(K:List It->az->Prop):Prop:=
 match o.op,o.dst with
 |.assign (.tmp t),some d=>QZ st.tmps.length d (wd st.tmps t fun p=>fZ st.tmps d p fun tm=>bD (iq d (fun x=>if x.1=t then(d,x.2)else x) st.own) fun ow=>K sc ⟨tm,st.boxes,ow⟩)
 |.move (.tmp t),some d=>match decide (d∈A)with
  |true=>QZ st.tmps.length d (wd st.tmps t fun p=>fZ st.tmps d p fun tm=>bD (iq d (fun x=>if x.1=t then(d,x.2)else x) st.own) fun ow=>K sc ⟨tm,st.boxes,ow⟩)
  |false=>uY P GE o id sc st K
 |.assign (.const v),some d=>match sL P o.type v with
  |some e=>QZ st.tmps.length d (fZ st.tmps d (.slice []) fun tm=>bD (((d,0),e)::bY d st.own) fun ow=>K sc ⟨tm,st.boxes,ow⟩)
  |none=>uY P GE o id sc st K
 |.move (.const v),some d=>match sL P o.type v with
  |some e=>QZ st.tmps.length d (fZ st.tmps d (.slice []) fun tm=>bD (((d,0),e)::bY d st.own) fun ow=>K sc ⟨tm,st.boxes,ow⟩)
  |none=>uY P GE o id sc st K
 |.extract (.tmp t) i,some d=>QZ st.tmps.length d (wd st.tmps t fun vt=>LW (tY vt i) fun p=>fZ st.tmps d p fun tm=>bD (iq d (fun x=>if x=(t,i)then(d,0)else x) st.own) fun ow=>K sc ⟨tm,st.boxes,ow⟩)
 |.buildSlice T len parts,some d=>QZ st.tmps.length d (wj GE st.tmps parts.toList fun ps=>match sc,P.underlying T with
  |.v p::sc',some (.slice e)=>ft P T len ps=some p/\fZ st.tmps d p fun tm=>bD (((d,0),e)::bY d st.own) fun ow=>K sc' ⟨tm,st.boxes,ow⟩
  |_,_=>False)
 | .call { callee := .builtin .append,args:=⟨[.tmp t,y]⟩,argTypes:=⟨[T,T']⟩ },some d => QZ st.tmps.length d (wd st.tmps t fun ve => od GE st.tmps y fun vn => match ve,vn,sc,P.underlying T with
  |.slice es,.slice ns,.v p::sc',some (.slice e)=>match decide (T=T')&&decide (((t,0),e)∈st.own)with
   |true=>lI P T es ns=some p/\fZ st.tmps d p fun tm=>bD (((d,0),e)::bY d (st.own.filter fun x=>x.1 !=(t,0))) fun ow=>K sc' ⟨tm,st.boxes,ow⟩
   |false=>False
  |_,_,_,_=>False)
 | .load T x,some d => match decide (d ∈ A) with
  | true => QZ st.tmps.length d (od GE st.tmps x fun vx => match vx,P.underlying T with
   | .bptr i off,some (.slice e) => kV st.boxes i fun B => match B with
    |.cells cs own=>match decide ((off,e)∈own)&&decide (off<cs.length)with
     |true=>wd cs off fun p=>fZ st.tmps d p fun tm=>bD (own.filter fun x=>x.1 !=off) fun own'=>fZ st.boxes i (.cells cs own') fun H=>bD (((d,0),e)::bY d st.own) fun ow=>K sc ⟨tm,H,ow⟩
     |false=>False
    |_=>False
   |_,_=>False)
  |false=>uY P GE o id sc st K
 |.store T x (.tmp t),_=>match st.own.find? (fun y=>y.1==(t,0))with
  |some (_,e)=>od GE st.tmps x fun vx=>wd st.tmps t fun vt=>JW P st T e t o.dst vx vt sc K
  |none=>uY P GE o id sc st K
 |_,_=>uY P GE o id sc st K
def qdg:Value->Bool
 |.bool _=>true
 |_=>false
def IC(ops:Array Oper)(j:Nat)(want:Bool)(pos:Nat)(sc:List It)(st:az)(go:Bool->List It->az->Prop):Prop:=
 match(ops[j]?).bind (·.dst)with
 |none=>False
 | some t => wd st.tmps t fun p => match p with
  | .bool x => match sc with
   |.g pos' b::sc'=>match pos'==pos with
    |true=>x=b/\fZ st.tmps t (.bool b) fun tm=>go (b==want) sc' ⟨tm,st.boxes,st.own⟩
    |false=>go (x==want) sc st
   |_=>go (x==want) sc st
  |.val v=>match qdg v with
   |true=>False
   |false=>go false sc st
  |_=>False
def tW:List Nat->Bool
 |[]=>true
 |x::r=>!(r.contains x)&&tW r
theorem nV:∀{l:List Nat},tW l=true->l.Nodup
 |[],_=>.nil
 |x::r,h=>by
  simp only[tW,vag,va1,vcz,vbm]at h
  exact vbM.2 ⟨h.1,nV h.2⟩
def MU(t:Nat)(own:List ((Nat×Nat)×TypeId)):List (Nat×TypeId):=own.filterMap fun x=>if x.1.1==t then some (x.1.2,x.2)else none
theorem Gt{t:Nat}{own:List ((Nat×Nat)×TypeId)}{y:Nat×TypeId}(h:y∈MU t own):((t,y.1),y.2)∈own:=by
 unfold MU at h
 obtain⟨⟨⟨t',k⟩,e⟩,hx,he⟩:=vbL.1 h
 split at he
 ·rename_i ht
  simp only[va0]at ht
  cases he;subst ht;exact hx
 ·cases he
def S8(off n:Nat)(own:List (Nat×TypeId)):List (Nat×TypeId):=own.filterMap fun x=>if decide (off<=x.1)&&decide (x.1<off+n)then some (x.1 - off,x.2)else none
theorem BM{off n:Nat}{own:List (Nat×TypeId)}{y:Nat×TypeId}(h:y∈S8 off n own):(off+y.1,y.2)∈own/\y.1<n:=by
 unfold S8 at h
 obtain⟨⟨k,e⟩,hx,he⟩:=vbL.1 h
 split at he
 ·rename_i ht
  simp only[vag,vam]at ht
  cases he
  have:off+(k - off)=k:=by omega
  exact⟨by rw[this];exact hx,by simp only;omega⟩
 ·cases he
def NM(ρ:List Nat):List PVal->List PVal->Prop
 |[],[]=>True
 |p::ps,q::qs=>Fq ρ p q/\NM ρ ps qs
 |_,_=>False
theorem NM.len{ρ:List Nat}:∀{l r:List PVal},NM ρ l r->l.length=r.length
 |[],[],_=>rfl
 |[],_::_,h=>h.elim
 |_::_,[],h=>h.elim
 |_::_,_::_,h=>by simp[NM.len h.2]
theorem NM.get{ρ:List Nat}:∀{l r:List PVal},NM ρ l r->∀(i:Nat) p q,l[i]? =some p->r[i]? =some q->Fq ρ p q
 |[],[],_,i,p,q,hp,_=>by simp at hp
 |[],_::_,h,_,_,_,_,_=>h.elim
 |_::_,[],h,_,_,_,_,_=>h.elim
 |_::_,_::_,h,0,p,q,hp,hq=>by simp at hp hq;subst hp;subst hq;exact h.1
 |_::_,_::_,h,i+1,p,q,hp,hq=>NM.get h.2 i p q (by simpa using hp) (by simpa using hq)
def Va(ρ:List Nat):aF->aF->Prop
 |.cells cs own,.cells cs' own'=>own=own'/\NM ρ cs cs'
 |.map es,.map es'=>es=es'/\∀x∈es,x.1.cl 0/\x.2.cl 0
 |_,_=>False
theorem Va.to{ρ:List Nat}{B B':aF}(h:Va ρ B B'):j7 ρ B B':=by
 cases B<;>cases B'<;>simp only[Va]at h
 ·exact⟨h.1,h.2.len,h.2.get⟩
 ·obtain⟨rfl,h⟩:=h
  refine⟨rfl,fun i k u k' u' h1 h2=>?_⟩
  rw[h1]at h2;cases h2
  obtain⟨q1,q2⟩:=h _ (vaz h1)
  exact⟨.refl _ q1,.refl _ q2⟩
def ye(ρ:List Nat)(H:List aF):List Nat->List aF->List aF->Prop
 |[],[],[]=>True
 |j::js,B::Bs,Bc::Hc=>(kV H j fun B0=>LU B0 B=B/\Va ρ B Bc)/\ye ρ H js Bs Hc
 |_,_,_=>False
def Ka(ρ:List Nat):List aF->List aF->Prop
 |[],[]=>True
 |B::Bs,Bc::Hc=>Va ρ B Bc/\Ka ρ Bs Hc
 |_,_=>False
def Bb(H:List aF):List Nat->List aF->List aF
 |j::js,B::Bs=>Bb (H.set j B) js Bs
 |_,_=>H
def O0(H:List aF):List Nat->List aF->(List aF->Prop)->Prop
 |j::js,B::Bs,K=>fZ H j B fun H'=>O0 H' js Bs K
 |_,_,K=>K H
theorem BT:∀(H:List aF) (js:List Nat) (Bs:List aF) (K:List aF->Prop),O0 H js Bs K=K (Bb H js Bs)
 |H,[],_,K=>by cases ‹List aF›<;>rfl
 |H,_::_,[],K=>rfl
 |H,j::js,B::Bs,K=>by simp only[O0,bG,BT,Bb]
theorem GO:∀(H:List aF) (js:List Nat) (Bs:List aF),(Bb H js Bs).length=H.length
 |H,[],_=>by cases ‹List aF›<;>rfl
 |H,_::_,[]=>rfl
 |H,j::js,B::Bs=>by simp only[Bb,GO,vbv]
theorem wW:∀(H:List aF) (js:List Nat) (Bs:List aF) {j:Nat},j∉js->(Bb H js Bs)[j]? =H[j]?
 |H,[],Bs,_,_=>by cases Bs<;>rfl
 |H,_::_,[],_,_=>rfl
 |H,k::js,B::Bs,j,h=>by
  simp only[vaA,not_or]at h
  simp only[Bb]
  rw[wW _ js Bs h.2,var (Ne.symm h.1)]
theorem Ff:∀(H:List aF) (js:List Nat) (Bs:List aF),js.Nodup->js.length=Bs.length->(∀j∈js,j<H.length)->∀(i j:Nat) B,js[i]? =some j->Bs[i]? =some B->(Bb H js Bs)[j]? =some B
 |H,[],Bs,_,_,_,i,j,B,hj,_=>by simp at hj
 |H,_::_,[],_,hl,_,_,_,_,_,_=>by simp at hl
 | H,k :: js,B0 :: Bs,hn,hl,hlt,i,j,B,hj,hB => by
  obtain⟨hn1,hn2⟩:=vbM.1 hn
  simp only[Bb]
  cases i with
  |zero=>
   simp at hj hB;subst hj;subst hB
   rw[wW _ js Bs hn1,vai (hlt _ (by simp))]
  |succ i=>exact Ff _ js Bs hn2 (by simpa using hl) (fun x hx=>by rw[vbv];exact hlt x (by simp[hx])) i j B (by simpa using hj) (by simpa using hB)
theorem J9{ρ:List Nat}{H:List aF}:∀{js:List Nat} {Bs Hc:List aF},ye ρ H js Bs Hc->js.length=Bs.length/\Hc.length=js.length/\(∀j∈js,j<H.length)/\
  ∀(i j:Nat) B Bc,js[i]? =some j->Bs[i]? =some B->Hc[i]? =some Bc->(∃B0,H[j]? =some B0/\LU B0 B=B)/\j7 ρ B Bc
 |[],[],[],_=>⟨rfl,rfl,by simp,by simp⟩
 |[],_::_,_,h=>by simp[ye]at h
 |[],[],_::_,h=>by simp[ye]at h
 |_::_,[],_,h=>by simp[ye]at h
 |_::_,_::_,[],h=>by simp[ye]at h
 | k :: js,B :: Bs,Bc :: Hc,h => by
  obtain⟨h1,h2⟩:=h
  obtain⟨B0,hB0,h3,h4⟩:=dO h1
  obtain⟨k1,k2,k3,k4⟩:=J9 h2
  refine⟨by simp[k1],by simp[k2],fun j hj=>?_,fun i j b bc hj hb hbc=>?_⟩
  ·rcases vaA.1 hj with rfl|hj
   ·exact am hB0
   ·exact k3 j hj
  ·cases i with
   |zero=>simp at hj hb hbc;subst hj;subst hb;subst hbc;exact⟨⟨B0,hB0,h3⟩,h4.to⟩
   |succ i=>exact k4 i j b bc (by simpa using hj) (by simpa using hb) (by simpa using hbc)
theorem Ha{ρ:List Nat}:∀{Bs Hc:List aF},Ka ρ Bs Hc->Bs.length=Hc.length/\∀(i:Nat) B Bc,Bs[i]? =some B->Hc[i]? =some Bc->j7 ρ B Bc
 |[],[],_=>⟨rfl,by simp⟩
 |[],_::_,h=>h.elim
 |_::_,[],h=>h.elim
 |B::Bs,Bc::Hc,h=>by
  obtain⟨k1,k2⟩:=Ha h.2
  refine⟨by simp[k1],fun i b bc hb hbc=>?_⟩
  cases i with
  |zero=>simp at hb hbc;subst hb;subst hbc;exact h.1.to
  |succ i=>exact k2 i b bc (by simpa using hb) (by simpa using hbc)
def YR(t:Nat):Option Operand->Bool
 |some (.tmp u)=>u==t
 |_=>false
def VZ:Option Operand->Bool
 |some (.const v)=>kW v
 |_=>false
def Uj(n:Nat)(args:List Operand)(own:List ((Nat×Nat)×TypeId))(oa:List OA):Bool:=
 oa.all (fun x=>decide (n<=x.i)&&((VZ args[x.i - n]? &&x.k==0)||(decide (((x.t,x.k),x.e)∈own)&&YR x.t args[x.i - n]?)))&&oa.all fun x=>oa.all fun y=>!(x.t==y.t&&x.k==y.k)||x.i==y.i
def S2:aF->Bool
 |.dead=>false
 |_=>true
def uX(P:Program)(GE:List (Nat×List PVal))(f:Operand)(args:List Operand)(c:GC)(st:az)(K:List aF->Prop):Prop:=
 od GE st.tmps f fun vf=>match vf with
 | .func (.func g) first cap => L8 GE st.tmps args fun as => match tW c.ρ && Uj first.length args st.own c.oa && c.Bs.all S2 && decide (c.Bs'.length = c.ρ.length) with
  | true => C P GE g c.argsC (c.oa.map fun x => ((x.i,x.k),x.e)) c.Hc c.rc c.ro c.Hc'∧NM c.ρ (first ++ as ++ cap) c.argsC∧ye c.ρ st.boxes c.ρ c.Bs c.Hc∧Ka c.ρ c.Bs' c.Hc'∧Fq c.ρ c.r c.rc ∧
    O0 st.boxes c.ρ c.Bs' K
  |false=>False
 |_=>False
theorem CA{P:Program}{GE:List (Nat×List PVal)}{f:Operand}{args:List Operand}{c:GC}{st:az}{K:List aF->Prop}(h:uX P GE f args c st K):
  ∃H',Pl P GE f args st c.r c.ro H' c.oa/\K H':=by
 unfold uX at h
 rw[bZ]at h
 split at h
 ·rename_i g first cap hf
  rw[sM]at h
  split at h
  ·rename_i hb
   simp only[vag,vam]at hb
   obtain⟨⟨⟨b1,b2⟩,b3⟩,b4⟩:=hb
   obtain⟨h1,h2,h3,h4,h5,h6⟩:=h
   rw[BT]at h6
   have hn:=nV b1
   obtain⟨i1,i2,i3,i4⟩:=J9 h3
   obtain⟨o1,o2⟩:=Ha h4
   unfold Uj at b2
   rw[vag]at b2
   obtain⟨c1,c2⟩:=b2
   have hgetB:∀{i j:Nat},c.ρ[i]? =some j->∃B,c.Bs[i]? =some B:=fun{i j} hj=>⟨_,vab (by rw[<-i1];exact am hj)⟩
   have hgetH:∀{i j:Nat},c.ρ[i]? =some j->∃B,c.Hc[i]? =some B:=fun{i j} hj=>⟨_,vab (by rw[i2];exact am hj)⟩
   refine⟨_,⟨g,first,cap,c.argsC,c.ρ,Bb st.boxes c.ρ c.Bs,c.Hc,c.Hc',c.rc,hf,hn,h1,⟨GO _ _ _,fun i B hB=>?_⟩,⟨i2,fun i j hj=>?_⟩,⟨by rw[<-o1];exact b4,fun i j hj=>?_⟩,GO _ _ _,fun j hj=>by rw[wW _ _ _ hj,wW _ _ _ hj],h5,h2.len,h2.get,fun x hx=>?_,fun x hx y hy e1 e2=>?_⟩,h6⟩
   ·by_cases hi:i∈c.ρ
    ·obtain⟨k,hk⟩:=vbg.1 hi
     obtain⟨B1,hB1⟩:=hgetB hk
     obtain⟨Bc,hBc⟩:=hgetH hk
     obtain⟨⟨B0,hB0,hfg⟩,_⟩:=i4 k i B1 Bc hk hB1 hBc
     rw[Ff _ _ _ hn i1 i3 k i B1 hk hB1]at hB
     cases hB
     refine⟨B0,hB0,?_⟩
     rcases SJ B0 B with hx|hx|hx
     ·rw[hfg]at hx
      have:=vaw.1 b3 B (vaz hB1)
      rw[hx]at this;cases this
     ·rw[hfg]at hx;exact .inl hx
     ·rw[hfg]at hx;exact .inr hx
    ·rw[wW _ _ _ hi]at hB
     exact⟨B,hB,.inl rfl⟩
   ·obtain⟨B1,hB1⟩:=hgetB hj
    obtain⟨Bc,hBc⟩:=hgetH hj
    exact⟨B1,Bc,Ff _ _ _ hn i1 i3 i j B1 hj hB1,hBc,(i4 i j B1 Bc hj hB1 hBc).2⟩
   ·have hi:=am hj
    have e1:=vab (l:=c.Bs') (i:=i) (by omega)
    have e2:=vab (l:=c.Hc') (i:=i) (by omega)
    exact⟨_,_,Ff _ _ _ hn b4.symm i3 i j _ hj e1,e2,o2 i _ _ e1 e2⟩
   ·have:=vaw.1 c1 x hx
    simp only[vag,vbc,vam,va0]at this
    refine⟨x.i - first.length,by omega,?_⟩
    rcases this.2 with⟨h2,h3⟩|⟨h2,h3⟩
    ·left
     unfold VZ at h2
     split at h2
     ·rename_i v hv
      unfold kW at h2
      split at h2
      ·exact⟨hv,h3⟩
      ·cases h2
     ·cases h2
    ·right
     unfold YR at h3
     split at h3
     ·rename_i u hu
      simp only[va0]at h3
      subst h3;exact⟨h2,hu⟩
     ·cases h3
   ·have:=vaw.1 (vaw.1 c2 x hx) y hy
    simp only[vbc,va1,Bool.and_eq_false_iff,beq_eq_false_iff_ne,ne_eq,va0]at this
    rcases this with(hx|hx)|hx
    ·exact absurd e1 hx
    ·exact absurd e2 hx
    ·exact hx
  ·exact h.elim
 ·exact h.elim
def IE (P:Program) (GE:List (Nat×List PVal)) (A:List Nat) (o:Oper) (id:Nat) (sc:List It) (st:az) (K:List It→az→Prop):Prop :=
 match o.op,sc with
 |.build T parts,.b p L::sc'=>match o.dst with
  |some d=>QZ st.tmps.length d (wj GE st.tmps parts.toList fun ps=>cX P T ps=some p/\qY P T ps L/\fZ st.tmps d p fun tm=>bD ((L.map fun x=>((d,x.1),x.2))++bY d st.own) fun ow=>K sc' ⟨tm,st.boxes,ow⟩)
  |none=>False
 | .store T x (.tmp t),.y vs :: sc' => wd st.tmps t fun vt => match vt with
  | .agg l => match o.dst with
   | none => od GE st.tmps x fun vx => match vx with
    | .bptr i off => bD (MU t st.own) fun L => l = vs∧kV st.boxes i fun B => match B with
     | .cells cs own => match tW (L.map (·.1)) && decide (vs.length = P.cellsOf T) && (P.info? T).isSome && decide (off + vs.length ≤ cs.length) && vs.all PVal.one with
      | true => bD (cs.take off ++ vs ++ cs.drop (off + vs.length)) fun cs' => bD ((L.map fun y => (off + y.1,y.2)).reverse ++ own.filter fun y => y.1 < off || off + vs.length ≤ y.1) fun own' =>
        fZ st.boxes i (.cells cs' own') fun H=>bD (st.own.filter fun x=>!L.any fun y=>x.1==(t,y.1)) fun ow=>K sc' ⟨st.tmps,H,ow⟩
      |false=>False
     |_=>False
    |_=>False
   |some _=>False
  |_=>JX P GE A o id sc st K
 | .load T x,.z l :: sc' => match P.underlying T with
  | some (.struct _) => match o.dst with
   | some d => QZ st.tmps.length d (od GE st.tmps x fun vx => match vx with
    | .bptr i off => kV st.boxes i fun B => match B with
     | .cells cs own => aS P T (cs.drop off) = some (.agg l)∧bD (S8 off (P.cellsOf T) own) fun L => match tW (L.map (·.1)) with
      | true => fZ st.tmps d (.agg l) fun tm => bD (own.filter fun x => !L.any fun y => x.1 == off + y.1) fun own' => fZ st.boxes i (.cells cs own') fun H =>
        bD ((L.map fun y=>((d,y.1),y.2)).reverse++bY d st.own) fun ow=>K sc' ⟨tm,H,ow⟩
      |false=>False
     |_=>False
    |_=>False)
   |none=>False
  |_=>JX P GE A o id sc st K
 |.box _ x,.e vs::sc'=>match o.dst with
  |some d=>QZ st.tmps.length d (od GE st.tmps x fun vx=>bQ vx=some vs/\fZ st.tmps d (.eptr vs) fun tm=>bD (bY d st.own) fun ow=>K sc' ⟨tm,st.boxes,ow⟩)
  |none=>False
 |.call {callee:=.value f,args,..},.cg c::sc'=>match o.dst with
  |some d=>QZ st.tmps.length d (uX P GE f args.toList c st fun H=>fZ st.tmps d c.r fun tm=>bD ((c.ro.map fun x=>((d,x.1),x.2))++bY d (st.own.filter fun z=>!c.oa.any fun x=>z.1==(x.t,x.k))) fun ow=>K sc' ⟨tm,H,ow⟩)
  |none=>False
 | .call { callee := .builtin .append,args:=⟨[.tmp t,y]⟩,argTypes:=⟨[T,T']⟩ },.ar i e n cs :: sc' => match o.dst with
  | some d => QZ st.tmps.length d (wd st.tmps t fun ve => od GE st.tmps y fun vn => match ve,vn with
   | .slice [],.slice ns => match decide (T = T') && decide (((t,0),e) ∈ st.own) && decide (i = st.boxes.length) with
    | true => P.underlying T = some (.slice e)∧(∃ p,lI P T [] ns = some p)∧(n = ns.length∧cs = ns.flatten) ∧
      fZ st.tmps d (.bsl i 0 n) fun tm=>bD (bY d (st.own.filter fun x=>x.1 !=(t,0))) fun ow=>NT st.boxes [.cells cs []] fun H=>K sc' ⟨tm,H,ow⟩
    |false=>False
   |_,_=>False)
  |none=>False
 | .call { callee := .value f,args:=⟨[x]⟩,.. },.ar i e n cs :: sc' => match o.dst with
  | some d => QZ st.tmps.length d (od GE st.tmps f fun vf => od GE st.tmps x fun vn => match vf,vn with
   | .func (.func g) [] [],.slice ns => match decide (i = st.boxes.length) with
    | true => lS P g e∧(0 < P.cellsOf e∧(∀ x ∈ ns,x.length = P.cellsOf e∧∀ q ∈ x,q.one = true)∧ns.length ≤ ef)∧(n = ns.length∧cs = ns.flatten) ∧
      fZ st.tmps d (.bsl i 0 n) fun tm=>bD (bY d st.own) fun ow=>NT st.boxes [.cells cs []] fun H=>K sc' ⟨tm,H,ow⟩
    |false=>False
   |_,_=>False)
  |none=>False
 | .store T x (.const v),.ar _ e _ _ :: sc' => match o.dst,kW v with
  | none,true => od GE st.tmps x fun vx => od GE st.tmps (.const v) fun vy => match vx,bQ vy with
   | .bptr i off,some vs => kV st.boxes i fun B => match B with
    |.cells cs own=>match decide (vs.length=P.cellsOf T)&&(P.info? T).isSome&&decide (off+vs.length<=cs.length)&&vs.all PVal.one with
     |true=>bD (cs.take off++vs++cs.drop (off+vs.length)) fun cs'=>bD ((off,e)::own.filter fun y=>y.1<off||off+vs.length<=y.1) fun own'=>fZ st.boxes i (.cells cs' own') fun H=>K sc' ⟨st.tmps,H,st.own⟩
     |false=>False
    |_=>False
   |_,_=>False
  |_,_=>False
 |_,_=>JX P GE A o id sc st K
def JV(P:Program)(GE:List (Nat×List PVal))(A:List Nat)(ops:Array Oper)(K:List It->az->Prop):List Oper->Nat->Nat->List It->az->Prop
 |[],_,_,sc,st=>K sc st
 | o :: rest,pos,id,sc,st =>
  let step (sc:List It) (st:az):Prop:=IE P GE A o id sc st fun sc' st'=>JV P GE A ops K rest (pos+1) (id+if aK o.op then 1 else 0) sc' st'
  match o.guard with
  |none=>step sc st
  |some (j,want)=>IC ops j want pos sc st fun b sc' st'=>match b with
   |true=>step sc' st'
   |false=>Mg st' o.dst (.val undef) [] st'.boxes fun st''=>JV P GE A ops K rest (pos+1) (id+if aK o.op then 1 else 0) sc' st''
section
variable{P:Program}{GE:List (Nat×List PVal)}{A:List Nat}{ops:Array Oper}
theorem Oa{f:Operand}{args:List Operand}{tmps:List PVal}{H:List aF}{sc:List It}{K:PVal->List (Nat×TypeId)->List It->Prop}(h:RB P GE f args tmps sc K):
  DC P GE (opv GE tmps f) (args.map (opv GE tmps)) H fun r ro H'=>H'=H/\∃sc',K r ro sc':=by
 unfold RB at h
 rw[bZ]at h
 split at h
 ·rename_i g first cap hf
  rw[sM]at h
  split at h
  ·rename_i r ro sc'
   rw[hf]
   exact .inl ⟨h.1.1,r,ro,h.1.2,rfl,sc',h.2⟩
  ·exact h.elim
 ·exact h.elim
theorem BN{op:Op}{id:Nat}{v:Operand->PVal}{H H':List aF}{p:PVal}{K:PVal->List (Nat×TypeId)->List aF->Prop}(hn:∀f args tys,op≠.call {callee:=.value f,args,argTypes:=tys})
  (h:qX P op id v H=some (p,H')) (hk:K p [] H'):MV P GE op id v H K:=by
 unfold MV
 split
 ·rename_i f args tys;exact absurd rfl (hn _ _ _)
 ·rw[h];exact hk
theorem j1{o:Oper}{id:Nat}{sc:List It}{st:az}{K:List It->az->Prop}(h:uY P GE o id sc st K):
  nx o st.tmps.length=true/\MV P GE o.op id (opv GE st.tmps) st.boxes fun p ro H=>(fun st'=>∃sc',K sc' st') (wn st o.dst p ro H):=by
 unfold uY at h
 split at h
 ·exact h.elim
 ·rename_i hc
  refine⟨hc,?_⟩
  split at h
  ·rename_i f args tys ho
   have:=Oa (H:=st.boxes) h
   unfold MV
   simp only[ho]
   unfold DC at this ⊢
   split at this
   ·rcases this with⟨k1,r,ro,k2,_,sc',k3⟩|⟨ρ,argsC,Hc,rc,ro,Hc',H',r,k1,k2,k3,k4,k5,k6,k7,k8,k9,rfl,sc',k10⟩
    ·rw[sP]at k3;exact .inl ⟨k1,r,ro,k2,sc',k3⟩
    ·rw[sP]at k10;exact .inr ⟨ρ,argsC,Hc,rc,ro,Hc',_,r,k1,k2,k3,k4,k5,k6,k7,k8,k9,sc',k10⟩
   ·exact this.elim
  ·rename_i t ho
   split at h
   ·rename_i zs sc'
    obtain⟨h1,h2⟩:=h
    simp only[aP,bG,sP]at h2
    rw[ho]
    exact BN (by simp) (by simp only[qX,h1,vak]) ⟨sc',h2⟩
   ·exact h.elim
  ·rename_i t x ho
   rw[bZ]at h
   split at h
   ·rename_i cs sc'
    obtain⟨h1,h2⟩:=h
    simp only[bG,sP]at h2
    rw[ho]
    exact BN (by simp) (by simp only[qX,h1,vak]) ⟨sc',h2⟩
   ·exact h.elim
  ·rename_i t ho
   simp only[bG,sP]at h
   rw[ho]
   exact BN (by simp) (by simp only[qX]) ⟨_,h⟩
  ·rename_i n1 n2 n3 n4
   obtain⟨p,H',sc',k1,k2,_⟩:=G7 (id:=id) h
   rw[sP]at k2
   exact BN (fun f args tys e=>n1 f args tys e) k1 ⟨sc',k2⟩
theorem yb{o:Oper}{id:Nat}{sc:List It}{st:az}{K:List It->az->Prop}(h:JX P GE A o id sc st K):Hi P GE A o id (fun st'=>∃sc',K sc' st') st:=by
 unfold JX at h
 unfold Hi
 split at h
 case h_1 t d ho hd=>
  obtain⟨h1,h2⟩:=oQ h
  simp only[g7,bG,aP]at h2
  simp only[ho,hd]
  exact⟨h1,_,h2⟩
 case h_2 t d ho hd=>
  simp only[ho,hd]
  split at h
  ·rename_i hA
   obtain⟨h1,h2⟩:=oQ h
   simp only[g7,bG,aP]at h2
   rw[vaj (by simpa using hA)]
   exact⟨h1,_,h2⟩
  ·rename_i hA
   rw[van (by simpa using hA)]
   have:=j1 h
   rw[ho,hd]at this
   exact this
 case h_3 v d ho hd=>
  simp only[ho,hd]
  split at h
  ·rename_i e he
   obtain⟨h1,h2⟩:=oQ h
   simp only[bG,aP]at h2
   simp only[he]
   exact⟨h1,_,h2⟩
  ·rename_i he
   simp only[he]
   have:=j1 h
   rw[ho,hd]at this
   exact this
 case h_4 v d ho hd=>
  simp only[ho,hd]
  split at h
  ·rename_i e he
   obtain⟨h1,h2⟩:=oQ h
   simp only[bG,aP]at h2
   simp only[he]
   exact⟨h1,_,h2⟩
  ·rename_i he
   simp only[he]
   have:=j1 h
   rw[ho,hd]at this
   exact this
 case h_5 t i d ho hd=>
  obtain⟨h1,h2⟩:=oQ h
  rw[g7]at h2
  obtain⟨p,h3,h4⟩:=u3 h2
  simp only[bG,aP]at h4
  simp only[ho,hd,h3]
  exact⟨h1,_,h4⟩
 case h_6 T len parts d ho hd=>
  obtain⟨h1,h2⟩:=oQ h
  rw[nW]at h2
  split at h2
  ·rename_i p sc' e hu
   obtain⟨h3,h4⟩:=h2
   simp only[bG,aP]at h4
   simp only[ho,hd,h3,hu]
   exact⟨h1,_,h4⟩
  ·exact h2.elim
 case h_7 t y T T' d ho hd=>
  obtain⟨h1,h2⟩:=oQ h
  rw[g7,bZ]at h2
  split at h2
  ·rename_i es ns p sc' e he hn hu
   split at h2
   ·rename_i hc
    simp only[vag,vam]at hc
    obtain⟨h3,h4⟩:=h2
    simp only[bG,aP]at h4
    simp only[ho,hd,hu,he,hn,h3]
    exact⟨hc.1,h1,hc.2,_,h4⟩
   ·exact h2.elim
  ·exact h2.elim
 case h_8 T x d ho hd=>
  simp only[ho,hd]
  split at h
  ·rename_i hA
   obtain⟨h1,h2⟩:=oQ h
   rw[bZ]at h2
   rw[vaj (by simpa using hA)]
   split at h2
   ·rename_i i off e hx hu
    obtain⟨B,hB,h2⟩:=dO h2
    split at h2
    ·rename_i cs own
     split at h2
     ·rename_i hc
      simp only[vag,vam]at hc
      simp only[g7,bG,aP]at h2
      have hget:cs[off]? =some (cs.getD off .undef):=by
       rw[vac,vab hc.2];rfl
      simp only[hx,hu,hB,hget]
      exact⟨h1,hc.1,_,h2⟩
     ·exact h2.elim
    ·exact h2.elim
   ·exact h2.elim
  ·rename_i hA
   rw[van (by simpa using hA)]
   have:=j1 h
   rw[ho,hd]at this
   exact this
 case h_9 T x t ho=>
  simp only[ho]
  split at h
  ·rename_i y e hf
   rw[bZ,g7]at h
   simp only[hf]
   unfold JW at h
   split at h
   ·rename_i i off hx
    split at h
    ·rename_i H hst
     obtain⟨B,hB,h⟩:=dO h
     split at h
     ·rename_i cs own
      split at h
      ·rename_i hone
       simp only[bG,aP,sP]at h
       simp only[hx,hst,hB,hone]
       exact⟨_,h⟩
      ·exact h.elim
     ·exact h.elim
    ·exact h.elim
   ·exact h.elim
  ·rename_i hf
   simp only[hf]
   have:=j1 h
   rw[ho]at this
   exact this
 case h_10=>
  have:=j1 h
  split
  all_goals first
   |exact this
   |(exfalso;simp_all;done)
   |(exfalso;simp_all;rename_i hx h1 h2;exact hx _ _ _ _ rfl rfl rfl rfl)
   |(exfalso;simp_all;rename_i hx h1 h2;exact hx _ _ _ _ _ rfl rfl rfl rfl rfl)
   |(exfalso;simp_all;rename_i hx h1 h2;exact hx _ _ _ rfl rfl rfl)
theorem CB{j:Nat}{want:Bool}{pos:Nat}{sc:List It}{st:az}{go:Bool->List It->az->Prop}(h:IC ops j want pos sc st go):
  ∃x,tZ ops st.tmps j=some x/\((x=some want/\∃sc',go true sc' st)\/(x≠some want/\∃sc',go false sc' st)):=by
 unfold IC at h
 split at h
 ·exact h.elim
 ·rename_i t ht
  rw[g7]at h
  have hget:∀{p},st.tmps.getD t .undef=p->p≠.undef->st.tmps[t]? =some p:=by
   intro p hp hne
   rw[vac]at hp
   cases hx:st.tmps[t]? with
   |none=>rw[hx]at hp;exact absurd hp.symm hne
   |some q=>rw[hx]at hp;exact vbp some hp
  have hfin:∀(x:Bool) sc',go (x==want) sc' st->(some x=some want/\∃sc',go true sc' st)\/(some x≠some want/\∃sc',go false sc' st):=by
   intro x sc' hg
   cases x<;>cases want<;>simp at hg ⊢<;>exact⟨sc',hg⟩
  split at h
  ·rename_i x hp
   have hx:=hget hp (by simp)
   have hg:tZ ops st.tmps j=some (some x):=by unfold tZ;simp only[ht,hx]
   refine⟨_,hg,?_⟩
   split at h
   ·rename_i pos' b sc'
    split at h
    ·obtain⟨rfl,h⟩:=h
     rw[bG,Fh hx]at h
     exact hfin x sc' h
    ·exact hfin x _ h
   ·exact hfin x _ h
  ·rename_i v hp
   have hx:=hget hp (by simp)
   split at h
   ·exact h.elim
   ·rename_i hb
    refine⟨none,?_,.inr ⟨by simp,_,h⟩⟩
    unfold tZ
    simp only[ht,hx]
    cases v<;>simp[qdg]at hb<;>rfl
  ·exact h.elim
theorem LC{o:Oper}{id:Nat}{sc:List It}{st:az}{K:List It->az->Prop}(h:IE P GE A o id sc st K):A2 P GE A o id (fun st'=>∃sc',K sc' st') st:=by
 unfold IE at h
 split at h
 ·rename_i T parts p L sc' ho
  split at h
  ·rename_i d hd
   obtain⟨h1,h2⟩:=oQ h
   rw[nW]at h2
   obtain⟨h3,h4,h5⟩:=h2
   simp only[bG,aP]at h5
   refine .inr (.inl ?_)
   unfold KL
   simp only[ho,hd]
   exact⟨p,L,h3,h4,h1,sc',h5⟩
  ·exact h.elim
 ·rename_i T x t vs sc' ho
  rw[g7]at h
  split at h
  ·rename_i l hl
   split at h
   ·rename_i hd
    rw[bZ]at h
    split at h
    ·rename_i i off hx
     rw[aP]at h
     obtain⟨rfl,h⟩:=h
     obtain⟨B,hB,h⟩:=dO h
     split at h
     ·rename_i cs own
      split at h
      ·rename_i hc
       simp only[bG,aP]at h
       simp only[vag,vam]at hc
       obtain⟨⟨⟨⟨c1,c2⟩,c3⟩,c4⟩,c5⟩:=hc
       refine .inr (.inl ?_)
       unfold KL
       simp only[ho,hd]
       have hi:=am hB
       refine⟨i,off,st.boxes.set i (.cells (cs.take off++l++cs.drop (off+l.length)) (own.filter fun y=>y.1<off||off+l.length<=y.1)),_,_,MU t st.own,l,hx,hl,?_,vai hi,fun y hy=>Gt hy,nV c1,sc',?_⟩
       ·simp only[dH,bQ,hB]
        rw[vaj ⟨c2,c3,c4,c5⟩]
       ·rw[vbT];exact h
      ·exact h.elim
     ·exact h.elim
    ·exact h.elim
   ·exact h.elim
  ·exact .inl (yb h)
 ·rename_i T x l sc' ho
  split at h
  ·rename_i fs hT
   split at h
   ·rename_i d hd
    obtain⟨h1,h⟩:=oQ h
    rw[bZ]at h
    split at h
    ·rename_i i off hx
     obtain⟨B,hB,h⟩:=dO h
     split at h
     ·rename_i cs own
      obtain⟨h2,h⟩:=h
      rw[aP]at h
      split at h
      ·rename_i hn
       simp only[bG,aP]at h
       refine .inr (.inl ?_)
       unfold KL
       simp only[ho,hd]
       have hlen:l.length=P.cellsOf T:=by
        have hp:=h2
        unfold aS at hp
        rw[hT]at hp
        simp only at hp
        split at hp
        ·rename_i hh;cases hp;rw[vaN];omega
        ·cases hp
       exact⟨i,off,cs,own,_,l,⟨fs,hT⟩,hx,hB,h2,fun y hy=>(BM hy).1,nV hn,fun y hy=>by rw[hlen];exact(BM hy).2,h1,sc',h⟩
      ·exact h.elim
     ·exact h.elim
    ·exact h.elim
   ·exact h.elim
  ·exact .inl (yb h)
 ·rename_i T x vs sc' ho
  split at h
  ·rename_i d hd
   obtain⟨h1,h⟩:=oQ h
   rw[bZ]at h
   obtain⟨h2,h⟩:=h
   simp only[bG,aP]at h
   refine .inr (.inl ?_)
   unfold KL
   simp only[ho,hd]
   exact⟨vs,h2,h1,sc',h⟩
  ·exact h.elim
 ·rename_i f args tys c sc' ho
  split at h
  ·rename_i d hd
   obtain⟨h1,h⟩:=oQ h
   obtain⟨H',h2,h3⟩:=CA h
   simp only[bG,aP]at h3
   refine .inr (.inl ?_)
   unfold KL
   simp only[ho,hd]
   exact⟨c.r,c.ro,H',c.oa,h2,h1,sc',h3⟩
  ·exact h.elim
 ·rename_i t y T T' i e n cs sc' ho
  split at h
  ·rename_i d hd
   have hh:=oQ h
   clear h
   obtain⟨h1,h⟩:=hh
   rw[g7,bZ]at h
   split at h
   ·rename_i ns he hn
    split at h
    ·rename_i hc
     simp only[vag,vam]at hc
     obtain⟨⟨rfl,c2⟩,rfl⟩:=hc
     obtain⟨h2,⟨p,h3⟩,⟨rfl,rfl⟩,h4⟩:=h
     simp only[bG,aP,NT,aP]at h4
     refine .inr (.inr ?_)
     unfold Sd
     simp only[ho,hd]
     exact⟨e,ns,p,trivial,h2,he,hn,h3,c2,h1,sc',h4⟩
    ·exact h.elim
   ·exact h.elim
  ·exact h.elim
 ·rename_i f x tys i e n cs sc' ho
  split at h
  ·rename_i d hd
   have hh:=oQ h
   clear h
   obtain⟨h1,h⟩:=hh
   rw[bZ,bZ]at h
   split at h
   ·rename_i g ns hg hn
    split at h
    ·rename_i hc
     simp only[vam]at hc
     subst hc
     obtain⟨h2,⟨h3,h4,h5⟩,⟨rfl,rfl⟩,h6⟩:=h
     simp only[bG,aP,NT,aP]at h6
     refine .inr (.inr ?_)
     unfold Sd
     simp only[ho,hd]
     exact⟨g,e,ns,hg,h2,hn,h3,h4,h5,h1,sc',h6⟩
    ·exact h.elim
   ·exact h.elim
  ·exact h.elim
 ·rename_i T x v i0 e n0 cs0 sc' ho
  split at h
  ·rename_i hd hv
   have hv':v=.slice none 0 0:=by
    unfold kW at hv
    split at hv
    ·rfl
    ·cases hv
   subst hv'
   rw[bZ,bZ]at h
   split at h
   ·rename_i i off vs hx hpc
    obtain⟨B,hB,h⟩:=dO h
    split at h
    ·rename_i cs own
     split at h
     ·rename_i hc
      simp only[bG,aP]at h
      simp only[vag,vam]at hc
      obtain⟨⟨⟨c2,c3⟩,c4⟩,c5⟩:=hc
      refine .inr (.inr ?_)
      unfold Sd
      simp only[ho,hd]
      have hi:=am hB
      refine⟨i,off,e,st.boxes.set i (.cells (cs.take off++vs++cs.drop (off+vs.length)) (own.filter fun y=>y.1<off||off+vs.length<=y.1)),_,_,trivial,hx,?_,vai hi,sc',?_⟩
      ·simp only[dH,hpc,hB]
       rw[vaj ⟨c2,c3,c4,c5⟩]
      ·rw[vbT];exact h
     ·exact h.elim
    ·exact h.elim
   ·exact h.elim
  ·exact h.elim
 ·exact .inl (yb h)
theorem A3{o:Oper}{id:Nat}{K K':az->Prop}{st:az}(hk:∀st,K st->K' st)(h:A2 P GE A o id K st):A2 P GE A o id K' st:=by
 rcases h with h|h|h
 ·exact .inl (Sg hk h)
 rotate_left
 ·refine .inr (.inr ?_)
  unfold Sd at *
  split at h
  ·obtain⟨e,ns,p,h1,h2,h3,h4,h5,h6,h7,h8⟩:=h;exact⟨e,ns,p,h1,h2,h3,h4,h5,h6,h7,hk _ h8⟩
  ·obtain⟨g,e,ns,h1,h2,h3,h4,h5,h6,h7,h8⟩:=h;exact⟨g,e,ns,h1,h2,h3,h4,h5,h6,h7,hk _ h8⟩
  ·obtain⟨i,off,e,H,cs,own,h1,h2,h3,h4,h5⟩:=h;exact⟨i,off,e,H,cs,own,h1,h2,h3,h4,hk _ h5⟩
  ·exact h
 ·refine .inr (.inl ?_)
  unfold KL at *
  split at h
  ·obtain⟨p,L,h1,h2,h3,h4⟩:=h;exact⟨p,L,h1,h2,h3,hk _ h4⟩
  ·obtain⟨i,off,H,cs,own,L,l,h1,h2,h3,h4,h5,h6,h7⟩:=h;exact⟨i,off,H,cs,own,L,l,h1,h2,h3,h4,h5,h6,hk _ h7⟩
  ·obtain⟨i,off,cs,own,L,l,h0,h1,h2,h3,h4,h5,h6,h7,h8⟩:=h;exact⟨i,off,cs,own,L,l,h0,h1,h2,h3,h4,h5,h6,h7,hk _ h8⟩
  ·obtain⟨vs,h1,h2,h3⟩:=h;exact⟨vs,h1,h2,hk _ h3⟩
  ·obtain⟨r,ro,H',oa,h1,h2,h3⟩:=h;exact⟨r,ro,H',oa,h1,h2,hk _ h3⟩
  ·exact h
theorem ya{K:List It->az->Prop}:∀(rest:List Oper) (pos id:Nat) (sc:List It) (st:az),JV P GE A ops K rest pos id sc st->cY P GE A ops (fun st=>∃sc,K sc st) rest id st
 |[],_,_,sc,st,h=>⟨sc,h⟩
 | o :: rest,pos,id,sc,st,h => by
  simp only[JV]at h
  have step:∀sc st,IE P GE A o id sc st (fun sc' st'=>JV P GE A ops K rest (pos+1) (id+if aK o.op then 1 else 0) sc' st')->A2 P GE A o id (cY P GE A ops (fun st=>∃sc,K sc st) rest (id+if aK o.op then 1 else 0)) st:=
   fun sc st hs=>A3 (fun st' hx=>by obtain⟨sc',hx⟩:=hx;exact ya rest _ _ sc' st' hx) (LC hs)
  unfold cY
  split at h
  ·rename_i hg;simp only[hg];exact step _ _ h
  ·rename_i j want hg
   obtain⟨x,hx,hc⟩:=CB h
   simp only[hg,hx]
   rcases hc with⟨rfl,sc',hc⟩|⟨hne,sc',hc⟩
   ·exact⟨fun _=>step _ _ hc,fun hn=>absurd rfl hn⟩
   ·refine⟨fun he=>absurd he hne,fun _=>?_⟩
    simp only[sP]at hc
    exact ya rest _ _ sc' _ hc
end
end Go.Proofs.YtbaamopmfmpfaaaGreatDoor
