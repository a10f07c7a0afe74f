/- PROVED: parts of the proof (SatB SatC). Conditions: none. -/
import Derived.Test.YtbaamopmfmpfaaaGreatDoorPkA5
noncomputable section
namespace Go.Proofs.YtbaamopmfmpfaaaGreatDoor
open Go
structure GC where
 ρ:List Nat
 argsC:List PVal
 oa:List OA
 Bs:List aN
 Hc:List aN
 Bs':List aN
 Hc':List aN
 r:PVal
 rc:PVal
 ro:List (Nat×TypeId)
inductive It where
 |cg (c:GC)
 |ar (i:Nat) (e:TypeId) (n:Nat) (cs:List PVal)
 |fz (i:Nat) (es:List (List PVal)) (lv rk:List Nat)
 |g (j:Nat) (b:Bool)
 |k
 |s
 |v (p:PVal)
 |x (cs:List PVal)
 |w (i:Nat) (B:aN)
 |c (r:PVal) (ro:List (Nat×TypeId))
 |dr (an:List Nat)
 |dx (an:List Nat) (X:List aN) (br:List (Nat×Nat)) (rw:List Nat)
 |pa (n:Nat)
 |pc (st0:aA) (e:Exit) (st1:aA)
 |b (p:PVal) (L:List (Nat×TypeId))
 |y (vs:List PVal)
 |z (l:List PVal)
 |e (vs:List PVal)
def zX:List PVal->Nat->(PVal->Prop)->Prop
 |[],_,k=>k .undef
 |p::_,0,k=>k p
 |_::l,n+1,k=>zX l n k
theorem iX:∀(l:List PVal) (n:Nat) (k:PVal->Prop),zX l n k=k (l.getD n .undef)
 |[],_,_=>by simp[zX]
 |_::_,0,_=>by simp[zX]
 |_::l,n+1,k=>by simp only[zX,iX l n k,List.getD_cons_succ]
def gO{α:Type}:List α->Nat->α->(List α->Prop)->Prop
 |[],_,_,k=>k []
 |_::l,0,v,k=>k (v::l)
 |x::l,n+1,v,k=>gO l n v fun l'=>k (x::l')
theorem bU{α:Type}:∀(l:List α) (n:Nat) (v:α) (k:List α->Prop),gO l n v k=k (l.set n v)
 |[],_,_,_=>by simp[gO]
 |_::_,0,_,_=>by simp[gO]
 |x::l,n+1,v,k=>by simp only[gO,bU l n v,List.set_cons_succ]
def bP{α:Type}:List α->(List α->Prop)->Prop
 |[],k=>k []
 |x::l,k=>bP l fun l'=>k (x::l')
def UI(l:List aN)(r:List aN)(k:List aN->Prop):Prop:=bP (l++r) k
theorem bk{α:Type}:∀(l:List α) (k:List α->Prop),bP l k=k l
 |[],_=>rfl
 |x::l,k=>by simp only[bP,bk l]
def qgm:Value->(PVal->Prop)->Prop
 |.int a n,k=>k (.int a n)
 |.bool b,k=>k (.bool b)
 |.string s,k=>bP s.data.toList fun l=>k (.str l)
 |v,k=>k (absV v)
theorem qet(v:Value)(k:PVal->Prop):qgm v k=k (absV v):=by
 unfold qgm
 split
 ·rfl
 ·rfl
 ·rw[bk];rfl
 ·rfl
def qy(GE:List (Nat×List PVal))(tmps:List PVal)(x:Operand)(k:PVal->Prop):Prop:=
 match x with
 |.tmp t=>zX tmps t k
 |.const v=>qgm v k
 |x=>k (opv GE tmps x)
theorem cC(GE:List (Nat×List PVal))(tmps:List PVal)(x:Operand)(k:PVal->Prop):qy GE tmps x k=k (opv GE tmps x):=by
 cases x with
 |tmp t=>exact iX _ _ _
 |const v=>exact qet _ _
 |global g=>rfl
 |func f=>rfl
def SD(GE:List (Nat×List PVal))(tmps:List PVal):List Operand->(List PVal->Prop)->Prop
 |[],k=>k []
 |x::l,k=>qy GE tmps x fun p=>SD GE tmps l fun ps=>k (p::ps)
theorem wc(GE:List (Nat×List PVal))(tmps:List PVal):∀(l:List Operand) (k:List PVal->Prop),SD GE tmps l k=k (l.map (opv GE tmps))
 |[],_=>rfl
 |x::l,k=>by simp only[SD,cC,wc GE tmps l,vay]
def z8(GE:List (Nat×List PVal))(tmps:List PVal):List (Nat×Operand)->(List (Nat×PVal)->Prop)->Prop
 |[],k=>k []
 |x::l,k=>qy GE tmps x.2 fun p=>z8 GE tmps l fun ps=>k ((x.1,p)::ps)
theorem qo(GE:List (Nat×List PVal))(tmps:List PVal):∀(l:List (Nat×Operand)) (k:List (Nat×PVal)->Prop),z8 GE tmps l k=k (l.map fun x=>(x.1,opv GE tmps x.2))
 |[],_=>rfl
 |x::l,k=>by simp only[z8,cC,qo GE tmps l,vay]
def qe4(GE:List (Nat×List PVal))(tmps:List PVal):Option Operand->(Option PVal->Prop)->Prop
 |none,k=>k none
 |some x,k=>qy GE tmps x fun p=>k (some p)
theorem qe5(GE:List (Nat×List PVal))(tmps:List PVal)(o:Option Operand)(k:Option PVal->Prop):qe4 GE tmps o k=k (o.map (opv GE tmps)):=by
 cases o with
 |none=>rfl
 |some x=>simp only[qe4,cC,vam]
def IJ(sc:List It)(f:PVal->Prop)(K:PVal->List It->Prop):Prop:=
 match sc with
 |.v p::sc'=>f p/\K p sc'
 |_=>False
def St(o:Option PVal)(K:PVal->Prop):Prop:=
 match o with
 |some p=>K p
 |none=>False
theorem yY{o:Option PVal}{K:PVal->Prop}(h:St o K):∃p,o=some p/\K p:=by
 unfold St at h
 split at h
 ·exact⟨_,rfl,h⟩
 ·exact h.elim
theorem nG{sc:List It}{f:PVal->Prop}{K:PVal->List It->Prop}(h:IJ sc f K):∃p sc',f p/\K p sc':=by
 unfold IJ at h
 split at h
 ·exact⟨_,_,h⟩
 ·exact h.elim
def CC(P:Program)(GE:List (Nat×List PVal))(g:FuncId)(args:List PVal)(r:PVal)(ro:List (Nat×TypeId)):Prop:=iy 0 args/\C P GE g args [] [] r ro []
def QQ(P:Program)(t:TypeId)(es:List (PVal×PVal))(k:PVal)(ok:Bool):Option PVal:=
 match P.underlying t with
 | some (.map kt e) => match P.underlying kt with
  | some kd =>
   if pG kd k then
    match Fb k es 0,LY P e with
    |some (some (_,v)),_=>some (if ok then .tuple [v,.bool true]else v)
    |some none,some z=>some (if ok then .tuple [z,.bool false]else z)
    |_,_=>none
   else none
  |_=>none
 |_=>none
theorem qbC{P:Program}{t:TypeId}{es:List (PVal×PVal)}{k p:PVal}{ok:Bool}{H:List aN}{i:Nat}(hB:H[i]? =some (.map es))(h:QQ P t es k ok=some p):y5 P t (.mapr i) k ok H=some p:=by
 unfold QQ at h
 unfold y5
 split at h
 ·rename_i kt e hu
  split at h
  ·rename_i kd hk
   simp only[hu,hB,hk]
   exact h
  ·cases h
 ·cases h
def TB(P:Program)(t:TypeId)(es:List (PVal×PVal))(k v:PVal):Option (List (PVal×PVal)):=
 match P.underlying t with
 | some (.map kt _) => match P.underlying kt with
  | some kd =>
   if pG kd k then
    match Fb k es 0 with
    |some (some (j,_))=>some (es.set j (k,v))
    |some none=>some (es++[(k,v)])
    |none=>none
   else none
  |_=>none
 |_=>none
theorem XD{P:Program}{t:TypeId}{es es':List (PVal×PVal)}{k v:PVal}{H:List aN}{i:Nat}(hB:H[i]? =some (.map es))(h:TB P t es k v=some es'):io P t (.mapr i) k v H=some (H.set i (.map es')):=by
 unfold TB at h
 unfold io
 split at h
 ·rename_i kt e hu
  split at h
  ·rename_i kd hk
   simp only[hu,hB,hk]
   split at h
   ·rename_i hkk
    rw[vad hkk]
    split at h
    ·rename_i hf;cases h;simp[hf]
    ·rename_i hf;cases h;simp[hf]
    ·cases h
   ·cases h
  ·cases h
 ·cases h
def mP:List aN->Nat->(aN->Prop)->Prop
 |[],_,_=>False
 |B::_,0,k=>k B
 |_::l,n+1,k=>mP l n k
theorem eB:∀{l:List aN} {n:Nat} {k:aN->Prop},mP l n k->∃B,l[n]? =some B/\k B
 |[],_,_,h=>h.elim
 |B::_,0,_,h=>⟨B,rfl,h⟩
 |_::l,n+1,k,h=>by simp only[mP]at h;obtain⟨B,h1,h2⟩:=eB h;exact⟨B,by simpa using h1,h2⟩
def qa5(op:BinOp)(x:PVal):Bool:=match op,x with
 |.quo,_=>true
 |.rem,_=>true
 |.add,.str _=>true
 |_,.agg _=>true
 |_,_=>false
def ZK(P:Program)(GE:List (Nat×List PVal))(op:Op)(tmps:List PVal)(H:List aN)(sc:List It)(K:PVal->List aN->List It->Prop):Prop:=
 match op with
 |.move x=>qy GE tmps x fun p=>K p H sc
 |.assign x=>qy GE tmps x fun p=>K p H sc
 |.pick c x y=>qy GE tmps c fun pc=>match pc with
  |.bool true=>qy GE tmps x fun p=>K p H sc
  |.bool false=>qy GE tmps y fun p=>K p H sc
  |_=>False
 |.binOp op T x y _=>qy GE tmps x fun vx=>qy GE tmps y fun vy=>match qa5 op vx with
  |true=>IJ sc (fun p=>QH P op T vx vy=some p) fun p sc'=>K p H sc'
  |false=>St (QH P op T vx vy) fun p=>K p H sc
 |.unOp op _ x=>qy GE tmps x fun vx=>St (qjt op vx) fun p=>K p H sc
 |.convert s d x=>qy GE tmps x fun vx=>IJ sc (fun p=>Mv P s d vx=some p) fun p sc'=>K p H sc'
 |.extract t i=>qy GE tmps t fun vt=>St (xO vt i) fun p=>K p H sc
 |.nilCheck x=>qy GE tmps x fun vx=>match vx with
  |.eptr cs=>K (.eptr cs) H sc
  |.bptr i off=>K (.bptr i off) H sc
  |.func (.func f) first cap=>K (.func (.func f) first cap) H sc
  |_=>False
 |.makeFunc fn first cap=>SD GE tmps first.toList fun f=>SD GE tmps cap.toList fun c=>K (.func fn f c) H sc
 | .load t x => qy GE tmps x fun vx => match vx with
  |.eptr cs=>IJ sc (fun p=>bm P t cs=some p) fun p sc'=>K p H sc'
  | .bptr i off => mP H i fun B => match B with
   |.cells cs _=>match sc with
    |.s::sc'=>St (bm P t (cs.drop off)) fun p=>K p H sc'
    |.v p::sc'=>bm P t (cs.drop off)=some p/\K p H sc'
    |_=>False
   |_=>False
  |_=>False
 | .store t x y => qy GE tmps x fun vx => qy GE tmps y fun vy => match vx,sc with
  | .bptr i off,.s :: sc' => match bK vy with
   | some vs => mP H i fun B => match B with
    |.cells cs own=>match decide (vs.length=P.cellsOf t)&&(P.info? t).isSome&&decide (off+vs.length<=cs.length)&&vs.all PVal.one with
     |true=>bP (cs.take off++vs++cs.drop (off+vs.length)) fun cs'=>gO H i (.cells cs' (own.filter fun y=>y.1<off||off+vs.length<=y.1)) fun H'=>K (.val undef) H' sc'
     |false=>False
    |_=>False
   |none=>False
  | .bptr i off,.x vs :: sc' => bK vy = some vs∧(mP H i fun B => match B with
    |.cells cs own=>match decide (vs.length=P.cellsOf t)&&(P.info? t).isSome&&decide (off+vs.length<=cs.length)&&vs.all PVal.one with
     |true=>bP (cs.take off++vs++cs.drop (off+vs.length)) fun cs'=>gO H i (.cells cs' (own.filter fun y=>y.1<off||off+vs.length<=y.1)) fun H'=>K (.val undef) H' sc'
     |false=>False
    |_=>False)
  |.bptr i off,.w _ (.cells cs' own')::sc'=>mP H i fun B=>(eh P t (.bptr 0 off) vy [B]=some [.cells cs' own'])/\gO H i (.cells cs' own') fun H'=>K (.val undef) H' sc'
  |_,_=>False
 |.fieldAddr s x f=>qy GE tmps x fun vx=>match vx with
  |.bptr i off=>St (aF P s (.bptr i off) f) fun p=>K p H sc
  |vx=>IJ sc (fun p=>aF P s vx f=some p) fun p sc'=>K p H sc'
 |.field t x f=>qy GE tmps x fun vx=>IJ sc (fun p=>QL P t vx f=some p) fun p sc'=>K p H sc'
 |.indexAddr t x i=>qy GE tmps x fun vx=>qy GE tmps i fun vi=>IJ sc (fun p=>jn P t vx vi=some p) fun p sc'=>K p H sc'
 |.index t x i=>qy GE tmps x fun vx=>qy GE tmps i fun vi=>IJ sc (fun p=>LS P t vx vi=some p) fun p sc'=>K p H sc'
 | .lookup t m k ok => qy GE tmps m fun vm => qy GE tmps k fun vk => match vm with
  |.mapr i=>mP H i fun B=>match B with
   |.map es=>IJ sc (fun p=>QQ P t es vk ok=some p) fun p sc'=>K p H sc'
   |_=>False
  |_=>False
 | .mapUpdate t m k x => qy GE tmps m fun vm => qy GE tmps k fun vk => qy GE tmps x fun vx => match vm,sc with
  |.mapr i,.w _ (.map es')::sc'=>mP H i fun B=>match B with
   |.map es=>TB P t es vk vx=some es'/\gO H i (.map es') fun H'=>K (.val undef) H' sc'
   |_=>False
  |_,_=>False
 |.slice t x lo hi none=>qy GE tmps x fun vx=>qe4 GE tmps lo fun vl=>qe4 GE tmps hi fun vh=>IJ sc (fun p=>Ac P t vx vl vh none=some p) fun p sc'=>K p H sc'
 |.build t parts=>z8 GE tmps parts.toList fun ps=>IJ sc (fun p=>dw P t ps=some p) fun p sc'=>K p H sc'
 |.buildSlice t len parts=>z8 GE tmps parts.toList fun ps=>IJ sc (fun p=>gd P t len ps=some p) fun p sc'=>K p H sc'
 | .call { callee := .builtin .len,args:=⟨[x]⟩,argTypes:=⟨[t]⟩ } => qy GE tmps x fun vx => match vx with
  |.mapr i=>mP H i fun B=>match B with
   |.map es=>IJ sc (fun p=>p=.int .i64 es.length/\(P.underlying t).any (fun d=>match d with|.map _ _=>true|_=>false)=true) fun p sc'=>K p H sc'
   |_=>False
  |vx=>IJ sc (fun p=>∀H,Fd P t vx H=some p) fun p sc'=>K p H sc'
 |.call {callee:=.builtin .max,args:=⟨x::r⟩,..}=>qy GE tmps x fun vx=>SD GE tmps r fun vr=>St (Mw qad vx vr) fun p=>K p H sc
 |.call {callee:=.builtin .min,args:=⟨x::r⟩,..}=>qy GE tmps x fun vx=>SD GE tmps r fun vr=>St (Mw qae vx vr) fun p=>K p H sc
 |_=>False
section
variable{P:Program}{GE:List (Nat×List PVal)}
theorem qbG{t:TypeId}{off i:Nat}{y:PVal}{H:List aN}{B:aN}{cs':List PVal}{own':List (Nat×TypeId)}(hB:H[i]? =some B)(h:eh P t (.bptr 0 off) y [B]=some [.cells cs' own']):
  eh P t (.bptr i off) y H=some (H.set i (.cells cs' own')):=by
 unfold eh at h ⊢
 split at h
 ·rename_i i' off' vs h1 h2
  cases h1
  simp only[h2]
  change (match(some B:Option aN)with|some (.cells cs own)=>_|_=>none)=_ at h
  rw[hB]
  split at h
  ·rename_i hb
   cases hb
   simp only
   split at h
   ·rename_i hc
    rw[vad hc]
    simp only[List.set_cons_zero,vav,vbv,vcN]at h
    rw[h]
   ·cases h
  ·cases h
 ·cases h
theorem qdy(t:TypeId)(id:Nat)(v:Operand->PVal)(x:Operand)(H:List aN):uo P (.load t x) id v H=(nH P t (v x) H).map fun p=>(p,H):=rfl
theorem Mn{op:Op}{id:Nat}{tmps:List PVal}{H:List aN}{sc:List It}{K:PVal->List aN->List It->Prop}(h:ZK P GE op tmps H sc K):
  ∃p H' sc',uo P op id (opv GE tmps) H=some (p,H')/\K p H' sc'/\H'.length=H.length:=by
 unfold ZK at h
 split at h
 case h_1=>rw[cC]at h;exact⟨_,_,_,rfl,h,rfl⟩
 case h_2=>rw[cC]at h;exact⟨_,_,_,rfl,h,rfl⟩
 case h_3 c x y=>
  rw[cC]at h
  split at h
  ·rename_i hc;rw[cC]at h;exact⟨_,_,_,by simp only[uo,hc],h,rfl⟩
  ·rename_i hc;rw[cC]at h;exact⟨_,_,_,by simp only[uo,hc],h,rfl⟩
  ·exact h.elim
 case h_4=>
  simp only[cC]at h
  split at h
  ·obtain⟨p,sc',h1,h2⟩:=nG h;exact⟨p,_,sc',by simp only[uo,h1,vam],h2,rfl⟩
  ·obtain⟨p,h1,h2⟩:=yY h;exact⟨p,_,_,by simp only[uo,h1,vam],h2,rfl⟩
 case h_5=>simp only[cC]at h;obtain⟨p,h1,h2⟩:=yY h;exact⟨p,_,_,by simp only[uo,h1,vam],h2,rfl⟩
 case h_6=>simp only[cC]at h;obtain⟨p,sc',h1,h2⟩:=nG h;exact⟨p,_,sc',by simp only[uo,h1,vam],h2,rfl⟩
 case h_7=>simp only[cC]at h;obtain⟨p,h1,h2⟩:=yY h;exact⟨p,_,_,by simp only[uo,h1,vam],h2,rfl⟩
 case h_8=>
  simp only[cC]at h
  split at h
  ·rename_i hv;exact⟨_,_,_,by simp only[uo,hv],h,rfl⟩
  ·rename_i hv;exact⟨_,_,_,by simp only[uo,hv],h,rfl⟩
  ·rename_i hv;exact⟨_,_,_,by simp only[uo,hv],h,rfl⟩
  ·exact h.elim
 case h_9=>simp only[wc]at h;exact⟨_,_,_,rfl,h,rfl⟩
 case h_10 t x=>
  simp only[cC]at h
  rw[qdy]
  split at h
  ·rename_i cs hv
   obtain⟨p,sc',h1,h2⟩:=nG h
   exact⟨p,_,sc',by simp only[hv,nH,h1,vam],h2,rfl⟩
  ·rename_i i off hv
   obtain⟨B,hB,h⟩:=eB h
   split at h
   ·rename_i cs own
    split at h
    ·obtain⟨p,h1,h2⟩:=yY h
     exact⟨p,_,_,by simp only[hv,nH,hB,h1,vam],h2,rfl⟩
    ·exact⟨_,_,_,by simp only[hv,nH,hB,h.1,vam],h.2,rfl⟩
    ·exact h.elim
   ·exact h.elim
  ·exact h.elim
 case h_11 t x y=>
  simp only[cC]at h
  split at h
  ·rename_i i off sc' hv
   split at h
   ·rename_i vs hvs
    obtain⟨B,hB,h⟩:=eB h
    split at h
    ·rename_i cs own
     split at h
     ·rename_i hc
      simp only[bk,bU]at h
      simp only[vaj,vao]at hc
      exact⟨_,_,_,by simp only[uo,eh,hv,hvs,hB];rw[vad ⟨hc.1.1.1,hc.1.1.2,hc.1.2,hc.2⟩];rfl,h,by simp⟩
     ·exact h.elim
    ·exact h.elim
   ·exact h.elim
  ·rename_i i off vs sc' hv
   obtain⟨hvs,h⟩:=h
   obtain⟨B,hB,h⟩:=eB h
   split at h
   ·rename_i cs own
    split at h
    ·rename_i hc
     simp only[bk,bU]at h
     simp only[vaj,vao]at hc
     exact⟨_,_,_,by simp only[uo,eh,hv,hvs,hB];rw[vad ⟨hc.1.1.1,hc.1.1.2,hc.1.2,hc.2⟩];rfl,h,by simp⟩
    ·exact h.elim
   ·exact h.elim
  ·rename_i i off j cs' own' sc' hv
   obtain⟨B,hB,h1,h2⟩:=eB h
   rw[bU]at h2
   exact⟨_,_,_,by simp only[uo,hv,qbG hB h1];rfl,h2,by simp⟩
  ·exact h.elim
 case h_12=>
  simp only[cC]at h
  split at h
  ·rename_i hv
   obtain⟨p,h1,h2⟩:=yY h;exact⟨p,_,_,by simp only[uo,hv,h1,vam],h2,rfl⟩
  ·obtain⟨p,sc',h1,h2⟩:=nG h;exact⟨p,_,sc',by simp only[uo,h1,vam],h2,rfl⟩
 case h_13=>simp only[cC]at h;obtain⟨p,sc',h1,h2⟩:=nG h;exact⟨p,_,sc',by simp only[uo,h1,vam],h2,rfl⟩
 case h_14=>simp only[cC]at h;obtain⟨p,sc',h1,h2⟩:=nG h;exact⟨p,_,sc',by simp only[uo,h1,vam],h2,rfl⟩
 case h_15=>simp only[cC]at h;obtain⟨p,sc',h1,h2⟩:=nG h;exact⟨p,_,sc',by simp only[uo,h1,vam],h2,rfl⟩
 case h_16 t m k ok=>
  simp only[cC]at h
  split at h
  ·rename_i i hv
   obtain⟨B,hB,h⟩:=eB h
   split at h
   ·rename_i es
    obtain⟨p,sc',h1,h2⟩:=nG h
    exact⟨p,_,sc',by simp only[uo,hv,qbC hB h1,vam],h2,rfl⟩
   ·exact h.elim
  ·exact h.elim
 case h_17 t m k x=>
  simp only[cC]at h
  split at h
  ·rename_i i j es' sc' hv
   obtain⟨B,hB,h⟩:=eB h
   split at h
   ·rename_i es
    obtain⟨h1,h2⟩:=h
    rw[bU]at h2
    exact⟨_,_,_,by simp only[uo,hv,XD hB h1];rfl,h2,by simp⟩
   ·exact h.elim
  ·exact h.elim
 case h_18=>simp only[cC,qe5]at h;obtain⟨p,sc',h1,h2⟩:=nG h;exact⟨p,_,sc',by simp only[uo,h1,vam],h2,rfl⟩
 case h_19=>simp only[qo]at h;obtain⟨p,sc',h1,h2⟩:=nG h;exact⟨p,_,sc',by simp only[uo,h1,vam],h2,rfl⟩
 case h_20=>simp only[qo]at h;obtain⟨p,sc',h1,h2⟩:=nG h;exact⟨p,_,sc',by simp only[uo,h1,vam],h2,rfl⟩
 case h_21 x t=>
  simp only[cC]at h
  split at h
  ·rename_i i hv
   obtain⟨B,hB,h⟩:=eB h
   split at h
   ·rename_i es
    obtain⟨p,sc',⟨rfl,h1⟩,h2⟩:=nG h
    refine⟨_,_,sc',?_,h2,rfl⟩
    simp only[uo,hv,Fd]
    cases hu:P.underlying t with
    |none=>rw[hu]at h1;cases h1
    |some d=>
     rw[hu]at h1
     cases d<;>simp at h1
     simp only[hB,vam]
   ·exact h.elim
  ·obtain⟨p,sc',h1,h2⟩:=nG h;exact⟨p,_,sc',by simp only[uo,h1 H,vam],h2,rfl⟩
 case h_22=>simp only[cC,wc]at h;obtain⟨p,h1,h2⟩:=yY h;exact⟨p,_,_,by simp only[uo,h1,vam],h2,rfl⟩
 case h_23=>simp only[cC,wc]at h;obtain⟨p,h1,h2⟩:=yY h;exact⟨p,_,_,by simp only[uo,h1,vam],h2,rfl⟩
 case h_24=>exact h.elim
end
def SK(st:aA)(dst:Option Tmp)(p:PVal)(ro:List (Nat×TypeId))(H:List aN)(K:aA->Prop):Prop:=
 match dst with
 |some d=>gO st.tmps d p fun tm=>bP ((ro.map fun x=>((d,x.1),x.2))++cx d st.own) fun ow=>K ⟨tm,H,ow⟩
 |none=>K ⟨st.tmps,H,st.own⟩
theorem wg(st:aA)(dst:Option Tmp)(p:PVal)(ro:List (Nat×TypeId))(H:List aN)(K:aA->Prop):SK st dst p ro H K=K (Ad st dst p ro H):=by
 cases dst with
 |none=>rfl
 |some d=>simp only[SK,bU,bk,Ad]
def YH(P:Program)(GE:List (Nat×List PVal))(f:Operand)(args:List Operand)(tmps:List PVal)(sc:List It)(K:PVal->List (Nat×TypeId)->List It->Prop):Prop:=
 qy GE tmps f fun vf=>match vf with
  |.func (.func g) first cap=>SD GE tmps args fun as=>match sc with
   |.c r ro::sc'=>CC P GE g (first++as++cap) r ro/\K r ro sc'
   |_=>False
  |_=>False
def yV(P:Program)(GE:List (Nat×List PVal))(o:Oper)(id:Nat)(sc:List It)(st:aA)(K:List It->aA->Prop):Prop:=
 match pS o st.tmps.length with
 |false=>False
 | true => match o.op with
  |.call {callee:=.value f,args,..}=>YH P GE f args.toList st.tmps sc fun r ro sc'=>SK st o.dst r ro st.boxes fun st'=>K sc' st'
  |.alloc t=>match sc with
   |.x zs::sc'=>kb P t=some zs/\bP (XH P t) fun ow=>gO st.boxes id (.cells zs ow) fun H=>SK st o.dst (.bptr id 0) [] H fun st'=>K sc' st'
   |_=>False
  |.box _ x=>qy GE st.tmps x fun vx=>match sc with
   |.x cs::sc'=>bK vx=some cs/\gO st.boxes id (.cells cs []) fun H=>SK st o.dst (.bptr id 0) [] H fun st'=>K sc' st'
   |_=>False
  |.makeMap _ none=>gO st.boxes id (.map []) fun H=>SK st o.dst (.mapr id) [] H fun st'=>K sc st'
  |op=>ZK P GE op st.tmps st.boxes sc fun p H sc'=>SK st o.dst p [] H fun st'=>K sc' st'
def X7(n d:Nat)(K:Prop):Prop:=match decide (d<n)with
 |true=>K
 |false=>False
theorem rv{n d:Nat}{K:Prop}(h:X7 n d K):d<n/\K:=by
 unfold X7 at h
 split at h
 ·rename_i hd;exact⟨by simpa using hd,h⟩
 ·exact h.elim
def P0(P:Program)(st:aA)(T e:TypeId)(t:Nat)(dst:Option Tmp)(vx vt:PVal)(sc:List It)(K:List It->aA->Prop):Prop:=
 match vx with
 | .bptr i off => match eh P T (.bptr i off) vt st.boxes with
  | some H => mP H i fun B => match B with
   |.cells cs own=>match vt.one with
    |true=>bP cs fun cs'=>gO H i (.cells cs' ((off,e)::own)) fun H'=>SK {st with own:=st.own.filter fun x=>x.1 !=(t,0)} dst (.val undef) [] H' fun st'=>K sc st'
    |false=>False
   |_=>False
  |none=>False
 |_=>False
def P1(P:Program)(GE:List (Nat×List PVal))(A:List Nat)(o:Oper)(id:Nat)(sc:List It)(st:aA)(K:List It->aA->Prop):Prop:=
 match o.op,o.dst with
 |.assign (.tmp t),some d=>X7 st.tmps.length d (zX st.tmps t fun p=>gO st.tmps d p fun tm=>bP (jq d (fun x=>if x.1=t then(d,x.2)else x) st.own) fun ow=>K sc ⟨tm,st.boxes,ow⟩)
 |.move (.tmp t),some d=>match decide (d∈A)with
  |true=>X7 st.tmps.length d (zX st.tmps t fun p=>gO st.tmps d p fun tm=>bP (jq d (fun x=>if x.1=t then(d,x.2)else x) st.own) fun ow=>K sc ⟨tm,st.boxes,ow⟩)
  |false=>yV P GE o id sc st K
 |.assign (.const v),some d=>match v8 P o.type v with
  |some e=>X7 st.tmps.length d (gO st.tmps d (.slice []) fun tm=>bP (((d,0),e)::cx d st.own) fun ow=>K sc ⟨tm,st.boxes,ow⟩)
  |none=>yV P GE o id sc st K
 |.move (.const v),some d=>match v8 P o.type v with
  |some e=>X7 st.tmps.length d (gO st.tmps d (.slice []) fun tm=>bP (((d,0),e)::cx d st.own) fun ow=>K sc ⟨tm,st.boxes,ow⟩)
  |none=>yV P GE o id sc st K
 |.extract (.tmp t) i,some d=>X7 st.tmps.length d (zX st.tmps t fun vt=>St (xO vt i) fun p=>gO st.tmps d p fun tm=>bP (jq d (fun x=>if x=(t,i)then(d,0)else x) st.own) fun ow=>K sc ⟨tm,st.boxes,ow⟩)
 |.buildSlice T len parts,some d=>X7 st.tmps.length d (z8 GE st.tmps parts.toList fun ps=>match sc,P.underlying T with
  |.v p::sc',some (.slice e)=>gd P T len ps=some p/\gO st.tmps d p fun tm=>bP (((d,0),e)::cx d st.own) fun ow=>K sc' ⟨tm,st.boxes,ow⟩
  |_,_=>False)
 | .call { callee := .builtin .append,args:=⟨[.tmp t,y]⟩,argTypes:=⟨[T,T']⟩ },some d => X7 st.tmps.length d (zX st.tmps t fun ve => qy GE st.tmps y fun vn => match ve,vn,sc,P.underlying T with
  |.slice es,.slice ns,.v p::sc',some (.slice e)=>match decide (T=T')&&decide (((t,0),e)∈st.own)with
   |true=>lW P T es ns=some p/\gO st.tmps d p fun tm=>bP (((d,0),e)::cx d (st.own.filter fun x=>x.1 !=(t,0))) fun ow=>K sc' ⟨tm,st.boxes,ow⟩
   |false=>False
  |_,_,_,_=>False)
 | .load T x,some d => match decide (d ∈ A) with
  | true => X7 st.tmps.length d (qy GE st.tmps x fun vx => match vx,P.underlying T with
   | .bptr i off,some (.slice e) => mP st.boxes i fun B => match B with
    |.cells cs own=>match decide ((off,e)∈own)&&decide (off<cs.length)with
     |true=>zX cs off fun p=>gO st.tmps d p fun tm=>bP (own.filter fun x=>x.1 !=off) fun own'=>gO st.boxes i (.cells cs own') fun H=>bP (((d,0),e)::cx d st.own) fun ow=>K sc ⟨tm,H,ow⟩
     |false=>False
    |_=>False
   |_,_=>False)
  |false=>yV P GE o id sc st K
 |.store T x (.tmp t),_=>match st.own.find? (fun y=>y.1==(t,0))with
  |some (_,e)=>qy GE st.tmps x fun vx=>zX st.tmps t fun vt=>P0 P st T e t o.dst vx vt sc K
  |none=>yV P GE o id sc st K
 |_,_=>yV P GE o id sc st K
def qkW:Value->Bool
 |.bool _=>true
 |_=>false
def Od(ops:Array Oper)(j:Nat)(want:Bool)(pos:Nat)(sc:List It)(st:aA)(go:Bool->List It->aA->Prop):Prop:=
 match(ops[j]?).bind (·.dst)with
 |none=>False
 | some t => zX st.tmps t fun p => match p with
  | .bool x => match sc with
   |.g pos' b::sc'=>match pos'==pos with
    |true=>x=b/\gO st.tmps t (.bool b) fun tm=>go (b==want) sc' ⟨tm,st.boxes,st.own⟩
    |false=>go (x==want) sc st
   |_=>go (x==want) sc st
  |.val v=>match qkW v with
   |true=>False
   |false=>go false sc st
  |_=>False
def xN:List Nat->Bool
 |[]=>true
 |x::r=>!(r.contains x)&&xN r
theorem qn:∀{l:List Nat},xN l=true->l.Nodup
 |[],_=>.nil
 |x::r,h=>by
  simp only[xN,vaj,va5,vcF,vbp]at h
  exact vbN.2 ⟨h.1,qn h.2⟩
def Tt(t:Nat)(own:List ((Nat×Nat)×TypeId)):List (Nat×TypeId):=own.filterMap fun x=>if x.1.1==t then some (x.1.2,x.2)else none
theorem LP{t:Nat}{own:List ((Nat×Nat)×TypeId)}{y:Nat×TypeId}(h:y∈Tt t own):((t,y.1),y.2)∈own:=by
 unfold Tt at h
 obtain⟨⟨⟨t',k⟩,e⟩,hx,he⟩:=vbM.1 h
 split at he
 ·rename_i ht
  simp only[va4]at ht
  cases he;subst ht;exact hx
 ·cases he
def Z7(off n:Nat)(own:List (Nat×TypeId)):List (Nat×TypeId):=own.filterMap fun x=>if decide (off<=x.1)&&decide (x.1<off+n)then some (x.1 - off,x.2)else none
theorem Ge{off n:Nat}{own:List (Nat×TypeId)}{y:Nat×TypeId}(h:y∈Z7 off n own):(off+y.1,y.2)∈own/\y.1<n:=by
 unfold Z7 at h
 obtain⟨⟨k,e⟩,hx,he⟩:=vbM.1 h
 split at he
 ·rename_i ht
  simp only[vaj,vao]at ht
  cases he
  have:off+(k - off)=k:=by omega
  exact⟨by rw[this];exact hx,by simp only;omega⟩
 ·cases he
def RZ(ρ:List Nat):List PVal->List PVal->Prop
 |[],[]=>True
 |p::ps,q::qs=>Jr ρ p q/\RZ ρ ps qs
 |_,_=>False
theorem RZ.len{ρ:List Nat}:∀{l r:List PVal},RZ ρ l r->l.length=r.length
 |[],[],_=>rfl
 |[],_::_,h=>h.elim
 |_::_,[],h=>h.elim
 |_::_,_::_,h=>by simp[RZ.len h.2]
theorem RZ.get{ρ:List Nat}:∀{l r:List PVal},RZ ρ l r->∀(i:Nat) p q,l[i]? =some p->r[i]? =some q->Jr ρ p q
 |[],[],_,i,p,q,hp,_=>by simp at hp
 |[],_::_,h,_,_,_,_,_=>h.elim
 |_::_,[],h,_,_,_,_,_=>h.elim
 |_::_,_::_,h,0,p,q,hp,hq=>by simp at hp hq;subst hp;subst hq;exact h.1
 |_::_,_::_,h,i+1,p,q,hp,hq=>RZ.get h.2 i p q (by simpa using hp) (by simpa using hq)
def qcc(ρ:List Nat):aN->aN->Prop
 |.cells cs own,.cells cs' own'=>own=own'/\RZ ρ cs cs'
 |.map es,.map es'=>es=es'/\∀x∈es,x.1.cl 0/\x.2.cl 0
 |_,_=>False
theorem qcc.to{ρ:List Nat}{B B':aN}(h:qcc ρ B B'):lI ρ B B':=by
 cases B<;>cases B'<;>simp only[qcc]at h
 ·exact⟨h.1,h.2.len,h.2.get⟩
 ·obtain⟨rfl,h⟩:=h
  refine⟨rfl,fun i k u k' u' h1 h2=>?_⟩
  rw[h1]at h2;cases h2
  obtain⟨q1,q2⟩:=h _ (vaA h1)
  exact⟨.refl _ q1,.refl _ q2⟩
def Cq(ρ:List Nat)(H:List aN):List Nat->List aN->List aN->Prop
 |[],[],[]=>True
 |j::js,B::Bs,Bc::Hc=>(mP H j fun B0=>Sr B0 B=B/\qcc ρ B Bc)/\Cq ρ H js Bs Hc
 |_,_,_=>False
def Qe(ρ:List Nat):List aN->List aN->Prop
 |[],[]=>True
 |B::Bs,Bc::Hc=>qcc ρ B Bc/\Qe ρ Bs Hc
 |_,_=>False
def Fq(H:List aN):List Nat->List aN->List aN
 |j::js,B::Bs=>Fq (H.set j B) js Bs
 |_,_=>H
def VN(H:List aN):List Nat->List aN->(List aN->Prop)->Prop
 |j::js,B::Bs,K=>gO H j B fun H'=>VN H' js Bs K
 |_,_,K=>K H
theorem Gl:∀(H:List aN) (js:List Nat) (Bs:List aN) (K:List aN->Prop),VN H js Bs K=K (Fq H js Bs)
 |H,[],_,K=>by cases ‹List aN›<;>rfl
 |H,_::_,[],K=>rfl
 |H,j::js,B::Bs,K=>by simp only[VN,bU,Gl,Fq]
theorem L5:∀(H:List aN) (js:List Nat) (Bs:List aN),(Fq H js Bs).length=H.length
 |H,[],_=>by cases ‹List aN›<;>rfl
 |H,_::_,[]=>rfl
 |H,j::js,B::Bs=>by simp only[Fq,L5,vbq]
theorem AX:∀(H:List aN) (js:List Nat) (Bs:List aN) {j:Nat},j∉js->(Fq H js Bs)[j]? =H[j]?
 |H,[],Bs,_,_=>by cases Bs<;>rfl
 |H,_::_,[],_,_=>rfl
 |H,k::js,B::Bs,j,h=>by
  simp only[vaw,not_or]at h
  simp only[Fq]
  rw[AX _ js Bs h.2,vas (Ne.symm h.1)]
theorem KA:∀(H:List aN) (js:List Nat) (Bs:List aN),js.Nodup->js.length=Bs.length->(∀j∈js,j<H.length)->∀(i j:Nat) B,js[i]? =some j->Bs[i]? =some B->(Fq H js Bs)[j]? =some B
 |H,[],Bs,_,_,_,i,j,B,hj,_=>by simp at hj
 |H,_::_,[],_,hl,_,_,_,_,_,_=>by simp at hl
 | H,k :: js,B0 :: Bs,hn,hl,hlt,i,j,B,hj,hB => by
  obtain⟨hn1,hn2⟩:=vbN.1 hn
  simp only[Fq]
  cases i with
  |zero=>
   simp at hj hB;subst hj;subst hB
   rw[AX _ js Bs hn1,van (hlt _ (by simp))]
  |succ i=>exact KA _ js Bs hn2 (by simpa using hl) (fun x hx=>by rw[vbq];exact hlt x (by simp[hx])) i j B (by simpa using hj) (by simpa using hB)
theorem Qd{ρ:List Nat}{H:List aN}:∀{js:List Nat} {Bs Hc:List aN},Cq ρ H js Bs Hc->js.length=Bs.length/\Hc.length=js.length/\(∀j∈js,j<H.length)/\
  ∀(i j:Nat) B Bc,js[i]? =some j->Bs[i]? =some B->Hc[i]? =some Bc->(∃B0,H[j]? =some B0/\Sr B0 B=B)/\lI ρ B Bc
 |[],[],[],_=>⟨rfl,rfl,by simp,by simp⟩
 |[],_::_,_,h=>by simp[Cq]at h
 |[],[],_::_,h=>by simp[Cq]at h
 |_::_,[],_,h=>by simp[Cq]at h
 |_::_,_::_,[],h=>by simp[Cq]at h
 | k :: js,B :: Bs,Bc :: Hc,h => by
  obtain⟨h1,h2⟩:=h
  obtain⟨B0,hB0,h3,h4⟩:=eB h1
  obtain⟨k1,k2,k3,k4⟩:=Qd h2
  refine⟨by simp[k1],by simp[k2],fun j hj=>?_,fun i j b bc hj hb hbc=>?_⟩
  ·rcases vaw.1 hj with rfl|hj
   ·exact av hB0
   ·exact k3 j hj
  ·cases i with
   |zero=>simp at hj hb hbc;subst hj;subst hb;subst hbc;exact⟨⟨B0,hB0,h3⟩,h4.to⟩
   |succ i=>exact k4 i j b bc (by simpa using hj) (by simpa using hb) (by simpa using hbc)
theorem Mr{ρ:List Nat}:∀{Bs Hc:List aN},Qe ρ Bs Hc->Bs.length=Hc.length/\∀(i:Nat) B Bc,Bs[i]? =some B->Hc[i]? =some Bc->lI ρ B Bc
 |[],[],_=>⟨rfl,by simp⟩
 |[],_::_,h=>h.elim
 |_::_,[],h=>h.elim
 |B::Bs,Bc::Hc,h=>by
  obtain⟨k1,k2⟩:=Mr h.2
  refine⟨by simp[k1],fun i b bc hb hbc=>?_⟩
  cases i with
  |zero=>simp at hb hbc;subst hb;subst hbc;exact h.1.to
  |succ i=>exact k2 i b bc (by simpa using hb) (by simpa using hbc)
def qfS(t:Nat):Option Operand->Bool
 |some (.tmp u)=>u==t
 |_=>false
def qcY:Option Operand->Bool
 |some (.const v)=>mQ v
 |_=>false
def qbf(n:Nat)(args:List Operand)(own:List ((Nat×Nat)×TypeId))(oa:List OA):Bool:=
 oa.all (fun x=>decide (n<=x.i)&&((qcY args[x.i - n]? &&x.k==0)||(decide (((x.t,x.k),x.e)∈own)&&qfS x.t args[x.i - n]?)))&&oa.all fun x=>oa.all fun y=>!(x.t==y.t&&x.k==y.k)||x.i==y.i
def Z4:aN->Bool
 |.dead=>false
 |_=>true
def yU(P:Program)(GE:List (Nat×List PVal))(f:Operand)(args:List Operand)(c:GC)(st:aA)(K:List aN->Prop):Prop:=
 qy GE st.tmps f fun vf=>match vf with
 | .func (.func g) first cap => SD GE st.tmps args fun as => match xN c.ρ && qbf first.length args st.own c.oa && c.Bs.all Z4 && decide (c.Bs'.length = c.ρ.length) with
  | true => C P GE g c.argsC (c.oa.map fun x => ((x.i,x.k),x.e)) c.Hc c.rc c.ro c.Hc'∧RZ c.ρ (first ++ as ++ cap) c.argsC∧Cq c.ρ st.boxes c.ρ c.Bs c.Hc∧Qe c.ρ c.Bs' c.Hc'∧Jr c.ρ c.r c.rc ∧
    VN st.boxes c.ρ c.Bs' K
  |false=>False
 |_=>False
theorem G6{P:Program}{GE:List (Nat×List PVal)}{f:Operand}{args:List Operand}{c:GC}{st:aA}{K:List aN->Prop}(h:yU P GE f args c st K):
  ∃H',Wb P GE f args st c.r c.ro H' c.oa/\K H':=by
 unfold yU at h
 rw[cC]at h
 split at h
 ·rename_i g first cap hf
  rw[wc]at h
  split at h
  ·rename_i hb
   simp only[vaj,vao]at hb
   obtain⟨⟨⟨b1,b2⟩,b3⟩,b4⟩:=hb
   obtain⟨h1,h2,h3,h4,h5,h6⟩:=h
   rw[Gl]at h6
   have hn:=qn b1
   obtain⟨i1,i2,i3,i4⟩:=Qd h3
   obtain⟨o1,o2⟩:=Mr h4
   unfold qbf at b2
   rw[vaj]at b2
   obtain⟨c1,c2⟩:=b2
   have hgetB:∀{i j:Nat},c.ρ[i]? =some j->∃B,c.Bs[i]? =some B:=fun{i j} hj=>⟨_,vab (by rw[<-i1];exact av hj)⟩
   have hgetH:∀{i j:Nat},c.ρ[i]? =some j->∃B,c.Hc[i]? =some B:=fun{i j} hj=>⟨_,vab (by rw[i2];exact av hj)⟩
   refine⟨_,⟨g,first,cap,c.argsC,c.ρ,Fq st.boxes c.ρ c.Bs,c.Hc,c.Hc',c.rc,hf,hn,h1,⟨L5 _ _ _,fun i B hB=>?_⟩,⟨i2,fun i j hj=>?_⟩,⟨by rw[<-o1];exact b4,fun i j hj=>?_⟩,L5 _ _ _,fun j hj=>by rw[AX _ _ _ hj,AX _ _ _ hj],h5,h2.len,h2.get,fun x hx=>?_,fun x hx y hy e1 e2=>?_⟩,h6⟩
   ·by_cases hi:i∈c.ρ
    ·obtain⟨k,hk⟩:=vbh.1 hi
     obtain⟨B1,hB1⟩:=hgetB hk
     obtain⟨Bc,hBc⟩:=hgetH hk
     obtain⟨⟨B0,hB0,hfg⟩,_⟩:=i4 k i B1 Bc hk hB1 hBc
     rw[KA _ _ _ hn i1 i3 k i B1 hk hB1]at hB
     cases hB
     refine⟨B0,hB0,?_⟩
     rcases ZL B0 B with hx|hx|hx
     ·rw[hfg]at hx
      have:=vax.1 b3 B (vaA hB1)
      rw[hx]at this;cases this
     ·rw[hfg]at hx;exact .inl hx
     ·rw[hfg]at hx;exact .inr hx
    ·rw[AX _ _ _ hi]at hB
     exact⟨B,hB,.inl rfl⟩
   ·obtain⟨B1,hB1⟩:=hgetB hj
    obtain⟨Bc,hBc⟩:=hgetH hj
    exact⟨B1,Bc,KA _ _ _ hn i1 i3 i j B1 hj hB1,hBc,(i4 i j B1 Bc hj hB1 hBc).2⟩
   ·have hi:=av hj
    have e1:=vab (l:=c.Bs') (i:=i) (by omega)
    have e2:=vab (l:=c.Hc') (i:=i) (by omega)
    exact⟨_,_,KA _ _ _ hn b4.symm i3 i j _ hj e1,e2,o2 i _ _ e1 e2⟩
   ·have:=vax.1 c1 x hx
    simp only[vaj,vbb,vao,va4]at this
    refine⟨x.i - first.length,by omega,?_⟩
    rcases this.2 with⟨h2,h3⟩|⟨h2,h3⟩
    ·left
     unfold qcY at h2
     split at h2
     ·rename_i v hv
      unfold mQ at h2
      split at h2
      ·exact⟨hv,h3⟩
      ·cases h2
     ·cases h2
    ·right
     unfold qfS at h3
     split at h3
     ·rename_i u hu
      simp only[va4]at h3
      subst h3;exact⟨h2,hu⟩
     ·cases h3
   ·have:=vax.1 (vax.1 c2 x hx) y hy
    simp only[vbb,va5,Bool.and_eq_false_iff,beq_eq_false_iff_ne,ne_eq,va4]at this
    rcases this with(hx|hx)|hx
    ·exact absurd e1 hx
    ·exact absurd e2 hx
    ·exact hx
  ·exact h.elim
 ·exact h.elim
def Of (P:Program) (GE:List (Nat×List PVal)) (A:List Nat) (o:Oper) (id:Nat) (sc:List It) (st:aA) (K:List It→aA→Prop):Prop :=
 match o.op,sc with
 |.build T parts,.b p L::sc'=>match o.dst with
  |some d=>X7 st.tmps.length d (z8 GE st.tmps parts.toList fun ps=>dw P T ps=some p/\rZ P T ps L/\gO st.tmps d p fun tm=>bP ((L.map fun x=>((d,x.1),x.2))++cx d st.own) fun ow=>K sc' ⟨tm,st.boxes,ow⟩)
  |none=>False
 | .store T x (.tmp t),.y vs :: sc' => zX st.tmps t fun vt => match vt with
  | .agg l => match o.dst with
   | none => qy GE st.tmps x fun vx => match vx with
    | .bptr i off => bP (Tt t st.own) fun L => l = vs∧mP st.boxes i fun B => match B with
     | .cells cs own => match xN (L.map (·.1)) && decide (vs.length = P.cellsOf T) && (P.info? T).isSome && decide (off + vs.length ≤ cs.length) && vs.all PVal.one with
      | true => bP (cs.take off ++ vs ++ cs.drop (off + vs.length)) fun cs' => bP ((L.map fun y => (off + y.1,y.2)).reverse ++ own.filter fun y => y.1 < off || off + vs.length ≤ y.1) fun own' =>
        gO st.boxes i (.cells cs' own') fun H=>bP (st.own.filter fun x=>!L.any fun y=>x.1==(t,y.1)) fun ow=>K sc' ⟨st.tmps,H,ow⟩
      |false=>False
     |_=>False
    |_=>False
   |some _=>False
  |_=>P1 P GE A o id sc st K
 | .load T x,.z l :: sc' => match P.underlying T with
  | some (.struct _) => match o.dst with
   | some d => X7 st.tmps.length d (qy GE st.tmps x fun vx => match vx with
    | .bptr i off => mP st.boxes i fun B => match B with
     | .cells cs own => bm P T (cs.drop off) = some (.agg l)∧bP (Z7 off (P.cellsOf T) own) fun L => match xN (L.map (·.1)) with
      | true => gO st.tmps d (.agg l) fun tm => bP (own.filter fun x => !L.any fun y => x.1 == off + y.1) fun own' => gO st.boxes i (.cells cs own') fun H =>
        bP ((L.map fun y=>((d,y.1),y.2)).reverse++cx d st.own) fun ow=>K sc' ⟨tm,H,ow⟩
      |false=>False
     |_=>False
    |_=>False)
   |none=>False
  |_=>P1 P GE A o id sc st K
 |.box _ x,.e vs::sc'=>match o.dst with
  |some d=>X7 st.tmps.length d (qy GE st.tmps x fun vx=>bK vx=some vs/\gO st.tmps d (.eptr vs) fun tm=>bP (cx d st.own) fun ow=>K sc' ⟨tm,st.boxes,ow⟩)
  |none=>False
 |.call {callee:=.value f,args,..},.cg c::sc'=>match o.dst with
  |some d=>X7 st.tmps.length d (yU P GE f args.toList c st fun H=>gO st.tmps d c.r fun tm=>bP ((c.ro.map fun x=>((d,x.1),x.2))++cx d (st.own.filter fun z=>!c.oa.any fun x=>z.1==(x.t,x.k))) fun ow=>K sc' ⟨tm,H,ow⟩)
  |none=>False
 | .call { callee := .builtin .append,args:=⟨[.tmp t,y]⟩,argTypes:=⟨[T,T']⟩ },.ar i e n cs :: sc' => match o.dst with
  | some d => X7 st.tmps.length d (zX st.tmps t fun ve => qy GE st.tmps y fun vn => match ve,vn with
   | .slice [],.slice ns => match decide (T = T') && decide (((t,0),e) ∈ st.own) && decide (i = st.boxes.length) with
    | true => P.underlying T = some (.slice e)∧(∃ p,lW P T [] ns = some p)∧(n = ns.length∧cs = ns.flatten) ∧
      gO st.tmps d (.bsl i 0 n) fun tm=>bP (cx d (st.own.filter fun x=>x.1 !=(t,0))) fun ow=>UI st.boxes [.cells cs []] fun H=>K sc' ⟨tm,H,ow⟩
    |false=>False
   |_,_=>False)
  |none=>False
 | .call { callee := .value f,args:=⟨[x]⟩,.. },.ar i e n cs :: sc' => match o.dst with
  | some d => X7 st.tmps.length d (qy GE st.tmps f fun vf => qy GE st.tmps x fun vn => match vf,vn with
   | .func (.func g) [] [],.slice ns => match decide (i = st.boxes.length) with
    | true => nJ P g e∧(0 < P.cellsOf e∧(∀ x ∈ ns,x.length = P.cellsOf e∧∀ q ∈ x,q.one = true)∧ns.length ≤ eY)∧(n = ns.length∧cs = ns.flatten) ∧
      gO st.tmps d (.bsl i 0 n) fun tm=>bP (cx d st.own) fun ow=>UI st.boxes [.cells cs []] fun H=>K sc' ⟨tm,H,ow⟩
    |false=>False
   |_,_=>False)
  |none=>False
 | .store T x (.const v),.ar _ e _ _ :: sc' => match o.dst,mQ v with
  | none,true => qy GE st.tmps x fun vx => qy GE st.tmps (.const v) fun vy => match vx,bK vy with
   | .bptr i off,some vs => mP st.boxes i fun B => match B with
    |.cells cs own=>match decide (vs.length=P.cellsOf T)&&(P.info? T).isSome&&decide (off+vs.length<=cs.length)&&vs.all PVal.one with
     |true=>bP (cs.take off++vs++cs.drop (off+vs.length)) fun cs'=>bP ((off,e)::own.filter fun y=>y.1<off||off+vs.length<=y.1) fun own'=>gO st.boxes i (.cells cs' own') fun H=>K sc' ⟨st.tmps,H,st.own⟩
     |false=>False
    |_=>False
   |_,_=>False
  |_,_=>False
 |_,_=>P1 P GE A o id sc st K
def PZ(P:Program)(GE:List (Nat×List PVal))(A:List Nat)(ops:Array Oper)(K:List It->aA->Prop):List Oper->Nat->Nat->List It->aA->Prop
 |[],_,_,sc,st=>K sc st
 | o :: rest,pos,id,sc,st =>
  let step (sc:List It) (st:aA):Prop:=Of P GE A o id sc st fun sc' st'=>PZ P GE A ops K rest (pos+1) (id+if aS o.op then 1 else 0) sc' st'
  match o.guard with
  |none=>step sc st
  |some (j,want)=>Od ops j want pos sc st fun b sc' st'=>match b with
   |true=>step sc' st'
   |false=>SK st' o.dst (.val undef) [] st'.boxes fun st''=>PZ P GE A ops K rest (pos+1) (id+if aS o.op then 1 else 0) sc' st''
section
variable{P:Program}{GE:List (Nat×List PVal)}{A:List Nat}{ops:Array Oper}
theorem UX{f:Operand}{args:List Operand}{tmps:List PVal}{H:List aN}{sc:List It}{K:PVal->List (Nat×TypeId)->List It->Prop}(h:YH P GE f args tmps sc K):
  Ir P GE (opv GE tmps f) (args.map (opv GE tmps)) H fun r ro H'=>H'=H/\∃sc',K r ro sc':=by
 unfold YH at h
 rw[cC]at h
 split at h
 ·rename_i g first cap hf
  rw[wc]at h
  split at h
  ·rename_i r ro sc'
   rw[hf]
   exact .inl ⟨h.1.1,r,ro,h.1.2,rfl,sc',h.2⟩
  ·exact h.elim
 ·exact h.elim
theorem Gf{op:Op}{id:Nat}{v:Operand->PVal}{H H':List aN}{p:PVal}{K:PVal->List (Nat×TypeId)->List aN->Prop}(hn:∀f args tys,op≠.call {callee:=.value f,args,argTypes:=tys})
  (h:uo P op id v H=some (p,H')) (hk:K p [] H'):Tu P GE op id v H K:=by
 unfold Tu
 split
 ·rename_i f args tys;exact absurd rfl (hn _ _ _)
 ·rw[h];exact hk
theorem lB{o:Oper}{id:Nat}{sc:List It}{st:aA}{K:List It->aA->Prop}(h:yV P GE o id sc st K):
  pS o st.tmps.length=true/\Tu P GE o.op id (opv GE st.tmps) st.boxes fun p ro H=>(fun st'=>∃sc',K sc' st') (Ad st o.dst p ro H):=by
 unfold yV at h
 split at h
 ·exact h.elim
 ·rename_i hc
  refine⟨hc,?_⟩
  split at h
  ·rename_i f args tys ho
   have:=UX (H:=st.boxes) h
   unfold Tu
   simp only[ho]
   unfold Ir at this ⊢
   split at this
   ·rcases this with⟨k1,r,ro,k2,_,sc',k3⟩|⟨ρ,argsC,Hc,rc,ro,Hc',H',r,k1,k2,k3,k4,k5,k6,k7,k8,k9,rfl,sc',k10⟩
    ·rw[wg]at k3;exact .inl ⟨k1,r,ro,k2,sc',k3⟩
    ·rw[wg]at k10;exact .inr ⟨ρ,argsC,Hc,rc,ro,Hc',_,r,k1,k2,k3,k4,k5,k6,k7,k8,k9,sc',k10⟩
   ·exact this.elim
  ·rename_i t ho
   split at h
   ·rename_i zs sc'
    obtain⟨h1,h2⟩:=h
    simp only[bk,bU,wg]at h2
    rw[ho]
    exact Gf (by simp) (by simp only[uo,h1,vam]) ⟨sc',h2⟩
   ·exact h.elim
  ·rename_i t x ho
   rw[cC]at h
   split at h
   ·rename_i cs sc'
    obtain⟨h1,h2⟩:=h
    simp only[bU,wg]at h2
    rw[ho]
    exact Gf (by simp) (by simp only[uo,h1,vam]) ⟨sc',h2⟩
   ·exact h.elim
  ·rename_i t ho
   simp only[bU,wg]at h
   rw[ho]
   exact Gf (by simp) (by simp only[uo]) ⟨_,h⟩
  ·rename_i n1 n2 n3 n4
   obtain⟨p,H',sc',k1,k2,_⟩:=Mn (id:=id) h
   rw[wg]at k2
   exact Gf (fun f args tys e=>n1 f args tys e) k1 ⟨sc',k2⟩
theorem Cm{o:Oper}{id:Nat}{sc:List It}{st:aA}{K:List It->aA->Prop}(h:P1 P GE A o id sc st K):Mz P GE A o id (fun st'=>∃sc',K sc' st') st:=by
 unfold P1 at h
 unfold Mz
 split at h
 case h_1 t d ho hd=>
  obtain⟨h1,h2⟩:=rv h
  simp only[iX,bU,bk]at h2
  simp only[ho,hd]
  exact⟨h1,_,h2⟩
 case h_2 t d ho hd=>
  simp only[ho,hd]
  split at h
  ·rename_i hA
   obtain⟨h1,h2⟩:=rv h
   simp only[iX,bU,bk]at h2
   rw[vad (by simpa using hA)]
   exact⟨h1,_,h2⟩
  ·rename_i hA
   rw[vae (by simpa using hA)]
   have:=lB h
   rw[ho,hd]at this
   exact this
 case h_3 v d ho hd=>
  simp only[ho,hd]
  split at h
  ·rename_i e he
   obtain⟨h1,h2⟩:=rv h
   simp only[bU,bk]at h2
   simp only[he]
   exact⟨h1,_,h2⟩
  ·rename_i he
   simp only[he]
   have:=lB h
   rw[ho,hd]at this
   exact this
 case h_4 v d ho hd=>
  simp only[ho,hd]
  split at h
  ·rename_i e he
   obtain⟨h1,h2⟩:=rv h
   simp only[bU,bk]at h2
   simp only[he]
   exact⟨h1,_,h2⟩
  ·rename_i he
   simp only[he]
   have:=lB h
   rw[ho,hd]at this
   exact this
 case h_5 t i d ho hd=>
  obtain⟨h1,h2⟩:=rv h
  rw[iX]at h2
  obtain⟨p,h3,h4⟩:=yY h2
  simp only[bU,bk]at h4
  simp only[ho,hd,h3]
  exact⟨h1,_,h4⟩
 case h_6 T len parts d ho hd=>
  obtain⟨h1,h2⟩:=rv h
  rw[qo]at h2
  split at h2
  ·rename_i p sc' e hu
   obtain⟨h3,h4⟩:=h2
   simp only[bU,bk]at h4
   simp only[ho,hd,h3,hu]
   exact⟨h1,_,h4⟩
  ·exact h2.elim
 case h_7 t y T T' d ho hd=>
  obtain⟨h1,h2⟩:=rv h
  rw[iX,cC]at h2
  split at h2
  ·rename_i es ns p sc' e he hn hu
   split at h2
   ·rename_i hc
    simp only[vaj,vao]at hc
    obtain⟨h3,h4⟩:=h2
    simp only[bU,bk]at h4
    simp only[ho,hd,hu,he,hn,h3]
    exact⟨hc.1,h1,hc.2,_,h4⟩
   ·exact h2.elim
  ·exact h2.elim
 case h_8 T x d ho hd=>
  simp only[ho,hd]
  split at h
  ·rename_i hA
   obtain⟨h1,h2⟩:=rv h
   rw[cC]at h2
   rw[vad (by simpa using hA)]
   split at h2
   ·rename_i i off e hx hu
    obtain⟨B,hB,h2⟩:=eB h2
    split at h2
    ·rename_i cs own
     split at h2
     ·rename_i hc
      simp only[vaj,vao]at hc
      simp only[iX,bU,bk]at h2
      have hget:cs[off]? =some (cs.getD off .undef):=by
       rw[vac,vab hc.2];rfl
      simp only[hx,hu,hB,hget]
      exact⟨h1,hc.1,_,h2⟩
     ·exact h2.elim
    ·exact h2.elim
   ·exact h2.elim
  ·rename_i hA
   rw[vae (by simpa using hA)]
   have:=lB h
   rw[ho,hd]at this
   exact this
 case h_9 T x t ho=>
  simp only[ho]
  split at h
  ·rename_i y e hf
   rw[cC,iX]at h
   simp only[hf]
   unfold P0 at h
   split at h
   ·rename_i i off hx
    split at h
    ·rename_i H hst
     obtain⟨B,hB,h⟩:=eB h
     split at h
     ·rename_i cs own
      split at h
      ·rename_i hone
       simp only[bU,bk,wg]at h
       simp only[hx,hst,hB,hone]
       exact⟨_,h⟩
      ·exact h.elim
     ·exact h.elim
    ·exact h.elim
   ·exact h.elim
  ·rename_i hf
   simp only[hf]
   have:=lB h
   rw[ho]at this
   exact this
 case h_10=>
  have:=lB h
  split
  all_goals first
   |exact this
   |(exfalso;simp_all;done)
   |(exfalso;simp_all;rename_i hx h1 h2;exact hx _ _ _ _ rfl rfl rfl rfl)
   |(exfalso;simp_all;rename_i hx h1 h2;exact hx _ _ _ _ _ rfl rfl rfl rfl rfl)
   |(exfalso;simp_all;rename_i hx h1 h2;exact hx _ _ _ rfl rfl rfl)
theorem G7{j:Nat}{want:Bool}{pos:Nat}{sc:List It}{st:aA}{go:Bool->List It->aA->Prop}(h:Od ops j want pos sc st go):
  ∃x,xP ops st.tmps j=some x/\((x=some want/\∃sc',go true sc' st)\/(x≠some want/\∃sc',go false sc' st)):=by
 unfold Od at h
 split at h
 ·exact h.elim
 ·rename_i t ht
  rw[iX]at h
  have hget:∀{p},st.tmps.getD t .undef=p->p≠.undef->st.tmps[t]? =some p:=by
   intro p hp hne
   rw[vac]at hp
   cases hx:st.tmps[t]? with
   |none=>rw[hx]at hp;exact absurd hp.symm hne
   |some q=>rw[hx]at hp;exact va9 some hp
  have hfin:∀(x:Bool) sc',go (x==want) sc' st->(some x=some want/\∃sc',go true sc' st)\/(some x≠some want/\∃sc',go false sc' st):=by
   intro x sc' hg
   cases x<;>cases want<;>simp at hg ⊢<;>exact⟨sc',hg⟩
  split at h
  ·rename_i x hp
   have hx:=hget hp (by simp)
   have hg:xP ops st.tmps j=some (some x):=by unfold xP;simp only[ht,hx]
   refine⟨_,hg,?_⟩
   split at h
   ·rename_i pos' b sc'
    split at h
    ·obtain⟨rfl,h⟩:=h
     rw[bU,KB hx]at h
     exact hfin x sc' h
    ·exact hfin x _ h
   ·exact hfin x _ h
  ·rename_i v hp
   have hx:=hget hp (by simp)
   split at h
   ·exact h.elim
   ·rename_i hb
    refine⟨none,?_,.inr ⟨by simp,_,h⟩⟩
    unfold xP
    simp only[ht,hx]
    cases v<;>simp[qkW]at hb<;>rfl
  ·exact h.elim
theorem Sc{o:Oper}{id:Nat}{sc:List It}{st:aA}{K:List It->aA->Prop}(h:Of P GE A o id sc st K):Fk P GE A o id (fun st'=>∃sc',K sc' st') st:=by
 unfold Of at h
 split at h
 ·rename_i T parts p L sc' ho
  split at h
  ·rename_i d hd
   obtain⟨h1,h2⟩:=rv h
   rw[qo]at h2
   obtain⟨h3,h4,h5⟩:=h2
   simp only[bU,bk]at h5
   refine .inr (.inl ?_)
   unfold QX
   simp only[ho,hd]
   exact⟨p,L,h3,h4,h1,sc',h5⟩
  ·exact h.elim
 ·rename_i T x t vs sc' ho
  rw[iX]at h
  split at h
  ·rename_i l hl
   split at h
   ·rename_i hd
    rw[cC]at h
    split at h
    ·rename_i i off hx
     rw[bk]at h
     obtain⟨rfl,h⟩:=h
     obtain⟨B,hB,h⟩:=eB h
     split at h
     ·rename_i cs own
      split at h
      ·rename_i hc
       simp only[bU,bk]at h
       simp only[vaj,vao]at hc
       obtain⟨⟨⟨⟨c1,c2⟩,c3⟩,c4⟩,c5⟩:=hc
       refine .inr (.inl ?_)
       unfold QX
       simp only[ho,hd]
       have hi:=av hB
       refine⟨i,off,st.boxes.set i (.cells (cs.take off++l++cs.drop (off+l.length)) (own.filter fun y=>y.1<off||off+l.length<=y.1)),_,_,Tt t st.own,l,hx,hl,?_,van hi,fun y hy=>LP hy,qn c1,sc',?_⟩
       ·simp only[eh,bK,hB]
        rw[vad ⟨c2,c3,c4,c5⟩]
       ·rw[vbV];exact h
      ·exact h.elim
     ·exact h.elim
    ·exact h.elim
   ·exact h.elim
  ·exact .inl (Cm h)
 ·rename_i T x l sc' ho
  split at h
  ·rename_i fs hT
   split at h
   ·rename_i d hd
    obtain⟨h1,h⟩:=rv h
    rw[cC]at h
    split at h
    ·rename_i i off hx
     obtain⟨B,hB,h⟩:=eB h
     split at h
     ·rename_i cs own
      obtain⟨h2,h⟩:=h
      rw[bk]at h
      split at h
      ·rename_i hn
       simp only[bU,bk]at h
       refine .inr (.inl ?_)
       unfold QX
       simp only[ho,hd]
       have hlen:l.length=P.cellsOf T:=by
        have hp:=h2
        unfold bm at hp
        rw[hT]at hp
        simp only at hp
        split at hp
        ·rename_i hh;cases hp;rw[vaO];omega
        ·cases hp
       exact⟨i,off,cs,own,_,l,⟨fs,hT⟩,hx,hB,h2,fun y hy=>(Ge hy).1,qn hn,fun y hy=>by rw[hlen];exact(Ge hy).2,h1,sc',h⟩
      ·exact h.elim
     ·exact h.elim
    ·exact h.elim
   ·exact h.elim
  ·exact .inl (Cm h)
 ·rename_i T x vs sc' ho
  split at h
  ·rename_i d hd
   obtain⟨h1,h⟩:=rv h
   rw[cC]at h
   obtain⟨h2,h⟩:=h
   simp only[bU,bk]at h
   refine .inr (.inl ?_)
   unfold QX
   simp only[ho,hd]
   exact⟨vs,h2,h1,sc',h⟩
  ·exact h.elim
 ·rename_i f args tys c sc' ho
  split at h
  ·rename_i d hd
   obtain⟨h1,h⟩:=rv h
   obtain⟨H',h2,h3⟩:=G6 h
   simp only[bU,bk]at h3
   refine .inr (.inl ?_)
   unfold QX
   simp only[ho,hd]
   exact⟨c.r,c.ro,H',c.oa,h2,h1,sc',h3⟩
  ·exact h.elim
 ·rename_i t y T T' i e n cs sc' ho
  split at h
  ·rename_i d hd
   have hh:=rv h
   clear h
   obtain⟨h1,h⟩:=hh
   rw[iX,cC]at h
   split at h
   ·rename_i ns he hn
    split at h
    ·rename_i hc
     simp only[vaj,vao]at hc
     obtain⟨⟨rfl,c2⟩,rfl⟩:=hc
     obtain⟨h2,⟨p,h3⟩,⟨rfl,rfl⟩,h4⟩:=h
     simp only[bU,bk,UI,bk]at h4
     refine .inr (.inr ?_)
     unfold Y8
     simp only[ho,hd]
     exact⟨e,ns,p,trivial,h2,he,hn,h3,c2,h1,sc',h4⟩
    ·exact h.elim
   ·exact h.elim
  ·exact h.elim
 ·rename_i f x tys i e n cs sc' ho
  split at h
  ·rename_i d hd
   have hh:=rv h
   clear h
   obtain⟨h1,h⟩:=hh
   rw[cC,cC]at h
   split at h
   ·rename_i g ns hg hn
    split at h
    ·rename_i hc
     simp only[vao]at hc
     subst hc
     obtain⟨h2,⟨h3,h4,h5⟩,⟨rfl,rfl⟩,h6⟩:=h
     simp only[bU,bk,UI,bk]at h6
     refine .inr (.inr ?_)
     unfold Y8
     simp only[ho,hd]
     exact⟨g,e,ns,hg,h2,hn,h3,h4,h5,h1,sc',h6⟩
    ·exact h.elim
   ·exact h.elim
  ·exact h.elim
 ·rename_i T x v i0 e n0 cs0 sc' ho
  split at h
  ·rename_i hd hv
   have hv':v=.slice none 0 0:=by
    unfold mQ at hv
    split at hv
    ·rfl
    ·cases hv
   subst hv'
   rw[cC,cC]at h
   split at h
   ·rename_i i off vs hx hpc
    obtain⟨B,hB,h⟩:=eB h
    split at h
    ·rename_i cs own
     split at h
     ·rename_i hc
      simp only[bU,bk]at h
      simp only[vaj,vao]at hc
      obtain⟨⟨⟨c2,c3⟩,c4⟩,c5⟩:=hc
      refine .inr (.inr ?_)
      unfold Y8
      simp only[ho,hd]
      have hi:=av hB
      refine⟨i,off,e,st.boxes.set i (.cells (cs.take off++vs++cs.drop (off+vs.length)) (own.filter fun y=>y.1<off||off+vs.length<=y.1)),_,_,trivial,hx,?_,van hi,sc',?_⟩
      ·simp only[eh,hpc,hB]
       rw[vad ⟨c2,c3,c4,c5⟩]
      ·rw[vbV];exact h
     ·exact h.elim
    ·exact h.elim
   ·exact h.elim
  ·exact h.elim
 ·exact .inl (Cm h)
theorem Fl{o:Oper}{id:Nat}{K K':aA->Prop}{st:aA}(hk:∀st,K st->K' st)(h:Fk P GE A o id K st):Fk P GE A o id K' st:=by
 rcases h with h|h|h
 ·exact .inl (Zb hk h)
 rotate_left
 ·refine .inr (.inr ?_)
  unfold Y8 at *
  split at h
  ·obtain⟨e,ns,p,h1,h2,h3,h4,h5,h6,h7,h8⟩:=h;exact⟨e,ns,p,h1,h2,h3,h4,h5,h6,h7,hk _ h8⟩
  ·obtain⟨g,e,ns,h1,h2,h3,h4,h5,h6,h7,h8⟩:=h;exact⟨g,e,ns,h1,h2,h3,h4,h5,h6,h7,hk _ h8⟩
  ·obtain⟨i,off,e,H,cs,own,h1,h2,h3,h4,h5⟩:=h;exact⟨i,off,e,H,cs,own,h1,h2,h3,h4,hk _ h5⟩
  ·exact h
 ·refine .inr (.inl ?_)
  unfold QX at *
  split at h
  ·obtain⟨p,L,h1,h2,h3,h4⟩:=h;exact⟨p,L,h1,h2,h3,hk _ h4⟩
  ·obtain⟨i,off,H,cs,own,L,l,h1,h2,h3,h4,h5,h6,h7⟩:=h;exact⟨i,off,H,cs,own,L,l,h1,h2,h3,h4,h5,h6,hk _ h7⟩
  ·obtain⟨i,off,cs,own,L,l,h0,h1,h2,h3,h4,h5,h6,h7,h8⟩:=h;exact⟨i,off,cs,own,L,l,h0,h1,h2,h3,h4,h5,h6,h7,hk _ h8⟩
  ·obtain⟨vs,h1,h2,h3⟩:=h;exact⟨vs,h1,h2,hk _ h3⟩
  ·obtain⟨r,ro,H',oa,h1,h2,h3⟩:=h;exact⟨r,ro,H',oa,h1,h2,hk _ h3⟩
  ·exact h
theorem Cl{K:List It->aA->Prop}:∀(rest:List Oper) (pos id:Nat) (sc:List It) (st:aA),PZ P GE A ops K rest pos id sc st->dJ P GE A ops (fun st=>∃sc,K sc st) rest id st
 |[],_,_,sc,st,h=>⟨sc,h⟩
 | o :: rest,pos,id,sc,st,h => by
  simp only[PZ]at h
  have step:∀sc st,Of P GE A o id sc st (fun sc' st'=>PZ P GE A ops K rest (pos+1) (id+if aS o.op then 1 else 0) sc' st')->Fk P GE A o id (dJ P GE A ops (fun st=>∃sc,K sc st) rest (id+if aS o.op then 1 else 0)) st:=
   fun sc st hs=>Fl (fun st' hx=>by obtain⟨sc',hx⟩:=hx;exact Cl rest _ _ sc' st' hx) (Sc hs)
  unfold dJ
  split at h
  ·rename_i hg;simp only[hg];exact step _ _ h
  ·rename_i j want hg
   obtain⟨x,hx,hc⟩:=G7 h
   simp only[hg,hx]
   rcases hc with⟨rfl,sc',hc⟩|⟨hne,sc',hc⟩
   ·exact⟨fun _=>step _ _ hc,fun hn=>absurd rfl hn⟩
   ·refine⟨fun he=>absurd he hne,fun _=>?_⟩
    simp only[wg]at hc
    exact Cl rest _ _ sc' _ hc
end
end Go.Proofs.YtbaamopmfmpfaaaGreatDoor
