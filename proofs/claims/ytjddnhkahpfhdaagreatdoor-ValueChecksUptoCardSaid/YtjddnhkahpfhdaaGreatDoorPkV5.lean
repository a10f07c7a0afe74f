/- PROVED: a part of the proof. Conditions: none. -/
import Derived.Test.YtjddnhkahpfhdaaGreatDoorPkV4
set_option linter.unusedSimpArgs false
set_option linter.unusedVariables false
noncomputable section
namespace Go.Proofs.YtjddnhkahpfhdaaGreatDoor
open Go
structure GC where
 ρ:List Nat
 argsC:List PVal
 oa:List OA
 Bs:List av
 Hc:List av
 Bs':List av
 Hc':List av
 r:PVal
 rc:PVal
 ro:List (Nat×TypeId)
inductive It where
 |cg (c:GC)
 |cn (c:GC)
 |ar (i:Nat) (e:TypeId) (n:Nat) (cs:List PVal)
 |fz (i:Nat) (es:List (List PVal)) (lv rk:List Nat)
 |g (j:Nat) (b:Bool)
 |k
 |s
 |v (p:PVal)
 |x (cs:List PVal)
 |w (i:Nat) (B:av)
 |c (r:PVal) (ro:List (Nat×TypeId))
 |dr (an:List Nat)
 |dx (an:List Nat) (X:List av) (br:List (Nat×Nat)) (rw:List Nat)
 |pa (n:Nat)
 |pc (st0:az) (e:Exit) (st1:az)
 |b (p:PVal) (L:List (Nat×TypeId))
 |y (vs:List PVal)
 |z (l:List PVal)
 |e (vs:List PVal)
 |sh (t k:Nat) (e:TypeId)
def ml:List PVal->Nat->(PVal->Prop)->Prop
 |[],_,k=>k .undef
 |p::_,0,k=>k p
 |_::l,n+1,k=>ml l n k
theorem ef:∀(l:List PVal) (n:Nat) (k:PVal->Prop),ml l n k=k (l.getD n .undef)
 |[],_,_=>by simp[ml]
 |_::_,0,_=>by simp[ml]
 |_::l,n+1,k=>by simp only[ml,ef l n k,List.getD_cons_succ]
def dq{α:Type}:List α->Nat->α->(List α->Prop)->Prop
 |[],_,_,k=>k []
 |_::l,0,v,k=>k (v::l)
 |x::l,n+1,v,k=>dq l n v λl'=>k (x::l')
theorem aY{α:Type}:∀(l:List α) (n:Nat) (v:α) (k:List α->Prop),dq l n v k=k (l.set n v)
 |[],_,_,_=>by simp[dq]
 |_::_,0,_,_=>by simp[dq]
 |x::l,n+1,v,k=>by simp only[dq,aY l n v,List.set_cons_succ]
def aT{α:Type}:List α->(List α->Prop)->Prop
 |[],k=>k []
 |x::l,k=>aT l λl'=>k (x::l')
def Df(l:List av)(r:List av)(k:List av->Prop):Prop:=aT (l++r) k
theorem aA{α:Type}:∀(l:List α) (k:List α->Prop),aT l k=k l
 |[],_=>rfl
 |x::l,k=>by simp only[aT,aA l]
def RH:Value->(PVal->Prop)->Prop
 |.int a n,k=>k (.int a n)
 |.bool b,k=>k (.bool b)
 |.string s,k=>aT s.data.toList λl=>k (.str l)
 |v,k=>k (absV v)
theorem P9(v:Value)(k:PVal->Prop):RH v k=k (absV v):=by
 unfold RH
 split
 ·rfl
 ·rfl
 ·rw[aA];rfl
 ·rfl
def jq(GE:List (Nat×List PVal))(tmps:List PVal)(x:Operand)(k:PVal->Prop):Prop:=
 match x with
 |.tmp t=>ml tmps t k
 |.const v=>RH v k
 |x=>k (opv GE tmps x)
theorem bv(GE:List (Nat×List PVal))(tmps:List PVal)(x:Operand)(k:PVal->Prop):jq GE tmps x k=k (opv GE tmps x):=by
 cases x with
 |tmp t=>exact ef _ _ _
 |const v=>exact P9 _ _
 |global g=>rfl
 |func f=>rfl
def EU(GE:List (Nat×List PVal))(tmps:List PVal):List Operand->(List PVal->Prop)->Prop
 |[],k=>k []
 |x::l,k=>jq GE tmps x λp=>EU GE tmps l λps=>k (p::ps)
theorem io(GE:List (Nat×List PVal))(tmps:List PVal):∀(l:List Operand) (k:List PVal->Prop),EU GE tmps l k=k (l.map (opv GE tmps))
 |[],_=>rfl
 |x::l,k=>by simp only[EU,bv,io GE tmps l,vaQ]
def qi(GE:List (Nat×List PVal))(tmps:List PVal):List (Nat×Operand)->(List (Nat×PVal)->Prop)->Prop
 |[],k=>k []
 |x::l,k=>jq GE tmps x.2 λp=>qi GE tmps l λps=>k ((x.1,p)::ps)
theorem jQ(GE:List (Nat×List PVal))(tmps:List PVal):∀(l:List (Nat×Operand)) (k:List (Nat×PVal)->Prop),qi GE tmps l k=k (l.map λx=>(x.1,opv GE tmps x.2))
 |[],_=>rfl
 |x::l,k=>by simp only[qi,bv,jQ GE tmps l,vaQ]
def QQ(GE:List (Nat×List PVal))(tmps:List PVal):Option Operand->(Option PVal->Prop)->Prop
 |none,k=>k none
 |some x,k=>jq GE tmps x λp=>k (some p)
theorem QR(GE:List (Nat×List PVal))(tmps:List PVal)(o:Option Operand)(k:Option PVal->Prop):QQ GE tmps o k=k (o.map (opv GE tmps)):=by
 cases o with
 |none=>rfl
 |some x=>simp only[QQ,bv,vak]
def yJ(sc:List It)(f:PVal->Prop)(K:PVal->List It->Prop):Prop:=
 match sc with
 |.v p::sc'=>f p/\K p sc'
 |_=>False
def GA(o:Option PVal)(K:PVal->Prop):Prop:=
 match o with
 |some p=>K p
 |none=>False
theorem pL{o:Option PVal}{K:PVal->Prop}(h:GA o K):∃p,o=some p/\K p:=by
 unfold GA at h
 split at h
 ·exact⟨_,rfl,h⟩
 ·exact h.elim
theorem ja{sc:List It}{f:PVal->Prop}{K:PVal->List It->Prop}(h:yJ sc f K):∃p sc',f p/\K p sc':=by
 unfold yJ at h
 split at h
 ·exact⟨_,_,h⟩
 ·exact h.elim
def CC(P:Program)(GE:List (Nat×List PVal))(g:FuncId)(args:List PVal)(r:PVal)(ro:List (Nat×TypeId)):Prop:=dO 0 args/\C P GE g args [] [] r ro []
def E4(P:Program)(t:TypeId)(es:List (PVal×PVal))(k:PVal)(ok:Bool):Option PVal:=
 match P.underlying t with
 | some (.map kt e) => match P.underlying kt with
  | some kd =>
   if jB kd k then
    match vp k es 0,Fh P e with
    |some (some (_,v)),_=>some (if ok then .tuple [v,.bool true]else v)
    |some none,some z=>some (if ok then .tuple [z,.bool false]else z)
    |_,_=>none
   else none
  |_=>none
 |_=>none
theorem HK{P:Program}{t:TypeId}{es:List (PVal×PVal)}{k p:PVal}{ok:Bool}{H:List av}{i:Nat}(hB:H[i]? =some (.map es))(h:E4 P t es k ok=some p):pR P t (.mapr i) k ok H=some p:=by
 unfold E4 at h
 unfold pR
 split at h
 ·rename_i kt e hu
  split at h
  ·rename_i kd hk
   simp only[hu,hB,hk]
   exact h
  ·cases h
 ·cases h
def HQ(P:Program)(t:TypeId)(es:List (PVal×PVal))(k v:PVal):Option (List (PVal×PVal)):=
 match P.underlying t with
 | some (.map kt _) => match P.underlying kt with
  | some kd =>
   if jB kd k then
    match vp k es 0 with
    |some (some (j,_))=>some (es.set j (k,v))
    |some none=>some (es++[(k,v)])
    |none=>none
   else none
  |_=>none
 |_=>none
theorem Fa{P:Program}{t:TypeId}{es es':List (PVal×PVal)}{k v:PVal}{H:List av}{i:Nat}(hB:H[i]? =some (.map es))(h:HQ P t es k v=some es'):fa P t (.mapr i) k v H=some (H.set i (.map es')):=by
 unfold HQ at h
 unfold fa
 split at h
 ·rename_i kt e hu
  split at h
  ·rename_i kd hk
   simp only[hu,hB,hk]
   split at h
   ·rename_i hkk
    rw[vaD hkk]
    split at h
    ·rename_i hf;cases h;simp[hf]
    ·rename_i hf;cases h;simp[hf]
    ·cases h
   ·cases h
  ·cases h
 ·cases h
def im:List av->Nat->(av->Prop)->Prop
 |[],_,_=>False
 |B::_,0,k=>k B
 |_::l,n+1,k=>im l n k
theorem cF:∀{l:List av} {n:Nat} {k:av->Prop},im l n k->∃B,l[n]? =some B/\k B
 |[],_,_,h=>h.elim
 |B::_,0,_,h=>⟨B,rfl,h⟩
 |_::l,n+1,k,h=>by simp only[im]at h;obtain⟨B,h1,h2⟩:=cF h;exact⟨B,by simpa using h1,h2⟩
def M6(op:BinOp)(x:PVal):Bool:=match op,x with
 |.quo,_=>true
 |.rem,_=>true
 |.add,.str _=>true
 |_,.agg _=>true
 |_,_=>false
def Md(P:Program)(GE:List (Nat×List PVal))(op:Op)(tmps:List PVal)(H:List av)(sc:List It)(K:PVal->List av->List It->Prop):Prop:=
 match op with
 |.move x=>jq GE tmps x λp=>K p H sc
 |.assign x=>jq GE tmps x λp=>K p H sc
 |.pick c x y=>jq GE tmps c λpc=>match pc with
  |.bool true=>jq GE tmps x λp=>K p H sc
  |.bool false=>jq GE tmps y λp=>K p H sc
  |_=>False
 |.binOp op T x y _=>jq GE tmps x λvx=>jq GE tmps y λvy=>match M6 op vx with
  |true=>yJ sc (λp=>IW P op T vx vy=some p) λp sc'=>K p H sc'
  |false=>GA (IW P op T vx vy) λp=>K p H sc
 |.unOp op _ x=>jq GE tmps x λvx=>GA (Uv op vx) λp=>K p H sc
 |.convert s d x=>jq GE tmps x λvx=>yJ sc (λp=>Mw P s d vx=some p) λp sc'=>K p H sc'
 |.extract t i=>jq GE tmps t λvt=>GA (ou vt i) λp=>K p H sc
 |.nilCheck x=>jq GE tmps x λvx=>match vx with
  |.eptr cs=>K (.eptr cs) H sc
  |.bptr i off=>K (.bptr i off) H sc
  |.func (.func f) first cap=>K (.func (.func f) first cap) H sc
  |_=>False
 |.makeFunc fn first cap=>EU GE tmps first.toList λf=>EU GE tmps cap.toList λc=>K (.func fn f c) H sc
 | .load t x => jq GE tmps x fun vx => match vx with
  |.eptr cs=>yJ sc (λp=>aG P t cs=some p) λp sc'=>K p H sc'
  | .bptr i off => im H i fun B => match B with
   |.cells cs _=>match sc with
    |.s::sc'=>GA (aG P t (cs.drop off)) λp=>K p H sc'
    |.v p::sc'=>aG P t (cs.drop off)=some p/\K p H sc'
    |_=>False
   |_=>False
  |_=>False
 | .store t x y => jq GE tmps x fun vx => jq GE tmps y fun vy => match vx,sc with
  | .bptr i off,.s :: sc' => match bA vy with
   | some vs => im H i fun B => match B with
    |.cells cs own=>match decide (vs.length=P.cellsOf t)&&(P.info? t).isSome&&decide (off+vs.length<=cs.length)&&vs.all PVal.one with
     |true=>aT (cs.take off++vs++cs.drop (off+vs.length)) λcs'=>dq H i (.cells cs' (own.filter λy=>y.1<off||off+vs.length<=y.1)) λH'=>K (.val undef) H' sc'
     |false=>False
    |_=>False
   |none=>False
  | .bptr i off,.x vs :: sc' => bA vy = some vs∧(im H i fun B => match B with
    |.cells cs own=>match decide (vs.length=P.cellsOf t)&&(P.info? t).isSome&&decide (off+vs.length<=cs.length)&&vs.all PVal.one with
     |true=>aT (cs.take off++vs++cs.drop (off+vs.length)) λcs'=>dq H i (.cells cs' (own.filter λy=>y.1<off||off+vs.length<=y.1)) λH'=>K (.val undef) H' sc'
     |false=>False
    |_=>False)
  |.bptr i off,.w _ (.cells cs' own')::sc'=>im H i λB=>(df P t (.bptr 0 off) vy [B]=some [.cells cs' own'])/\dq H i (.cells cs' own') λH'=>K (.val undef) H' sc'
  |_,_=>False
 |.fieldAddr s x f=>jq GE tmps x λvx=>match vx with
  |.bptr i off=>GA (au P s (.bptr i off) f) λp=>K p H sc
  |vx=>yJ sc (λp=>au P s vx f=some p) λp sc'=>K p H sc'
 |.field t x f=>jq GE tmps x λvx=>yJ sc (λp=>I1 P t vx f=some p) λp sc'=>K p H sc'
 |.indexAddr t x i=>jq GE tmps x λvx=>jq GE tmps i λvi=>yJ sc (λp=>jM P t vx vi=some p) λp sc'=>K p H sc'
 |.index t x i=>jq GE tmps x λvx=>jq GE tmps i λvi=>yJ sc (λp=>I2 P t vx vi=some p) λp sc'=>K p H sc'
 | .lookup t m k ok => jq GE tmps m fun vm => jq GE tmps k fun vk => match vm with
  |.mapr i=>im H i λB=>match B with
   |.map es=>yJ sc (λp=>E4 P t es vk ok=some p) λp sc'=>K p H sc'
   |_=>False
  |_=>False
 | .mapUpdate t m k x => jq GE tmps m fun vm => jq GE tmps k fun vk => jq GE tmps x fun vx => match vm,sc with
  |.mapr i,.w _ (.map es')::sc'=>im H i λB=>match B with
   |.map es=>HQ P t es vk vx=some es'/\dq H i (.map es') λH'=>K (.val undef) H' sc'
   |_=>False
  |_,_=>False
 |.slice t x lo hi none=>jq GE tmps x λvx=>QQ GE tmps lo λvl=>QQ GE tmps hi λvh=>yJ sc (λp=>mn P t vx vl vh none=some p) λp sc'=>K p H sc'
 |.build t parts=>qi GE tmps parts.toList λps=>yJ sc (λp=>dp P t ps=some p) λp sc'=>K p H sc'
 |.buildSlice t len parts=>qi GE tmps parts.toList λps=>yJ sc (λp=>dK P t len ps=some p) λp sc'=>K p H sc'
 | .call { callee := .builtin .len,args:=⟨[x]⟩,argTypes:=⟨[t]⟩ } => jq GE tmps x fun vx => match vx with
  |.mapr i=>im H i λB=>match B with
   |.map es=>yJ sc (λp=>p=.int .i64 es.length/\(P.underlying t).any (λd=>match d with|.map _ _=>true|_=>false)=true) λp sc'=>K p H sc'
   |_=>False
  |vx=>yJ sc (λp=>∀H,wG P t vx H=some p) λp sc'=>K p H sc'
 |.call {callee:=.builtin .max,args:=⟨x::r⟩,..}=>jq GE tmps x λvx=>EU GE tmps r λvr=>GA (Cm Mx vx vr) λp=>K p H sc
 |.call {callee:=.builtin .min,args:=⟨x::r⟩,..}=>jq GE tmps x λvx=>EU GE tmps r λvr=>GA (Cm My vx vr) λp=>K p H sc
 |_=>False
section
variable{P:Program}{GE:List (Nat×List PVal)}
theorem NG{t:TypeId}{off i:Nat}{y:PVal}{H:List av}{B:av}{cs':List PVal}{own':List (Nat×TypeId)}(hB:H[i]? =some B)(h:df P t (.bptr 0 off) y [B]=some [.cells cs' own']):df P t (.bptr i off) y H=some (H.set i (.cells cs' own')):=by
 unfold df at h ⊢
 split at h
 ·rename_i i' off' vs h1 h2
  cases h1
  simp only[h2]
  change (match(some B:Option av)with|some (.cells cs own)=>_|_=>none)=_ at h
  rw[hB]
  split at h
  ·rename_i hb
   cases hb
   simp only
   split at h
   ·rename_i hc
    rw[vaD hc]
    simp only[List.set_cons_zero,vaw,vbL,vb4]at h
    rw[h]
   ·cases h
  ·cases h
 ·cases h
theorem Pp(t:TypeId)(id:Nat)(v:Operand->PVal)(x:Operand)(H:List av):iu P (.load t x) id v H=(ko P t (v x) H).map λp=>(p,H):=rfl
theorem Cf{op:Op}{id:Nat}{tmps:List PVal}{H:List av}{sc:List It}{K:PVal->List av->List It->Prop}(h:Md P GE op tmps H sc K):∃p H' sc',iu P op id (opv GE tmps) H=some (p,H')/\K p H' sc'/\H'.length=H.length:=by
 unfold Md at h
 split at h
 case h_1=>rw[bv]at h;exact⟨_,_,_,rfl,h,rfl⟩
 case h_2=>rw[bv]at h;exact⟨_,_,_,rfl,h,rfl⟩
 case h_3 c x y=>
  rw[bv]at h
  split at h
  ·rename_i hc;rw[bv]at h;exact⟨_,_,_,by simp only[iu,hc],h,rfl⟩
  ·rename_i hc;rw[bv]at h;exact⟨_,_,_,by simp only[iu,hc],h,rfl⟩
  ·exact h.elim
 case h_4=>
  simp only[bv]at h
  split at h
  ·obtain⟨p,sc',h1,h2⟩:=ja h;exact⟨p,_,sc',by simp only[iu,h1,vak],h2,rfl⟩
  ·obtain⟨p,h1,h2⟩:=pL h;exact⟨p,_,_,by simp only[iu,h1,vak],h2,rfl⟩
 case h_5=>simp only[bv]at h;obtain⟨p,h1,h2⟩:=pL h;exact⟨p,_,_,by simp only[iu,h1,vak],h2,rfl⟩
 case h_6=>simp only[bv]at h;obtain⟨p,sc',h1,h2⟩:=ja h;exact⟨p,_,sc',by simp only[iu,h1,vak],h2,rfl⟩
 case h_7=>simp only[bv]at h;obtain⟨p,h1,h2⟩:=pL h;exact⟨p,_,_,by simp only[iu,h1,vak],h2,rfl⟩
 case h_8=>
  simp only[bv]at h
  split at h
  ·rename_i hv;exact⟨_,_,_,by simp only[iu,hv],h,rfl⟩
  ·rename_i hv;exact⟨_,_,_,by simp only[iu,hv],h,rfl⟩
  ·rename_i hv;exact⟨_,_,_,by simp only[iu,hv],h,rfl⟩
  ·exact h.elim
 case h_9=>simp only[io]at h;exact⟨_,_,_,rfl,h,rfl⟩
 case h_10 t x=>
  simp only[bv]at h
  rw[Pp]
  split at h
  ·rename_i cs hv
   obtain⟨p,sc',h1,h2⟩:=ja h
   exact⟨p,_,sc',by simp only[hv,ko,h1,vak],h2,rfl⟩
  ·rename_i i off hv
   obtain⟨B,hB,h⟩:=cF h
   split at h
   ·rename_i cs own
    split at h
    ·obtain⟨p,h1,h2⟩:=pL h
     exact⟨p,_,_,by simp only[hv,ko,hB,h1,vak],h2,rfl⟩
    ·exact⟨_,_,_,by simp only[hv,ko,hB,h.1,vak],h.2,rfl⟩
    ·exact h.elim
   ·exact h.elim
  ·exact h.elim
 case h_11 t x y=>
  simp only[bv]at h
  split at h
  ·rename_i i off sc' hv
   split at h
   ·rename_i vs hvs
    obtain⟨B,hB,h⟩:=cF h
    split at h
    ·rename_i cs own
     split at h
     ·rename_i hc
      simp only[aA,aY]at h
      simp only[vae,vam]at hc
      exact⟨_,_,_,by simp only[iu,df,hv,hvs,hB];rw[vaD ⟨hc.1.1.1,hc.1.1.2,hc.1.2,hc.2⟩];rfl,h,by simp⟩
     ·exact h.elim
    ·exact h.elim
   ·exact h.elim
  ·rename_i i off vs sc' hv
   obtain⟨hvs,h⟩:=h
   obtain⟨B,hB,h⟩:=cF h
   split at h
   ·rename_i cs own
    split at h
    ·rename_i hc
     simp only[aA,aY]at h
     simp only[vae,vam]at hc
     exact⟨_,_,_,by simp only[iu,df,hv,hvs,hB];rw[vaD ⟨hc.1.1.1,hc.1.1.2,hc.1.2,hc.2⟩];rfl,h,by simp⟩
    ·exact h.elim
   ·exact h.elim
  ·rename_i i off j cs' own' sc' hv
   obtain⟨B,hB,h1,h2⟩:=cF h
   rw[aY]at h2
   exact⟨_,_,_,by simp only[iu,hv,NG hB h1];rfl,h2,by simp⟩
  ·exact h.elim
 case h_12=>
  simp only[bv]at h
  split at h
  ·rename_i hv
   obtain⟨p,h1,h2⟩:=pL h;exact⟨p,_,_,by simp only[iu,hv,h1,vak],h2,rfl⟩
  ·obtain⟨p,sc',h1,h2⟩:=ja h;exact⟨p,_,sc',by simp only[iu,h1,vak],h2,rfl⟩
 case h_13=>simp only[bv]at h;obtain⟨p,sc',h1,h2⟩:=ja h;exact⟨p,_,sc',by simp only[iu,h1,vak],h2,rfl⟩
 case h_14=>simp only[bv]at h;obtain⟨p,sc',h1,h2⟩:=ja h;exact⟨p,_,sc',by simp only[iu,h1,vak],h2,rfl⟩
 case h_15=>simp only[bv]at h;obtain⟨p,sc',h1,h2⟩:=ja h;exact⟨p,_,sc',by simp only[iu,h1,vak],h2,rfl⟩
 case h_16 t m k ok=>
  simp only[bv]at h
  split at h
  ·rename_i i hv
   obtain⟨B,hB,h⟩:=cF h
   split at h
   ·rename_i es
    obtain⟨p,sc',h1,h2⟩:=ja h
    exact⟨p,_,sc',by simp only[iu,hv,HK hB h1,vak],h2,rfl⟩
   ·exact h.elim
  ·exact h.elim
 case h_17 t m k x=>
  simp only[bv]at h
  split at h
  ·rename_i i j es' sc' hv
   obtain⟨B,hB,h⟩:=cF h
   split at h
   ·rename_i es
    obtain⟨h1,h2⟩:=h
    rw[aY]at h2
    exact⟨_,_,_,by simp only[iu,hv,Fa hB h1];rfl,h2,by simp⟩
   ·exact h.elim
  ·exact h.elim
 case h_18=>simp only[bv,QR]at h;obtain⟨p,sc',h1,h2⟩:=ja h;exact⟨p,_,sc',by simp only[iu,h1,vak],h2,rfl⟩
 case h_19=>simp only[jQ]at h;obtain⟨p,sc',h1,h2⟩:=ja h;exact⟨p,_,sc',by simp only[iu,h1,vak],h2,rfl⟩
 case h_20=>simp only[jQ]at h;obtain⟨p,sc',h1,h2⟩:=ja h;exact⟨p,_,sc',by simp only[iu,h1,vak],h2,rfl⟩
 case h_21 x t=>
  simp only[bv]at h
  split at h
  ·rename_i i hv
   obtain⟨B,hB,h⟩:=cF h
   split at h
   ·rename_i es
    obtain⟨p,sc',⟨rfl,h1⟩,h2⟩:=ja h
    refine⟨_,_,sc',?_,h2,rfl⟩
    simp only[iu,hv,wG]
    cases hu:P.underlying t with
    |none=>rw[hu]at h1;cases h1
    |some d=>
     rw[hu]at h1
     cases d<;>simp at h1
     simp only[hB,vak]
   ·exact h.elim
  ·obtain⟨p,sc',h1,h2⟩:=ja h;exact⟨p,_,sc',by simp only[iu,h1 H,vak],h2,rfl⟩
 case h_22=>simp only[bv,io]at h;obtain⟨p,h1,h2⟩:=pL h;exact⟨p,_,_,by simp only[iu,h1,vak],h2,rfl⟩
 case h_23=>simp only[bv,io]at h;obtain⟨p,h1,h2⟩:=pL h;exact⟨p,_,_,by simp only[iu,h1,vak],h2,rfl⟩
 case h_24=>exact h.elim
end
def GP(st:az)(dst:Option Tmp)(p:PVal)(ro:List (Nat×TypeId))(H:List av)(K:az->Prop):Prop:=
 match dst with
 |some d=>dq st.tmps d p λtm=>aT ((ro.map λx=>((d,x.1),x.2))++ba d st.own) λow=>K ⟨tm,H,ow⟩
 |none=>K ⟨st.tmps,H,st.own⟩
theorem nq(st:az)(dst:Option Tmp)(p:PVal)(ro:List (Nat×TypeId))(H:List av)(K:az->Prop):GP st dst p ro H K=K (qj st dst p ro H):=by
 cases dst with
 |none=>rfl
 |some d=>simp only[GP,aY,aA,qj]
def Lc(P:Program)(GE:List (Nat×List PVal))(f:Operand)(args:List Operand)(tmps:List PVal)(sc:List It)(K:PVal->List (Nat×TypeId)->List It->Prop):Prop:=
 jq GE tmps f λvf=>match vf with
  |.func (.func g) first cap=>EU GE tmps args λas=>match sc with
   |.c r ro::sc'=>CC P GE g (first++as++cap) r ro/\K r ro sc'
   |_=>False
  |_=>False
def pE(P:Program)(GE:List (Nat×List PVal))(o:Oper)(id:Nat)(sc:List It)(st:az)(K:List It->az->Prop):Prop:=
 match je o st.tmps.length with
 |false=>False
 | true => match o.op with
  |.call {callee:=.value f,args,..}=>Lc P GE f args.toList st.tmps sc λr ro sc'=>GP st o.dst r ro st.boxes λst'=>K sc' st'
  |.alloc t=>match sc with
   |.x zs::sc'=>eO P t=some zs/\aT (Ct P t) λow=>dq st.boxes id (.cells zs ow) λH=>GP st o.dst (.bptr id 0) [] H λst'=>K sc' st'
   |_=>False
  |.box _ x=>jq GE st.tmps x λvx=>match sc with
   |.x cs::sc'=>bA vx=some cs/\Bq cs=true/\dq st.boxes id (.cells cs []) λH=>GP st o.dst (.bptr id 0) [] H λst'=>K sc' st'
   |_=>False
  |.makeMap _ none=>dq st.boxes id (.map []) λH=>GP st o.dst (.mapr id) [] H λst'=>K sc st'
  |op=>Md P GE op st.tmps st.boxes sc λp H sc'=>GP st o.dst p [] H λst'=>K sc' st'
def Gx(n d:Nat)(K:Prop):Prop:=match decide (d<n)with
 |true=>K
 |false=>False
theorem gE{n d:Nat}{K:Prop}(h:Gx n d K):d<n/\K:=by
 unfold Gx at h
 split at h
 ·rename_i hd;exact⟨by simpa using hd,h⟩
 ·exact h.elim
def Et(P:Program)(st:az)(T e:TypeId)(t:Nat)(dst:Option Tmp)(vx vt:PVal)(sc:List It)(K:List It->az->Prop):Prop:=
 match vx with
 | .bptr i off => match df P T (.bptr i off) vt st.boxes with
  | some H => im H i fun B => match B with
   |.cells cs own=>match vt.one with
    |true=>aT cs λcs'=>dq H i (.cells cs' ((off,e)::own)) λH'=>GP {st with own:=st.own.filter λx=>x.1 !=(t,0)} dst (.val undef) [] H' λst'=>K sc st'
    |false=>False
   |_=>False
  |none=>False
 |_=>False
def Eu(P:Program)(GE:List (Nat×List PVal))(A:List Nat)(o:Oper)(id:Nat)(sc:List It)(st:az)(K:List It->az->Prop):Prop:=
 match o.op,o.dst with
 |.assign (.tmp t),some d=>Gx st.tmps.length d (ml st.tmps t λp=>dq st.tmps d p λtm=>aT (fY d (λx=>if x.1=t then(d,x.2)else x) st.own) λow=>K sc ⟨tm,st.boxes,ow⟩)
 |.move (.tmp t),some d=>match decide (d∈A)with
  |true=>Gx st.tmps.length d (ml st.tmps t λp=>dq st.tmps d p λtm=>aT (fY d (λx=>if x.1=t then(d,x.2)else x) st.own) λow=>K sc ⟨tm,st.boxes,ow⟩)
  |false=>pE P GE o id sc st K
 |.assign (.const v),some d=>match np P o.type v with
  |some e=>Gx st.tmps.length d (dq st.tmps d (.slice []) λtm=>aT (((d,0),e)::ba d st.own) λow=>K sc ⟨tm,st.boxes,ow⟩)
  |none=>pE P GE o id sc st K
 |.move (.const v),some d=>match np P o.type v with
  |some e=>Gx st.tmps.length d (dq st.tmps d (.slice []) λtm=>aT (((d,0),e)::ba d st.own) λow=>K sc ⟨tm,st.boxes,ow⟩)
  |none=>pE P GE o id sc st K
 |.extract (.tmp t) i,some d=>Gx st.tmps.length d (ml st.tmps t λvt=>GA (ou vt i) λp=>dq st.tmps d p λtm=>aT (fY d (λx=>if x=(t,i)then(d,0)else x) st.own) λow=>K sc ⟨tm,st.boxes,ow⟩)
 |.buildSlice T len parts,some d=>Gx st.tmps.length d (qi GE st.tmps parts.toList λps=>match sc,P.underlying T with
  |.v p::sc',some (.slice e)=>dK P T len ps=some p/\dq st.tmps d p λtm=>aT (((d,0),e)::ba d st.own) λow=>K sc' ⟨tm,st.boxes,ow⟩
  |_,_=>False)
 | .call { callee := .builtin .append,args:=⟨[.tmp t,y]⟩,argTypes:=⟨[T,T']⟩ },some d => Gx st.tmps.length d (ml st.tmps t fun ve => jq GE st.tmps y fun vn => match ve,vn,sc,P.underlying T with
  |.slice es,.slice ns,.v p::sc',some (.slice e)=>match decide (T=T')&&decide (((t,0),e)∈st.own)with
   |true=>eJ P T es ns=some p/\dq st.tmps d p λtm=>aT (((d,0),e)::ba d (st.own.filter λx=>x.1 !=(t,0))) λow=>K sc' ⟨tm,st.boxes,ow⟩
   |false=>False
  |_,_,_,_=>False)
 | .load T x,some d => match decide (d ∈ A) with
  | true => Gx st.tmps.length d (jq GE st.tmps x fun vx => match vx,P.underlying T with
   | .bptr i off,some (.slice e) => im st.boxes i fun B => match B with
    |.cells cs own=>match decide ((off,e)∈own)&&decide (off<cs.length)with
     |true=>ml cs off λp=>dq st.tmps d p λtm=>aT (own.filter λx=>x.1 !=off) λown'=>dq st.boxes i (.cells cs own') λH=>aT (((d,0),e)::ba d st.own) λow=>K sc ⟨tm,H,ow⟩
     |false=>False
    |_=>False
   |_,_=>False)
  |false=>pE P GE o id sc st K
 |.store T x (.tmp t),_=>match st.own.find? (λy=>y.1==(t,0))with
  |some (_,e)=>jq GE st.tmps x λvx=>ml st.tmps t λvt=>Et P st T e t o.dst vx vt sc K
  |none=>pE P GE o id sc st K
 |_,_=>pE P GE o id sc st K
def WD:Value->Bool
 |.bool _=>true
 |_=>false
def Du(ops:Array Oper)(j:Nat)(want:Bool)(pos:Nat)(sc:List It)(st:az)(go:Bool->List It->az->Prop):Prop:=
 match(ops[j]?).bind (·.dst)with
 |none=>False
 | some t => ml st.tmps t fun p => match p with
  | .bool x => match sc with
   |.g pos' b::sc'=>match pos'==pos with
    |true=>x=b/\dq st.tmps t (.bool b) λtm=>go (b==want) sc' ⟨tm,st.boxes,st.own⟩
    |false=>go (x==want) sc st
   |_=>go (x==want) sc st
  |.val v=>match WD v with
   |true=>False
   |false=>go false sc st
  |_=>False
def kY:List Nat->Bool
 |[]=>true
 |x::r=>!(r.contains x)&&kY r
theorem iY:∀{l:List Nat},kY l=true->l.Nodup
 |[],_=>.nil
 |x::r,h=>by
  simp only[kY,vae,vaZ,vcC,vbn]at h
  exact vby.2 ⟨h.1,iY h.2⟩
def Ck(t:Nat)(own:List ((Nat×Nat)×TypeId)):List (Nat×TypeId):=own.filterMap λx=>if x.1.1==t then some (x.1.2,x.2)else none
theorem wj{t:Nat}{own:List ((Nat×Nat)×TypeId)}{y:Nat×TypeId}(h:y∈Ck t own):((t,y.1),y.2)∈own:=by
 unfold Ck at h
 obtain⟨⟨⟨t',k⟩,e⟩,hx,he⟩:=vbT.1 h
 split at he
 ·rename_i ht
  simp only[vaY]at ht
  cases he;subst ht;exact hx
 ·cases he
def Mr(off n:Nat)(own:List (Nat×TypeId)):List (Nat×TypeId):=own.filterMap λx=>if decide (off<=x.1)&&decide (x.1<off+n)then some (x.1 - off,x.2)else none
theorem wh{off n:Nat}{own:List (Nat×TypeId)}{y:Nat×TypeId}(h:y∈Mr off n own):(off+y.1,y.2)∈own/\y.1<n:=by
 unfold Mr at h
 obtain⟨⟨k,e⟩,hx,he⟩:=vbT.1 h
 split at he
 ·rename_i ht
  simp only[vae,vam]at ht
  cases he
  have:off+(k - off)=k:=by omega
  exact⟨by rw[this];exact hx,by simp only;omega⟩
 ·cases he
def A3(ρ:List Nat):List PVal->List PVal->Prop
 |[],[]=>True
 |p::ps,q::qs=>rj ρ p q/\A3 ρ ps qs
 |_,_=>False
theorem A3.len{ρ:List Nat}:∀{l r:List PVal},A3 ρ l r->l.length=r.length
 |[],[],_=>rfl
 |[],_::_,h=>h.elim
 |_::_,[],h=>h.elim
 |_::_,_::_,h=>by simp[A3.len h.2]
theorem A3.get{ρ:List Nat}:∀{l r:List PVal},A3 ρ l r->∀(i:Nat) p q,l[i]? =some p->r[i]? =some q->rj ρ p q
 |[],[],_,i,p,q,hp,_=>by simp at hp
 |[],_::_,h,_,_,_,_,_=>h.elim
 |_::_,[],h,_,_,_,_,_=>h.elim
 |_::_,_::_,h,0,p,q,hp,hq=>by simp at hp hq;subst hp;subst hq;exact h.1
 |_::_,_::_,h,i+1,p,q,hp,hq=>A3.get h.2 i p q (by simpa using hp) (by simpa using hq)
def KG(ρ:List Nat):av->av->Prop
 |.cells cs own,.cells cs' own'=>own=own'/\A3 ρ cs cs'
 |.map es,.map es'=>es=es'/\∀x∈es,x.1.cl 0/\x.2.cl 0
 |.dead,.dead=>True
 |_,_=>False
theorem KG.to{ρ:List Nat}{B B':av}(h:KG ρ B B'):fi ρ B B':=by
 cases B<;>cases B'<;>simp only[KG]at h
 ·exact⟨h.1,h.2.len,h.2.get⟩
 ·obtain⟨rfl,h⟩:=h
  refine⟨rfl,λi k u k' u' h1 h2=>?_⟩
  rw[h1]at h2;cases h2
  obtain⟨q1,q2⟩:=h _ (vaq h1)
  exact⟨.refl _ q1,.refl _ q2⟩
 ·trivial
def kn(ρ:List Nat)(H:List av):List Nat->List av->List av->Prop
 |[],[],[]=>True
 |j::js,B::Bs,Bc::Hc=>(im H j λB0=>o0 B0 B=B/\KG ρ B Bc)/\kn ρ H js Bs Hc
 |_,_,_=>False
def og(ρ:List Nat):List av->List av->Prop
 |[],[]=>True
 |B::Bs,Bc::Hc=>KG ρ B Bc/\og ρ Bs Hc
 |_,_=>False
def gn(H:List av):List Nat->List av->List av
 |j::js,B::Bs=>gn (H.set j B) js Bs
 |_,_=>H
def Je(H:List av):List Nat->List av->(List av->Prop)->Prop
 |j::js,B::Bs,K=>dq H j B λH'=>Je H' js Bs K
 |_,_,K=>K H
theorem jS:∀(H:List av) (js:List Nat) (Bs:List av) (K:List av->Prop),Je H js Bs K=K (gn H js Bs)
 |H,[],_,K=>by cases ‹List av›<;>rfl
 |H,_::_,[],K=>rfl
 |H,j::js,B::Bs,K=>by simp only[Je,aY,jS,gn]
theorem ws:∀(H:List av) (js:List Nat) (Bs:List av),(gn H js Bs).length=H.length
 |H,[],_=>by cases ‹List av›<;>rfl
 |H,_::_,[]=>rfl
 |H,j::js,B::Bs=>by simp only[gn,ws,vcz]
theorem f0:∀(H:List av) (js:List Nat) (Bs:List av) {j:Nat},j∉js->(gn H js Bs)[j]? =H[j]?
 |H,[],Bs,_,_=>by cases Bs<;>rfl
 |H,_::_,[],_,_=>rfl
 |H,k::js,B::Bs,j,h=>by
  simp only[vau,not_or]at h
  simp only[gn]
  rw[f0 _ js Bs h.2,vap (Ne.symm h.1)]
theorem zZ:∀(H:List av) (js:List Nat) (Bs:List av),js.Nodup->js.length=Bs.length->(∀j∈js,j<H.length)->∀(i j:Nat) B,js[i]? =some j->Bs[i]? =some B->(gn H js Bs)[j]? =some B
 |H,[],Bs,_,_,_,i,j,B,hj,_=>by simp at hj
 |H,_::_,[],_,hl,_,_,_,_,_,_=>by simp at hl
 | H,k :: js,B0 :: Bs,hn,hl,hlt,i,j,B,hj,hB => by
  obtain⟨hn1,hn2⟩:=vby.1 hn
  simp only[gn]
  cases i with
  |zero=>
   simp at hj hB;subst hj;subst hB
   rw[f0 _ js Bs hn1,vag (hlt _ (by simp))]
  |succ i=>exact zZ _ js Bs hn2 (by simpa using hl) (λx hx=>by rw[vcz];exact hlt x (by simp[hx])) i j B (by simpa using hj) (by simpa using hB)
theorem EB{ρ:List Nat}{H:List av}:∀{js:List Nat} {Bs Hc:List av},kn ρ H js Bs Hc->js.length=Bs.length/\Hc.length=js.length/\(∀j∈js,j<H.length)/\
  ∀(i j:Nat) B Bc,js[i]? =some j->Bs[i]? =some B->Hc[i]? =some Bc->(∃B0,H[j]? =some B0/\o0 B0 B=B)/\fi ρ B Bc
 |[],[],[],_=>⟨rfl,rfl,by simp,by simp⟩
 |[],_::_,_,h=>by simp[kn]at h
 |[],[],_::_,h=>by simp[kn]at h
 |_::_,[],_,h=>by simp[kn]at h
 |_::_,_::_,[],h=>by simp[kn]at h
 | k :: js,B :: Bs,Bc :: Hc,h => by
  obtain⟨h1,h2⟩:=h
  obtain⟨B0,hB0,h3,h4⟩:=cF h1
  obtain⟨k1,k2,k3,k4⟩:=EB h2
  refine⟨by simp[k1],by simp[k2],λj hj=>?_,λi j b bc hj hb hbc=>?_⟩
  ·rcases vau.1 hj with rfl|hj
   ·exact ah hB0
   ·exact k3 j hj
  ·cases i with
   |zero=>simp at hj hb hbc;subst hj;subst hb;subst hbc;exact⟨⟨B0,hB0,h3⟩,h4.to⟩
   |succ i=>exact k4 i j b bc (by simpa using hj) (by simpa using hb) (by simpa using hbc)
theorem uV{ρ:List Nat}:∀{Bs Hc:List av},og ρ Bs Hc->Bs.length=Hc.length/\∀(i:Nat) B Bc,Bs[i]? =some B->Hc[i]? =some Bc->fi ρ B Bc
 |[],[],_=>⟨rfl,by simp⟩
 |[],_::_,h=>h.elim
 |_::_,[],h=>h.elim
 |B::Bs,Bc::Hc,h=>by
  obtain⟨k1,k2⟩:=uV h.2
  refine⟨by simp[k1],λi b bc hb hbc=>?_⟩
  cases i with
  |zero=>simp at hb hbc;subst hb;subst hbc;exact h.1.to
  |succ i=>exact k2 i b bc (by simpa using hb) (by simpa using hbc)
def Ru(t:Nat):Option Operand->Bool
 |some (.tmp u)=>u==t
 |_=>false
def OM:Option Operand->Bool
 |some (.const v)=>iz v
 |_=>false
def JV(n:Nat)(args:List Operand)(own:List ((Nat×Nat)×TypeId))(oa:List OA):Bool:=
 oa.all (λx=>decide (n<=x.i)&&((OM args[x.i - n]? &&x.k==0)||(decide (((x.t,x.k),x.e)∈own)&&Ru x.t args[x.i - n]?)))&&oa.all λx=>oa.all λy=>!(x.t==y.t&&x.k==y.k)||x.i==y.i
def DC:av->Bool
 |.dead=>false
 |_=>true
def fg(P:Program)(GE:List (Nat×List PVal))(f:Operand)(args:List Operand)(c:GC)(st:az)(K:List av->Prop):Prop:=
 jq GE st.tmps f λvf=>match vf with
 | .func (.func g) first cap => EU GE st.tmps args fun as => match kY c.ρ && JV first.length args st.own c.oa && c.Bs.all DC && decide (c.Bs'.length = c.ρ.length) with
  | true => C P GE g c.argsC (c.oa.map fun x => ((x.i,x.k),x.e)) c.Hc c.rc c.ro c.Hc'∧A3 c.ρ (first ++ as ++ cap) c.argsC∧kn c.ρ st.boxes c.ρ c.Bs c.Hc∧og c.ρ c.Bs' c.Hc'∧rj c.ρ c.r c.rc ∧
    Je st.boxes c.ρ c.Bs' K
  |false=>False
 |_=>False
theorem lG{P:Program}{GE:List (Nat×List PVal)}{f:Operand}{args:List Operand}{c:GC}{st:az}{K:List av->Prop}(h:fg P GE f args c st K):∃H',yY P GE f args st c.r c.ro H' c.oa/\K H':=by
 unfold fg at h
 rw[bv]at h
 split at h
 ·rename_i g first cap hf
  rw[io]at h
  split at h
  ·rename_i hb
   simp only[vae,vam]at hb
   obtain⟨⟨⟨b1,b2⟩,b3⟩,b4⟩:=hb
   obtain⟨h1,h2,h3,h4,h5,h6⟩:=h
   rw[jS]at h6
   have hn:=iY b1
   obtain⟨i1,i2,i3,i4⟩:=EB h3
   obtain⟨o1,o2⟩:=uV h4
   unfold JV at b2
   rw[vae]at b2
   obtain⟨c1,c2⟩:=b2
   have hgetB:∀{i j:Nat},c.ρ[i]? =some j->∃B,c.Bs[i]? =some B:=λ{i j} hj=>⟨_,vaa (by rw[<-i1];exact ah hj)⟩
   have hgetH:∀{i j:Nat},c.ρ[i]? =some j->∃B,c.Hc[i]? =some B:=λ{i j} hj=>⟨_,vaa (by rw[i2];exact ah hj)⟩
   refine⟨_,⟨g,first,cap,c.argsC,c.ρ,gn st.boxes c.ρ c.Bs,c.Hc,c.Hc',c.rc,hf,hn,h1,⟨ws _ _ _,λi B hB=>?_⟩,⟨i2,λi j hj=>?_⟩,⟨by rw[<-o1];exact b4,λi j hj=>?_⟩,ws _ _ _,λj hj=>by rw[f0 _ _ _ hj,f0 _ _ _ hj],h5,h2.len,h2.get,λx hx=>?_,λx hx y hy e1 e2=>?_⟩,h6⟩
   ·by_cases hi:i∈c.ρ
    ·obtain⟨k,hk⟩:=va8.1 hi
     obtain⟨B1,hB1⟩:=hgetB hk
     obtain⟨Bc,hBc⟩:=hgetH hk
     obtain⟨⟨B0,hB0,hfg⟩,_⟩:=i4 k i B1 Bc hk hB1 hBc
     rw[zZ _ _ _ hn i1 i3 k i B1 hk hB1]at hB
     cases hB
     refine⟨B0,hB0,?_⟩
     rcases Me B0 B with hx|hx|hx
     ·rw[hfg]at hx
      have:=vao.1 b3 B (vaq hB1)
      rw[hx]at this;cases this
     ·rw[hfg]at hx;exact .inl hx
     ·rw[hfg]at hx;exact .inr hx
    ·rw[f0 _ _ _ hi]at hB
     exact⟨B,hB,.inl rfl⟩
   ·obtain⟨B1,hB1⟩:=hgetB hj
    obtain⟨Bc,hBc⟩:=hgetH hj
    exact⟨B1,Bc,zZ _ _ _ hn i1 i3 i j B1 hj hB1,hBc,(i4 i j B1 Bc hj hB1 hBc).2⟩
   ·have hi:=ah hj
    have e1:=vaa (l:=c.Bs') (i:=i) (by omega)
    have e2:=vaa (l:=c.Hc') (i:=i) (by omega)
    exact⟨_,_,zZ _ _ _ hn b4.symm i3 i j _ hj e1,e2,o2 i _ _ e1 e2⟩
   ·have:=vao.1 c1 x hx
    simp only[vae,va0,vam,vaY]at this
    refine⟨x.i - first.length,by omega,?_⟩
    rcases this.2 with⟨h2,h3⟩|⟨h2,h3⟩
    ·left
     unfold OM at h2
     split at h2
     ·rename_i v hv
      unfold iz at h2
      split at h2
      ·exact⟨hv,h3⟩
      ·cases h2
     ·cases h2
    ·right
     unfold Ru at h3
     split at h3
     ·rename_i u hu
      simp only[vaY]at h3
      subst h3;exact⟨h2,hu⟩
     ·cases h3
   ·have:=vao.1 (vao.1 c2 x hx) y hy
    simp only[va0,vaZ,Bool.and_eq_false_iff,beq_eq_false_iff_ne,ne_eq,vaY]at this
    rcases this with(hx|hx)|hx
    ·exact absurd e1 hx
    ·exact absurd e2 hx
    ·exact hx
  ·exact h.elim
 ·exact h.elim
def Il(P:Program)(GE:List (Nat×List PVal))(f:Operand)(args:List Operand)(c:GC)(d:Nat)(st:az)(K:List PVal->List av->List ((Nat×Nat)×TypeId)->Prop):Prop:=
 jq GE st.tmps f λvf=>EU GE st.tmps args λvs=>match vf with
  |.func (.func g) [] []=>match decide (c.ρ=List.range' st.boxes.length c.Hc'.length)with
   |true=>CN P GE g vs c.rc c.ro c.Hc'/\dO 0 vs/\og c.ρ c.Bs' c.Hc'/\rj c.ρ c.r c.rc/\dq st.tmps d c.r λtm=>aT ((c.ro.map λx=>((d,x.1),x.2))++ba d st.own) λow=>Df st.boxes c.Bs' λH=>K tm H ow
   |false=>False
  |_=>False
theorem Gp{P:Program}{GE:List (Nat×List PVal)}{o:Oper}{f:Operand}{args:Array Operand}{tys:Array TypeId}{c:GC}{d:Nat}{st:az}{K:List It->az->Prop}{sc:List It}(ho:o.op=.call {callee:=.value f,args,argTypes:=tys})(hd:o.dst=some d)(h1:d<st.tmps.length)
  (h:Il P GE f args.toList c d st λtm H ow=>K sc ⟨tm,H,ow⟩):Kd P GE o (λst'=>∃sc',K sc' st') st:=by
 unfold Il at h
 rw[bv,io]at h
 split at h
 ·rename_i g hf
  split at h
  ·rename_i hc
   simp only[vam]at hc
   obtain⟨h2,h3,h4,h5,h6⟩:=h
   simp only[aY,aA,Df]at h6
   obtain⟨k1,k2⟩:=uV h4
   unfold Kd
   simp only[ho,hd]
   rw[hc]at h5 k2
   exact⟨g,c.rc,c.ro,c.Bs',c.Hc',c.r,hf,h2,h3,k1,k2,h5,h1,sc,h6⟩
  ·exact h.elim
 ·exact h.elim
def Dw (P:Program) (GE:List (Nat×List PVal)) (A:List Nat) (o:Oper) (id:Nat) (sc:List It) (st:az) (K:List It→az→Prop):Prop :=
 match o.op,sc with
 |.build T parts,.b p L::sc'=>match o.dst with
  |some d=>Gx st.tmps.length d (qi GE st.tmps parts.toList λps=>dp P T ps=some p/\si P T ps L/\dq st.tmps d p λtm=>aT ((L.map λx=>((d,x.1),x.2))++ba d st.own) λow=>K sc' ⟨tm,st.boxes,ow⟩)
  |none=>False
 | .store T x (.tmp t),.y vs :: sc' => ml st.tmps t fun vt => match vt with
  | .agg l => match o.dst with
   | none => jq GE st.tmps x fun vx => match vx with
    | .bptr i off => aT (Ck t st.own) fun L => l = vs∧im st.boxes i fun B => match B with
     | .cells cs own => match kY (L.map (·.1)) && decide (vs.length = P.cellsOf T) && (P.info? T).isSome && decide (off + vs.length ≤ cs.length) && vs.all PVal.one with
      | true => aT (cs.take off ++ vs ++ cs.drop (off + vs.length)) fun cs' => aT ((L.map fun y => (off + y.1,y.2)).reverse ++ own.filter fun y => y.1 < off || off + vs.length ≤ y.1) fun own' =>
        dq st.boxes i (.cells cs' own') λH=>aT (st.own.filter λx=>!L.any λy=>x.1==(t,y.1)) λow=>K sc' ⟨st.tmps,H,ow⟩
      |false=>False
     |_=>False
    |_=>False
   |some _=>False
  |_=>Eu P GE A o id sc st K
 | .load T x,.z l :: sc' => match P.underlying T with
  | some (.struct _) => match o.dst with
   | some d => Gx st.tmps.length d (jq GE st.tmps x fun vx => match vx with
    | .bptr i off => im st.boxes i fun B => match B with
     | .cells cs own => aG P T (cs.drop off) = some (.agg l)∧aT (Mr off (P.cellsOf T) own) fun L => match kY (L.map (·.1)) with
      | true => dq st.tmps d (.agg l) fun tm => aT (own.filter fun x => !L.any fun y => x.1 == off + y.1) fun own' => dq st.boxes i (.cells cs own') fun H =>
        aT ((L.map λy=>((d,y.1),y.2)).reverse++ba d st.own) λow=>K sc' ⟨tm,H,ow⟩
      |false=>False
     |_=>False
    |_=>False)
   |none=>False
  |_=>Eu P GE A o id sc st K
 |.box _ x,.e vs::sc'=>match o.dst with
  |some d=>Gx st.tmps.length d (jq GE st.tmps x λvx=>bA vx=some vs/\dq st.tmps d (.eptr vs) λtm=>aT (ba d st.own) λow=>K sc' ⟨tm,st.boxes,ow⟩)
  |none=>False
 |.call {callee:=.value f,args,..},.cg c::sc'=>match o.dst with
  |some d=>Gx st.tmps.length d (fg P GE f args.toList c st λH=>dq st.tmps d c.r λtm=>aT ((c.ro.map λx=>((d,x.1),x.2))++ba d (st.own.filter λz=>!c.oa.any λx=>z.1==(x.t,x.k))) λow=>K sc' ⟨tm,H,ow⟩)
  |none=>False
 |.call {callee:=.value f,args,..},.cn c::sc'=>match o.dst with
  |some d=>Gx st.tmps.length d (Il P GE f args.toList c d st λtm H ow=>K sc' ⟨tm,H,ow⟩)
  |none=>False
 | .call { callee := .builtin .append,args:=⟨[.tmp t,y]⟩,argTypes:=⟨[T,T']⟩ },.ar i e n cs :: sc' => match o.dst with
  | some d => Gx st.tmps.length d (ml st.tmps t fun ve => jq GE st.tmps y fun vn => match ve,vn with
   | .slice [],.slice ns => match decide (T = T') && decide (((t,0),e) ∈ st.own) && decide (i = st.boxes.length) with
    | true => P.underlying T = some (.slice e)∧(∃ p,eJ P T [] ns = some p)∧(n = ns.length∧cs = ns.flatten) ∧
      dq st.tmps d (.bsl i 0 n) λtm=>aT (ba d (st.own.filter λx=>x.1 !=(t,0))) λow=>Df st.boxes [.cells cs []] λH=>K sc' ⟨tm,H,ow⟩
    |false=>False
   |_,_=>False)
  |none=>False
 | .call { callee := .value f,args:=⟨[x]⟩,.. },.ar i e n cs :: sc' => match o.dst with
  | some d => Gx st.tmps.length d (jq GE st.tmps f fun vf => jq GE st.tmps x fun vn => match vf,vn with
   | .func (.func g) [] [],.slice ns => match decide (i = st.boxes.length) with
    | true => rq P g e∧(0 < P.cellsOf e∧(∀ x ∈ ns,x.length = P.cellsOf e∧∀ q ∈ x,q.one = true)∧ns.length ≤ cz)∧(n = ns.length∧cs = ns.flatten) ∧
      dq st.tmps d (.bsl i 0 n) λtm=>aT (ba d st.own) λow=>Df st.boxes [.cells cs []] λH=>K sc' ⟨tm,H,ow⟩
    |false=>False
   |_,_=>False)
  |none=>False
 | .store T x (.const v),.ar _ e _ _ :: sc' => match o.dst,iz v with
  | none,true => jq GE st.tmps x fun vx => jq GE st.tmps (.const v) fun vy => match vx,bA vy with
   | .bptr i off,some vs => im st.boxes i fun B => match B with
    |.cells cs own=>match decide (vs.length=P.cellsOf T)&&(P.info? T).isSome&&decide (off+vs.length<=cs.length)&&vs.all PVal.one with
     |true=>aT (cs.take off++vs++cs.drop (off+vs.length)) λcs'=>aT ((off,e)::own.filter λy=>y.1<off||off+vs.length<=y.1) λown'=>dq st.boxes i (.cells cs' own') λH=>K sc' ⟨st.tmps,H,st.own⟩
     |false=>False
    |_=>False
   |_,_=>False
  |_,_=>False
 | .box T (.tmp t),.y vs :: sc' => match o.dst with
  | some d => Gx st.tmps.length d (ml st.tmps t fun vt => match vt with
   |.agg l=>aT (Ck t st.own) λL=>l=vs/\(match kY (L.map (·.1))&&Bq vs with
    |true=>aT (vs.map (nilTo id T)) λcs=>dq st.tmps d (.bptr id 0) λtm=>aT ((L.map λy=>(0+y.1,y.2)).reverse++[]) λown=>dq st.boxes id (.cells cs own) λH=>aT (ba d (st.own.filter λx=>!L.any λy=>x.1==(t,y.1))) λow=>K sc' ⟨tm,H,ow⟩
    |false=>False)
   |_=>False)
  |none=>False
 |.alloc T,.y vs::sc'=>match o.dst with
  |some d=>Gx st.tmps.length d (eO P T=some vs/\aT (Ct P T) λown=>aT (vs.map (nilTo id T)) λcs=>dq st.tmps d (.bptr id 0) λtm=>dq st.boxes id (.cells cs own) λH=>aT (ba d st.own) λow=>K sc' ⟨tm,H,ow⟩)
  |none=>False
 | .call { callee := .builtin .append,args:=⟨[.tmp t,y]⟩,argTypes:=⟨[T,T']⟩ },.z ps :: sc' => match o.dst,ps with
  | some d,[p] => Gx st.tmps.length d (ml st.tmps t fun ve => jq GE st.tmps y fun vn => match ve,vn,P.underlying T with
   |.slice es,.str s,some (.slice e)=>match decide (((t,0),e)∈st.own)with
    |true=>zN P T T' es s=some p/\dq st.tmps d p λtm=>aT (((d,0),e)::ba d (st.own.filter λx=>x.1 !=(t,0))) λow=>K sc' ⟨tm,st.boxes,ow⟩
    |false=>False
   |.slice es,.slice ns,some (.slice e)=>match decide (T'=T)&&decide (((t,P.cellsOf e),e)∈st.own)with
    |true=>eJ P T es ns=some p/\dq st.tmps d p λtm=>aT (((d,P.cellsOf e),e)::ba d (st.own.filter λx=>x.1.1 !=t)) λow=>K sc' ⟨tm,st.boxes,ow⟩
    |false=>False
   |_,_,_=>False)
  |_,_=>False
 | .slice T (.tmp t) (some lo) none none,.z ps :: sc' => match o.dst,ps with
  | some d,[p] => Gx st.tmps.length d (ml st.tmps t fun ve => jq GE st.tmps lo fun vl => match ve,P.underlying T with
   |.slice es,some (.slice e)=>match decide (0<P.cellsOf e)&&(decide (((t,0),e)∈st.own)||decide (((t,P.cellsOf e),e)∈st.own))with
    |true=>mn P T (.slice es) (some vl) none none=some p/\dq st.tmps d p λtm=>aT (((d,P.cellsOf e),e)::ba d (st.own.filter λx=>x.1.1 !=t)) λow=>K sc' ⟨tm,st.boxes,ow⟩
    |false=>False
   |_,_=>False)
  |_,_=>False
 |_,_=>Eu P GE A o id sc st K
def Es(P:Program)(GE:List (Nat×List PVal))(A:List Nat)(ops:Array Oper)(K:List It->az->Prop):List Oper->Nat->Nat->List It->az->Prop
 |[],_,_,sc,st=>K sc st
 | o :: rest,pos,id,sc,st =>
  let step (sc:List It) (st:az):Prop:=Dw P GE A o id sc st λsc' st'=>Es P GE A ops K rest (pos+1) (id+if aw o.op then 1 else 0) sc' st'
  match o.guard with
  |none=>step sc st
  |some (j,want)=>Du ops j want pos sc st λb sc' st'=>match b with
   |true=>step sc' st'
   |false=>GP st' o.dst (.val undef) [] st'.boxes λst''=>Es P GE A ops K rest (pos+1) (id+if aw o.op then 1 else 0) sc' st''
section
variable{P:Program}{GE:List (Nat×List PVal)}{A:List Nat}{ops:Array Oper}
theorem Ij{f:Operand}{args:List Operand}{tmps:List PVal}{H:List av}{sc:List It}{K:PVal->List (Nat×TypeId)->List It->Prop}(h:Lc P GE f args tmps sc K):yz P GE (opv GE tmps f) (args.map (opv GE tmps)) H λr ro H'=>H'=H/\∃sc',K r ro sc':=by
 unfold Lc at h
 rw[bv]at h
 split at h
 ·rename_i g first cap hf
  rw[io]at h
  split at h
  ·rename_i r ro sc'
   rw[hf]
   exact .inl ⟨h.1.1,r,ro,h.1.2,rfl,sc',h.2⟩
  ·exact h.elim
 ·exact h.elim
theorem wm{op:Op}{id:Nat}{v:Operand->PVal}{H H':List av}{p:PVal}{K:PVal->List (Nat×TypeId)->List av->Prop}(hn:∀f args tys,op≠.call {callee:=.value f,args,argTypes:=tys})
  (h:iu P op id v H=some (p,H')) (hk:K p [] H'):GJ P GE op id v H K:=by
 unfold GJ
 split
 ·rename_i f args tys;exact absurd rfl (hn _ _ _)
 ·rw[h];exact hk
theorem gX{o:Oper}{id:Nat}{sc:List It}{st:az}{K:List It->az->Prop}(h:pE P GE o id sc st K):je o st.tmps.length=true/\GJ P GE o.op id (opv GE st.tmps) st.boxes λp ro H=>(λst'=>∃sc',K sc' st') (qj st o.dst p ro H):=by
 unfold pE at h
 split at h
 ·exact h.elim
 ·rename_i hc
  refine⟨hc,?_⟩
  split at h
  ·rename_i f args tys ho
   have:=Ij (H:=st.boxes) h
   unfold GJ
   simp only[ho]
   unfold yz at this ⊢
   split at this
   ·rcases this with⟨k1,r,ro,k2,_,sc',k3⟩|⟨ρ,argsC,Hc,rc,ro,Hc',H',r,k1,k2,k3,k4,k5,k6,k7,k8,k9,rfl,sc',k10⟩
    ·rw[nq]at k3;exact .inl ⟨k1,r,ro,k2,sc',k3⟩
    ·rw[nq]at k10;exact .inr ⟨ρ,argsC,Hc,rc,ro,Hc',_,r,k1,k2,k3,k4,k5,k6,k7,k8,k9,sc',k10⟩
   ·exact this.elim
  ·rename_i t ho
   split at h
   ·rename_i zs sc'
    obtain⟨h1,h2⟩:=h
    simp only[aA,aY,nq]at h2
    rw[ho]
    exact wm (by simp) (by simp only[iu,h1,vak]) ⟨sc',h2⟩
   ·exact h.elim
  ·rename_i t x ho
   rw[bv]at h
   split at h
   ·rename_i cs sc'
    obtain⟨h1,h1n,h2⟩:=h
    simp only[aY,nq]at h2
    rw[ho]
    exact wm (by simp) (by simp only[iu,EY h1 h1n,vak]) ⟨sc',h2⟩
   ·exact h.elim
  ·rename_i t ho
   simp only[aY,nq]at h
   rw[ho]
   exact wm (by simp) (by simp only[iu]) ⟨_,h⟩
  ·rename_i n1 n2 n3 n4
   obtain⟨p,H',sc',k1,k2,_⟩:=Cf (id:=id) h
   rw[nq]at k2
   exact wm (λf args tys e=>n1 f args tys e) k1 ⟨sc',k2⟩
theorem rS{o:Oper}{id:Nat}{sc:List It}{st:az}{K:List It->az->Prop}(h:Eu P GE A o id sc st K):Cs P GE A o id (λst'=>∃sc',K sc' st') st:=by
 unfold Eu at h
 unfold Cs
 split at h
 case h_1 t d ho hd=>
  obtain⟨h1,h2⟩:=gE h
  simp only[ef,aY,aA]at h2
  simp only[ho,hd]
  exact⟨h1,_,h2⟩
 case h_2 t d ho hd=>
  simp only[ho,hd]
  split at h
  ·rename_i hA
   obtain⟨h1,h2⟩:=gE h
   simp only[ef,aY,aA]at h2
   rw[vaD (by simpa using hA)]
   exact⟨h1,_,h2⟩
  ·rename_i hA
   rw[vay (by simpa using hA)]
   have:=gX h
   rw[ho,hd]at this
   exact this
 case h_3 v d ho hd=>
  simp only[ho,hd]
  split at h
  ·rename_i e he
   obtain⟨h1,h2⟩:=gE h
   simp only[aY,aA]at h2
   simp only[he]
   exact⟨h1,_,h2⟩
  ·rename_i he
   simp only[he]
   have:=gX h
   rw[ho,hd]at this
   exact this
 case h_4 v d ho hd=>
  simp only[ho,hd]
  split at h
  ·rename_i e he
   obtain⟨h1,h2⟩:=gE h
   simp only[aY,aA]at h2
   simp only[he]
   exact⟨h1,_,h2⟩
  ·rename_i he
   simp only[he]
   have:=gX h
   rw[ho,hd]at this
   exact this
 case h_5 t i d ho hd=>
  obtain⟨h1,h2⟩:=gE h
  rw[ef]at h2
  obtain⟨p,h3,h4⟩:=pL h2
  simp only[aY,aA]at h4
  simp only[ho,hd,h3]
  exact⟨h1,_,h4⟩
 case h_6 T len parts d ho hd=>
  obtain⟨h1,h2⟩:=gE h
  rw[jQ]at h2
  split at h2
  ·rename_i p sc' e hu
   obtain⟨h3,h4⟩:=h2
   simp only[aY,aA]at h4
   simp only[ho,hd,h3,hu]
   exact⟨h1,_,h4⟩
  ·exact h2.elim
 case h_7 t y T T' d ho hd=>
  obtain⟨h1,h2⟩:=gE h
  rw[ef,bv]at h2
  split at h2
  ·rename_i es ns p sc' e he hn hu
   split at h2
   ·rename_i hc
    simp only[vae,vam]at hc
    obtain⟨h3,h4⟩:=h2
    simp only[aY,aA]at h4
    simp only[ho,hd,hu,he,hn,h3]
    exact⟨hc.1,h1,hc.2,_,h4⟩
   ·exact h2.elim
  ·exact h2.elim
 case h_8 T x d ho hd=>
  simp only[ho,hd]
  split at h
  ·rename_i hA
   obtain⟨h1,h2⟩:=gE h
   rw[bv]at h2
   rw[vaD (by simpa using hA)]
   split at h2
   ·rename_i i off e hx hu
    obtain⟨B,hB,h2⟩:=cF h2
    split at h2
    ·rename_i cs own
     split at h2
     ·rename_i hc
      simp only[vae,vam]at hc
      simp only[ef,aY,aA]at h2
      have hget:cs[off]? =some (cs.getD off .undef):=by
       rw[van,vaa hc.2];rfl
      simp only[hx,hu,hB,hget]
      exact⟨h1,hc.1,_,h2⟩
     ·exact h2.elim
    ·exact h2.elim
   ·exact h2.elim
  ·rename_i hA
   rw[vay (by simpa using hA)]
   have:=gX h
   rw[ho,hd]at this
   exact this
 case h_9 T x t ho=>
  simp only[ho]
  split at h
  ·rename_i y e hf
   rw[bv,ef]at h
   simp only[hf]
   unfold Et at h
   split at h
   ·rename_i i off hx
    split at h
    ·rename_i H hst
     obtain⟨B,hB,h⟩:=cF h
     split at h
     ·rename_i cs own
      split at h
      ·rename_i hone
       simp only[aY,aA,nq]at h
       simp only[hx,hst,hB,hone]
       exact⟨_,h⟩
      ·exact h.elim
     ·exact h.elim
    ·exact h.elim
   ·exact h.elim
  ·rename_i hf
   simp only[hf]
   have:=gX h
   rw[ho]at this
   exact this
 case h_10=>
  have:=gX h
  split
  all_goals first
   |exact this
   |(exfalso;simp_all;done)
   |(exfalso;simp_all;rename_i hx h1 h2;exact hx _ _ _ _ rfl rfl rfl rfl)
   |(exfalso;simp_all;rename_i hx h1 h2;exact hx _ _ _ _ _ rfl rfl rfl rfl rfl)
   |(exfalso;simp_all;rename_i hx h1 h2;exact hx _ _ _ rfl rfl rfl)
theorem xk{j:Nat}{want:Bool}{pos:Nat}{sc:List It}{st:az}{go:Bool->List It->az->Prop}(h:Du ops j want pos sc st go):∃x,oz ops st.tmps j=some x/\((x=some want/\∃sc',go true sc' st)\/(x≠some want/\∃sc',go false sc' st)):=by
 unfold Du at h
 split at h
 ·exact h.elim
 ·rename_i t ht
  rw[ef]at h
  have hget:∀{p},st.tmps.getD t .undef=p->p≠.undef->st.tmps[t]? =some p:=by
   intro p hp hne
   rw[van]at hp
   cases hx:st.tmps[t]? with
   |none=>rw[hx]at hp;exact absurd hp.symm hne
   |some q=>rw[hx]at hp;exact vbj some hp
  have hfin:∀(x:Bool) sc',go (x==want) sc' st->(some x=some want/\∃sc',go true sc' st)\/(some x≠some want/\∃sc',go false sc' st):=by
   intro x sc' hg
   cases x<;>cases want<;>simp at hg ⊢<;>exact⟨sc',hg⟩
  split at h
  ·rename_i x hp
   have hx:=hget hp (by simp)
   have hg:oz ops st.tmps j=some (some x):=by unfold oz;simp only[ht,hx]
   refine⟨_,hg,?_⟩
   split at h
   ·rename_i pos' b sc'
    split at h
    ·obtain⟨rfl,h⟩:=h
     rw[aY,z6 hx]at h
     exact hfin x sc' h
    ·exact hfin x _ h
   ·exact hfin x _ h
  ·rename_i v hp
   have hx:=hget hp (by simp)
   split at h
   ·exact h.elim
   ·rename_i hb
    refine⟨none,?_,.inr ⟨by simp,_,h⟩⟩
    unfold oz
    simp only[ht,hx]
    cases v<;>simp[WD]at hb<;>rfl
  ·exact h.elim
theorem Gs{o:Oper}{id:Nat}{sc:List It}{st:az}{K:List It->az->Prop}(h:Dw P GE A o id sc st K):vE P GE A o id (λst'=>∃sc',K sc' st') st:=by
 unfold Dw at h
 split at h
 ·rename_i T parts p L sc' ho
  split at h
  ·rename_i d hd
   obtain⟨h1,h2⟩:=gE h
   rw[jQ]at h2
   obtain⟨h3,h4,h5⟩:=h2
   simp only[aY,aA]at h5
   refine .inr (.inl ?_)
   unfold Fd
   simp only[ho,hd]
   exact⟨p,L,h3,h4,h1,sc',h5⟩
  ·exact h.elim
 ·rename_i T x t vs sc' ho
  rw[ef]at h
  split at h
  ·rename_i l hl
   split at h
   ·rename_i hd
    rw[bv]at h
    split at h
    ·rename_i i off hx
     rw[aA]at h
     obtain⟨rfl,h⟩:=h
     obtain⟨B,hB,h⟩:=cF h
     split at h
     ·rename_i cs own
      split at h
      ·rename_i hc
       simp only[aY,aA]at h
       simp only[vae,vam]at hc
       obtain⟨⟨⟨⟨c1,c2⟩,c3⟩,c4⟩,c5⟩:=hc
       refine .inr (.inl ?_)
       unfold Fd
       simp only[ho,hd]
       have hi:=ah hB
       refine⟨i,off,st.boxes.set i (.cells (cs.take off++l++cs.drop (off+l.length)) (own.filter λy=>y.1<off||off+l.length<=y.1)),_,_,Ck t st.own,l,hx,hl,?_,vag hi,λy hy=>wj hy,iY c1,sc',?_⟩
       ·simp only[df,bA,hB]
        rw[vaD ⟨c2,c3,c4,c5⟩]
       ·rw[vbE];exact h
      ·exact h.elim
     ·exact h.elim
    ·exact h.elim
   ·exact h.elim
  ·exact .inl (rS h)
 ·rename_i T x l sc' ho
  split at h
  ·rename_i fs hT
   split at h
   ·rename_i d hd
    obtain⟨h1,h⟩:=gE h
    rw[bv]at h
    split at h
    ·rename_i i off hx
     obtain⟨B,hB,h⟩:=cF h
     split at h
     ·rename_i cs own
      obtain⟨h2,h⟩:=h
      rw[aA]at h
      split at h
      ·rename_i hn
       simp only[aY,aA]at h
       refine .inr (.inl ?_)
       unfold Fd
       simp only[ho,hd]
       have hlen:l.length=P.cellsOf T:=by
        have hp:=h2
        unfold aG at hp
        rw[hT]at hp
        simp only at hp
        split at hp
        ·rename_i hh;cases hp;rw[vaU];omega
        ·cases hp
       exact⟨i,off,cs,own,_,l,⟨fs,hT⟩,hx,hB,h2,λy hy=>(wh hy).1,iY hn,λy hy=>by rw[hlen];exact(wh hy).2,h1,sc',h⟩
      ·exact h.elim
     ·exact h.elim
    ·exact h.elim
   ·exact h.elim
  ·exact .inl (rS h)
 ·rename_i T x vs sc' ho
  split at h
  ·rename_i d hd
   obtain⟨h1,h⟩:=gE h
   rw[bv]at h
   obtain⟨h2,h⟩:=h
   simp only[aY,aA]at h
   refine .inr (.inl ?_)
   unfold Fd
   simp only[ho,hd]
   exact⟨vs,h2,h1,sc',h⟩
  ·exact h.elim
 ·rename_i f args tys c sc' ho
  split at h
  ·rename_i d hd
   obtain⟨h1,h⟩:=gE h
   obtain⟨H',h2,h3⟩:=lG h
   simp only[aY,aA]at h3
   refine .inr (.inl ?_)
   unfold Fd
   simp only[ho,hd]
   exact⟨c.r,c.ro,H',c.oa,h2,h1,sc',h3⟩
  ·exact h.elim
 ·rename_i f args tys c sc' ho
  split at h
  ·rename_i d hd
   obtain⟨h1,h⟩:=gE h
   refine .inr (.inr (.inr (.inl ?_)))
   exact Gp ho hd h1 h
  ·exact h.elim
 ·rename_i t y T T' i e n cs sc' ho
  split at h
  ·rename_i d hd
   have hh:=gE h
   clear h
   obtain⟨h1,h⟩:=hh
   rw[ef,bv]at h
   split at h
   ·rename_i ns he hn
    split at h
    ·rename_i hc
     simp only[vae,vam]at hc
     obtain⟨⟨rfl,c2⟩,rfl⟩:=hc
     obtain⟨h2,⟨p,h3⟩,⟨rfl,rfl⟩,h4⟩:=h
     simp only[aY,aA,Df,aA]at h4
     refine .inr (.inr (.inl ?_))
     unfold LF
     simp only[ho,hd]
     exact⟨e,ns,p,vzz,h2,he,hn,h3,c2,h1,sc',h4⟩
    ·exact h.elim
   ·exact h.elim
  ·exact h.elim
 ·rename_i f x tys i e n cs sc' ho
  split at h
  ·rename_i d hd
   have hh:=gE h
   clear h
   obtain⟨h1,h⟩:=hh
   rw[bv,bv]at h
   split at h
   ·rename_i g ns hg hn
    split at h
    ·rename_i hc
     simp only[vam]at hc
     subst hc
     obtain⟨h2,⟨h3,h4,h5⟩,⟨rfl,rfl⟩,h6⟩:=h
     simp only[aY,aA,Df,aA]at h6
     refine .inr (.inr (.inl ?_))
     unfold LF
     simp only[ho,hd]
     exact⟨g,e,ns,hg,h2,hn,h3,h4,h5,h1,sc',h6⟩
    ·exact h.elim
   ·exact h.elim
  ·exact h.elim
 ·rename_i T x v i0 e n0 cs0 sc' ho
  split at h
  ·rename_i hd hv
   have hv':v=.slice none 0 0:=by
    unfold iz at hv
    split at hv
    ·rfl
    ·cases hv
   subst hv'
   rw[bv,bv]at h
   split at h
   ·rename_i i off vs hx hpc
    obtain⟨B,hB,h⟩:=cF h
    split at h
    ·rename_i cs own
     split at h
     ·rename_i hc
      simp only[aY,aA]at h
      simp only[vae,vam]at hc
      obtain⟨⟨⟨c2,c3⟩,c4⟩,c5⟩:=hc
      refine .inr (.inr (.inl ?_))
      unfold LF
      simp only[ho,hd]
      have hi:=ah hB
      refine⟨i,off,e,st.boxes.set i (.cells (cs.take off++vs++cs.drop (off+vs.length)) (own.filter λy=>y.1<off||off+vs.length<=y.1)),_,_,vzz,hx,?_,vag hi,sc',?_⟩
      ·simp only[df,hpc,hB]
       rw[vaD ⟨c2,c3,c4,c5⟩]
      ·rw[vbE];exact h
     ·exact h.elim
    ·exact h.elim
   ·exact h.elim
  ·exact h.elim
 ·rename_i T t vs sc' ho
  split at h
  ·rename_i d hd
   obtain⟨h1,h⟩:=gE h
   rw[ef]at h
   split at h
   ·rename_i l hl
    rw[aA]at h
    obtain⟨rfl,h⟩:=h
    split at h
    ·rename_i hn
     simp only[aY,aA]at h
     refine .inr (.inr (.inr (.inr (.inl ?_))))
     unfold QT
     simp only[ho,hd]
     rw[vae]at hn
     exact⟨l,Ck t st.own,hl,hn.2,λy hy=>wj hy,iY hn.1,h1,sc',h⟩
    ·exact h.elim
   ·exact h.elim
  ·exact h.elim
 ·rename_i T vs sc' ho
  split at h
  ·rename_i d hd
   obtain⟨h1,h2,h⟩:=gE h
   simp only[aY,aA]at h
   refine .inr (.inr (.inr (.inr (.inl ?_))))
   unfold QT
   simp only[ho,hd]
   exact⟨vs,h2,h1,sc',h⟩
  ·exact h.elim
 ·rename_i t y T T' ps sc' ho
  split at h
  ·rename_i d p hd
   have hh:=gE h
   clear h
   obtain⟨h1,h⟩:=hh
   rw[ef,bv]at h
   split at h
   ·rename_i es s e he hn hT
    split at h
    ·rename_i hc
     simp only[vam]at hc
     obtain⟨h2,h3⟩:=h
     simp only[aY,aA]at h3
     refine .inr (.inr (.inr (.inr (.inl ?_))))
     unfold QT
     simp only[ho,hd]
     exact⟨es,s,e,p,he,hn,hT,hc,h2,h1,sc',h3⟩
    ·exact h.elim
   ·rename_i es ns e he hn hT
    split at h
    ·rename_i hc
     simp only[vae,vam]at hc
     obtain⟨h2,h3⟩:=h
     simp only[aY,aA]at h3
     refine .inr (.inr (.inr (.inr (.inr ?_))))
     unfold Rx
     simp only[ho,hd]
     exact⟨es,ns,e,p,he,hn,hc.1,hT,hc.2,h2,h1,sc',h3⟩
    ·exact h.elim
   ·exact h.elim
  ·exact h.elim
 ·rename_i T t lo ps sc' ho
  split at h
  ·rename_i d p hd
   have hh:=gE h
   clear h
   obtain⟨h1,h⟩:=hh
   rw[ef,bv]at h
   split at h
   ·rename_i es e he hT
    split at h
    ·rename_i hc
     simp only[vae,va0,vam]at hc
     obtain⟨h2,h3⟩:=h
     simp only[aY,aA]at h3
     refine .inr (.inr (.inr (.inr (.inr ?_))))
     unfold Rx
     simp only[ho,hd]
     exact⟨es,e,p,he,hT,h2,hc.1,hc.2,h1,sc',h3⟩
    ·exact h.elim
   ·exact h.elim
  ·exact h.elim
 ·exact .inl (rS h)
theorem vF{o:Oper}{id:Nat}{K K':az->Prop}{st:az}(hk:∀st,K st->K' st)(h:vE P GE A o id K st):vE P GE A o id K' st:=by
 rcases h with h|h|h|h|h|h
 ·exact .inl (LH hk h)
 rotate_left 2
 ·exact .inr (.inr (.inr (.inl (ND hk h))))
 ·exact .inr (.inr (.inr (.inr (.inl (Pk hk h)))))
 ·exact .inr (.inr (.inr (.inr (.inr (Pz hk h)))))
 rotate_left
 ·refine .inr (.inr (.inl ?_))
  unfold LF at *
  split at h
  ·obtain⟨e,ns,p,h1,h2,h3,h4,h5,h6,h7,h8⟩:=h;exact⟨e,ns,p,h1,h2,h3,h4,h5,h6,h7,hk _ h8⟩
  ·obtain⟨g,e,ns,h1,h2,h3,h4,h5,h6,h7,h8⟩:=h;exact⟨g,e,ns,h1,h2,h3,h4,h5,h6,h7,hk _ h8⟩
  ·obtain⟨i,off,e,H,cs,own,h1,h2,h3,h4,h5⟩:=h;exact⟨i,off,e,H,cs,own,h1,h2,h3,h4,hk _ h5⟩
  ·exact h
 ·refine .inr (.inl ?_)
  unfold Fd at *
  split at h
  ·obtain⟨p,L,h1,h2,h3,h4⟩:=h;exact⟨p,L,h1,h2,h3,hk _ h4⟩
  ·obtain⟨i,off,H,cs,own,L,l,h1,h2,h3,h4,h5,h6,h7⟩:=h;exact⟨i,off,H,cs,own,L,l,h1,h2,h3,h4,h5,h6,hk _ h7⟩
  ·obtain⟨i,off,cs,own,L,l,h0,h1,h2,h3,h4,h5,h6,h7,h8⟩:=h;exact⟨i,off,cs,own,L,l,h0,h1,h2,h3,h4,h5,h6,h7,hk _ h8⟩
  ·obtain⟨vs,h1,h2,h3⟩:=h;exact⟨vs,h1,h2,hk _ h3⟩
  ·obtain⟨r,ro,H',oa,h1,h2,h3⟩:=h;exact⟨r,ro,H',oa,h1,h2,hk _ h3⟩
  ·exact h
theorem rR{K:List It->az->Prop}:∀(rest:List Oper) (pos id:Nat) (sc:List It) (st:az),Es P GE A ops K rest pos id sc st->dQ P GE A ops (λst=>∃sc,K sc st) rest id st
 |[],_,_,sc,st,h=>⟨sc,h⟩
 | o :: rest,pos,id,sc,st,h => by
  simp only[Es]at h
  have step:∀sc st,Dw P GE A o id sc st (λsc' st'=>Es P GE A ops K rest (pos+1) (id+if aw o.op then 1 else 0) sc' st')->vE P GE A o id (dQ P GE A ops (λst=>∃sc,K sc st) rest (id+if aw o.op then 1 else 0)) st:=
   λsc st hs=>vF (λst' hx=>by obtain⟨sc',hx⟩:=hx;exact rR rest _ _ sc' st' hx) (Gs hs)
  unfold dQ
  split at h
  ·rename_i hg;simp only[hg];exact step _ _ h
  ·rename_i j want hg
   obtain⟨x,hx,hc⟩:=xk h
   simp only[hg,hx]
   rcases hc with⟨rfl,sc',hc⟩|⟨hne,sc',hc⟩
   ·exact⟨λ_=>step _ _ hc,λhn=>absurd rfl hn⟩
   ·refine⟨λhe=>absurd he hne,λ_=>?_⟩
    simp only[nq]at hc
    exact rR rest _ _ sc' _ hc
end
end Go.Proofs.YtjddnhkahpfhdaaGreatDoor
