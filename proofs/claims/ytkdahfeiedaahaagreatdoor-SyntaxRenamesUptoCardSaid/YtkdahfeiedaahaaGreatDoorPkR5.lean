/- PROVED: a part of the proof. Conditions: none. -/
import Derived.Test.YtkdahfeiedaahaaGreatDoorPkR4
set_option linter.unusedSimpArgs false
set_option linter.unusedVariables false
noncomputable section
namespace Go.Proofs.YtkdahfeiedaahaaGreatDoor
open Go
structure GC where
 ρ:List Nat
 argsC:List PVal
 oa:List OA
 Bs:List aA
 Hc:List aA
 Bs':List aA
 Hc':List aA
 r:PVal
 rc:PVal
 ro:List (Nat×TypeId)
inductive It where
 |cg (c:GC)
 |cn (c:GC)
 |ar (i:Nat) (e:TypeId) (n:Nat) (cs:List PVal)
 |fz (i:Nat) (es:List (List PVal)) (lv rk:List Nat)
 |g (j:Nat) (b:Bool)
 |k
 |s
 |v (p:PVal)
 |x (cs:List PVal)
 |w (i:Nat) (B:aA)
 |c (r:PVal) (ro:List (Nat×TypeId))
 |dr (an:List Nat)
 |dx (an:List Nat) (X:List aA) (br:List (Nat×Nat)) (rw:List Nat)
 |pa (n:Nat)
 |pc (st0:aB) (e:Exit) (st1:aB)
 |b (p:PVal) (L:List (Nat×TypeId))
 |y (vs:List PVal)
 |z (l:List PVal)
 |e (vs:List PVal)
 |sh (t k:Nat) (e:TypeId)
def rv:List PVal->Nat->(PVal->Prop)->Prop
 |[],_,k=>k .undef
 |p::_,0,k=>k p
 |_::l,n+1,k=>rv l n k
theorem fU:∀(l:List PVal) (n:Nat) (k:PVal->Prop),rv l n k=k (l.getD n .undef)
 |[],_,_=>by simp[rv]
 |_::_,0,_=>by simp[rv]
 |_::l,n+1,k=>by simp only[rv,fU l n k,List.getD_cons_succ]
def eu{α:Type}:List α->Nat->α->(List α->Prop)->Prop
 |[],_,_,k=>k []
 |_::l,0,v,k=>k (v::l)
 |x::l,n+1,v,k=>eu l n v λl'=>k (x::l')
theorem bk{α:Type}:∀(l:List α) (n:Nat) (v:α) (k:List α->Prop),eu l n v k=k (l.set n v)
 |[],_,_,_=>by simp[eu]
 |_::_,0,_,_=>by simp[eu]
 |x::l,n+1,v,k=>by simp only[eu,bk l n v,List.set_cons_succ]
def ba{α:Type}:List α->(List α->Prop)->Prop
 |[],k=>k []
 |x::l,k=>ba l λl'=>k (x::l')
def EZ(l:List aA)(r:List aA)(k:List aA->Prop):Prop:=ba (l++r) k
theorem aF{α:Type}:∀(l:List α) (k:List α->Prop),ba l k=k l
 |[],_=>rfl
 |x::l,k=>by simp only[ba,aF l]
def ZM:Value->(PVal->Prop)->Prop
 |.int a n,k=>k (.int a n)
 |.bool b,k=>k (.bool b)
 |.string s,k=>ba s.data.toList λl=>k (.str l)
 |v,k=>k (absV v)
theorem XU(v:Value)(k:PVal->Prop):ZM v k=k (absV v):=by
 unfold ZM
 split
 ·rfl
 ·rfl
 ·rw[aF];rfl
 ·rfl
def lT(GE:List (Nat×List PVal))(tmps:List PVal)(x:Operand)(k:PVal->Prop):Prop:=
 match x with
 |.tmp t=>rv tmps t k
 |.const v=>ZM v k
 |x=>k (opv GE tmps x)
theorem bP(GE:List (Nat×List PVal))(tmps:List PVal)(x:Operand)(k:PVal->Prop):lT GE tmps x k=k (opv GE tmps x):=by
 cases x with
 |tmp t=>exact fU _ _ _
 |const v=>exact XU _ _
 |global g=>rfl
 |func f=>rfl
def LM(GE:List (Nat×List PVal))(tmps:List PVal):List Operand->(List PVal->Prop)->Prop
 |[],k=>k []
 |x::l,k=>lT GE tmps x λp=>LM GE tmps l λps=>k (p::ps)
theorem kz(GE:List (Nat×List PVal))(tmps:List PVal):∀(l:List Operand) (k:List PVal->Prop),LM GE tmps l k=k (l.map (opv GE tmps))
 |[],_=>rfl
 |x::l,k=>by simp only[LM,bP,kz GE tmps l,vaz]
def vX(GE:List (Nat×List PVal))(tmps:List PVal):List (Nat×Operand)->(List (Nat×PVal)->Prop)->Prop
 |[],k=>k []
 |x::l,k=>lT GE tmps x.2 λp=>vX GE tmps l λps=>k ((x.1,p)::ps)
theorem nb(GE:List (Nat×List PVal))(tmps:List PVal):∀(l:List (Nat×Operand)) (k:List (Nat×PVal)->Prop),vX GE tmps l k=k (l.map λx=>(x.1,opv GE tmps x.2))
 |[],_=>rfl
 |x::l,k=>by simp only[vX,bP,nb GE tmps l,vaz]
def YD(GE:List (Nat×List PVal))(tmps:List PVal):Option Operand->(Option PVal->Prop)->Prop
 |none,k=>k none
 |some x,k=>lT GE tmps x λp=>k (some p)
theorem YE(GE:List (Nat×List PVal))(tmps:List PVal)(o:Option Operand)(k:Option PVal->Prop):YD GE tmps o k=k (o.map (opv GE tmps)):=by
 cases o with
 |none=>rfl
 |some x=>simp only[YD,bP,vak]
def Eg(sc:List It)(f:PVal->Prop)(K:PVal->List It->Prop):Prop:=
 match sc with
 |.v p::sc'=>f p/\K p sc'
 |_=>False
def Lq(o:Option PVal)(K:PVal->Prop):Prop:=
 match o with
 |some p=>K p
 |none=>False
theorem rx{o:Option PVal}{K:PVal->Prop}(h:Lq o K):∃p,o=some p/\K p:=by
 unfold Lq at h
 split at h
 ·exact⟨_,rfl,h⟩
 ·exact h.elim
theorem lw{sc:List It}{f:PVal->Prop}{K:PVal->List It->Prop}(h:Eg sc f K):∃p sc',f p/\K p sc':=by
 unfold Eg at h
 split at h
 ·exact⟨_,_,h⟩
 ·exact h.elim
def CC(P:Program)(GE:List (Nat×List PVal))(g:FuncId)(args:List PVal)(r:PVal)(ro:List (Nat×TypeId)):Prop:=gZ 0 args/\C P GE g args [] [] r ro []
def LX(P:Program)(t:TypeId)(es:List (PVal×PVal))(k:PVal)(ok:Bool):Option PVal:=
 match P.underlying t with
 | some (.map kt e) => match P.underlying kt with
  | some kd =>
   if mC kd k then
    match AK k es 0,HM P e with
    |some (some (_,v)),_=>some (if ok then .tuple [v,.bool true]else v)
    |some none,some z=>some (if ok then .tuple [z,.bool false]else z)
    |_,_=>none
   else none
  |_=>none
 |_=>none
theorem UT{P:Program}{t:TypeId}{es:List (PVal×PVal)}{k p:PVal}{ok:Bool}{H:List aA}{i:Nat}(hB:H[i]? =some (.map es))(h:LX P t es k ok=some p):uR P t (.mapr i) k ok H=some p:=by
 unfold LX at h
 unfold uR
 split at h
 ·rename_i kt e hu
  split at h
  ·rename_i kd hk
   simp only[hu,hB,hk]
   exact h
  ·cases h
 ·cases h
def N9(P:Program)(t:TypeId)(es:List (PVal×PVal))(k v:PVal):Option (List (PVal×PVal)):=
 match P.underlying t with
 | some (.map kt _) => match P.underlying kt with
  | some kd =>
   if mC kd k then
    match AK k es 0 with
    |some (some (j,_))=>some (es.set j (k,v))
    |some none=>some (es++[(k,v)])
    |none=>none
   else none
  |_=>none
 |_=>none
theorem Rj{P:Program}{t:TypeId}{es es':List (PVal×PVal)}{k v:PVal}{H:List aA}{i:Nat}(hB:H[i]? =some (.map es))(h:N9 P t es k v=some es'):gG P t (.mapr i) k v H=some (H.set i (.map es')):=by
 unfold N9 at h
 unfold gG
 split at h
 ·rename_i kt e hu
  split at h
  ·rename_i kd hk
   simp only[hu,hB,hk]
   split at h
   ·rename_i hkk
    rw[vah hkk]
    split at h
    ·rename_i hf;cases h;simp[hf]
    ·rename_i hf;cases h;simp[hf]
    ·cases h
   ·cases h
  ·cases h
 ·cases h
def kw:List aA->Nat->(aA->Prop)->Prop
 |[],_,_=>False
 |B::_,0,k=>k B
 |_::l,n+1,k=>kw l n k
theorem dJ:∀{l:List aA} {n:Nat} {k:aA->Prop},kw l n k->∃B,l[n]? =some B/\k B
 |[],_,_,h=>h.elim
 |B::_,0,_,h=>⟨B,rfl,h⟩
 |_::l,n+1,k,h=>by simp only[kw]at h;obtain⟨B,h1,h2⟩:=dJ h;exact⟨B,by simpa using h1,h2⟩
def Uz(op:BinOp)(x:PVal):Bool:=match op,x with
 |.quo,_=>true
 |.rem,_=>true
 |.add,.str _=>true
 |_,.agg _=>true
 |_,_=>false
def Ts(P:Program)(GE:List (Nat×List PVal))(op:Op)(tmps:List PVal)(H:List aA)(sc:List It)(K:PVal->List aA->List It->Prop):Prop:=
 match op with
 |.move x=>lT GE tmps x λp=>K p H sc
 |.assign x=>lT GE tmps x λp=>K p H sc
 |.pick c x y=>lT GE tmps c λpc=>match pc with
  |.bool true=>lT GE tmps x λp=>K p H sc
  |.bool false=>lT GE tmps y λp=>K p H sc
  |_=>False
 |.binOp op T x y _=>lT GE tmps x λvx=>lT GE tmps y λvy=>match Uz op vx with
  |true=>Eg sc (λp=>LO P op T vx vy=some p) λp sc'=>K p H sc'
  |false=>Lq (LO P op T vx vy) λp=>K p H sc
 |.unOp op _ x=>lT GE tmps x λvx=>Lq (qcF op vx) λp=>K p H sc
 |.convert s d x=>lT GE tmps x λvx=>Eg sc (λp=>Iv P s d vx=some p) λp sc'=>K p H sc'
 |.extract t i=>lT GE tmps t λvt=>Lq (nS vt i) λp=>K p H sc
 |.nilCheck x=>lT GE tmps x λvx=>match vx with
  |.eptr cs=>K (.eptr cs) H sc
  |.bptr i off=>K (.bptr i off) H sc
  |.func (.func f) first cap=>K (.func (.func f) first cap) H sc
  |_=>False
 |.makeFunc fn first cap=>LM GE tmps first.toList λf=>LM GE tmps cap.toList λc=>K (.func fn f c) H sc
 | .load t x => lT GE tmps x fun vx => match vx with
  |.eptr cs=>Eg sc (λp=>aY P t cs=some p) λp sc'=>K p H sc'
  | .bptr i off => kw H i fun B => match B with
   |.cells cs _=>match sc with
    |.s::sc'=>Lq (aY P t (cs.drop off)) λp=>K p H sc'
    |.v p::sc'=>aY P t (cs.drop off)=some p/\K p H sc'
    |_=>False
   |_=>False
  |_=>False
 | .store t x y => lT GE tmps x fun vx => lT GE tmps y fun vy => match vx,sc with
  | .bptr i off,.s :: sc' => match cj vy with
   | some vs => kw H i fun B => match B with
    |.cells cs own=>match decide (vs.length=P.cellsOf t)&&(P.info? t).isSome&&decide (off+vs.length<=cs.length)&&vs.all PVal.one with
     |true=>ba (cs.take off++vs++cs.drop (off+vs.length)) λcs'=>eu H i (.cells cs' (own.filter λy=>y.1<off||off+vs.length<=y.1)) λH'=>K (.val undef) H' sc'
     |false=>False
    |_=>False
   |none=>False
  | .bptr i off,.x vs :: sc' => cj vy = some vs∧(kw H i fun B => match B with
    |.cells cs own=>match decide (vs.length=P.cellsOf t)&&(P.info? t).isSome&&decide (off+vs.length<=cs.length)&&vs.all PVal.one with
     |true=>ba (cs.take off++vs++cs.drop (off+vs.length)) λcs'=>eu H i (.cells cs' (own.filter λy=>y.1<off||off+vs.length<=y.1)) λH'=>K (.val undef) H' sc'
     |false=>False
    |_=>False)
  |.bptr i off,.w _ (.cells cs' own')::sc'=>kw H i λB=>(di P t (.bptr 0 off) vy [B]=some [.cells cs' own'])/\eu H i (.cells cs' own') λH'=>K (.val undef) H' sc'
  |_,_=>False
 |.fieldAddr s x f=>lT GE tmps x λvx=>match vx with
  |.bptr i off=>Lq (bv P s (.bptr i off) f) λp=>K p H sc
  |vx=>Eg sc (λp=>bv P s vx f=some p) λp sc'=>K p H sc'
 |.field t x f=>lT GE tmps x λvx=>Eg sc (λp=>PU P t vx f=some p) λp sc'=>K p H sc'
 |.indexAddr t x i=>lT GE tmps x λvx=>lT GE tmps i λvi=>Eg sc (λp=>iq P t vx vi=some p) λp sc'=>K p H sc'
 |.index t x i=>lT GE tmps x λvx=>lT GE tmps i λvi=>Eg sc (λp=>yk P t vx vi=some p) λp sc'=>K p H sc'
 | .lookup t m k ok => lT GE tmps m fun vm => lT GE tmps k fun vk => match vm with
  |.mapr i=>kw H i λB=>match B with
   |.map es=>Eg sc (λp=>LX P t es vk ok=some p) λp sc'=>K p H sc'
   |_=>False
  |_=>False
 | .mapUpdate t m k x => lT GE tmps m fun vm => lT GE tmps k fun vk => lT GE tmps x fun vx => match vm,sc with
  |.mapr i,.w _ (.map es')::sc'=>kw H i λB=>match B with
   |.map es=>N9 P t es vk vx=some es'/\eu H i (.map es') λH'=>K (.val undef) H' sc'
   |_=>False
  |_,_=>False
 |.slice t x lo hi none=>lT GE tmps x λvx=>YD GE tmps lo λvl=>YD GE tmps hi λvh=>Eg sc (λp=>AO P t vx vl vh none=some p) λp sc'=>K p H sc'
 |.build t parts=>vX GE tmps parts.toList λps=>Eg sc (λp=>dh P t ps=some p) λp sc'=>K p H sc'
 |.buildSlice t len parts=>vX GE tmps parts.toList λps=>Eg sc (λp=>eV P t len ps=some p) λp sc'=>K p H sc'
 | .call { callee := .builtin .len,args:=⟨[x]⟩,argTypes:=⟨[t]⟩ } => lT GE tmps x fun vx => match vx with
  |.mapr i=>kw H i λB=>match B with
   |.map es=>Eg sc (λp=>p=.int .i64 es.length/\(P.underlying t).any (λd=>match d with|.map _ _=>true|_=>false)=true) λp sc'=>K p H sc'
   |_=>False
  |vx=>Eg sc (λp=>∀H,AL P t vx H=some p) λp sc'=>K p H sc'
 |.call {callee:=.builtin .max,args:=⟨x::r⟩,..}=>lT GE tmps x λvx=>LM GE tmps r λvr=>Lq (Iw TU vx vr) λp=>K p H sc
 |.call {callee:=.builtin .min,args:=⟨x::r⟩,..}=>lT GE tmps x λvx=>LM GE tmps r λvr=>Lq (Iw TV vx vr) λp=>K p H sc
 |_=>False
section
variable{P:Program}{GE:List (Nat×List PVal)}
theorem U0{t:TypeId}{off i:Nat}{y:PVal}{H:List aA}{B:aA}{cs':List PVal}{own':List (Nat×TypeId)}(hB:H[i]? =some B)(h:di P t (.bptr 0 off) y [B]=some [.cells cs' own']):di P t (.bptr i off) y H=some (H.set i (.cells cs' own')):=by
 unfold di at h ⊢
 split at h
 ·rename_i i' off' vs h1 h2
  cases h1
  simp only[h2]
  change (match(some B:Option aA)with|some (.cells cs own)=>_|_=>none)=_ at h
  rw[hB]
  split at h
  ·rename_i hb
   cases hb
   simp only
   split at h
   ·rename_i hc
    rw[vah hc]
    simp only[List.set_cons_zero,vax,vbN,vci]at h
    rw[h]
   ·cases h
  ·cases h
 ·cases h
theorem W7(t:TypeId)(id:Nat)(v:Operand->PVal)(x:Operand)(H:List aA):oT P (.load t x) id v H=(jx P t (v x) H).map λp=>(p,H):=rfl
theorem If{op:Op}{id:Nat}{tmps:List PVal}{H:List aA}{sc:List It}{K:PVal->List aA->List It->Prop}(h:Ts P GE op tmps H sc K):∃p H' sc',oT P op id (opv GE tmps) H=some (p,H')/\K p H' sc'/\H'.length=H.length:=by
 unfold Ts at h
 split at h
 case h_1=>rw[bP]at h;exact⟨_,_,_,rfl,h,rfl⟩
 case h_2=>rw[bP]at h;exact⟨_,_,_,rfl,h,rfl⟩
 case h_3 c x y=>
  rw[bP]at h
  split at h
  ·rename_i hc;rw[bP]at h;exact⟨_,_,_,by simp only[oT,hc],h,rfl⟩
  ·rename_i hc;rw[bP]at h;exact⟨_,_,_,by simp only[oT,hc],h,rfl⟩
  ·exact h.elim
 case h_4=>
  simp only[bP]at h
  split at h
  ·obtain⟨p,sc',h1,h2⟩:=lw h;exact⟨p,_,sc',by simp only[oT,h1,vak],h2,rfl⟩
  ·obtain⟨p,h1,h2⟩:=rx h;exact⟨p,_,_,by simp only[oT,h1,vak],h2,rfl⟩
 case h_5=>simp only[bP]at h;obtain⟨p,h1,h2⟩:=rx h;exact⟨p,_,_,by simp only[oT,h1,vak],h2,rfl⟩
 case h_6=>simp only[bP]at h;obtain⟨p,sc',h1,h2⟩:=lw h;exact⟨p,_,sc',by simp only[oT,h1,vak],h2,rfl⟩
 case h_7=>simp only[bP]at h;obtain⟨p,h1,h2⟩:=rx h;exact⟨p,_,_,by simp only[oT,h1,vak],h2,rfl⟩
 case h_8=>
  simp only[bP]at h
  split at h
  ·rename_i hv;exact⟨_,_,_,by simp only[oT,hv],h,rfl⟩
  ·rename_i hv;exact⟨_,_,_,by simp only[oT,hv],h,rfl⟩
  ·rename_i hv;exact⟨_,_,_,by simp only[oT,hv],h,rfl⟩
  ·exact h.elim
 case h_9=>simp only[kz]at h;exact⟨_,_,_,rfl,h,rfl⟩
 case h_10 t x=>
  simp only[bP]at h
  rw[W7]
  split at h
  ·rename_i cs hv
   obtain⟨p,sc',h1,h2⟩:=lw h
   exact⟨p,_,sc',by simp only[hv,jx,h1,vak],h2,rfl⟩
  ·rename_i i off hv
   obtain⟨B,hB,h⟩:=dJ h
   split at h
   ·rename_i cs own
    split at h
    ·obtain⟨p,h1,h2⟩:=rx h
     exact⟨p,_,_,by simp only[hv,jx,hB,h1,vak],h2,rfl⟩
    ·exact⟨_,_,_,by simp only[hv,jx,hB,h.1,vak],h.2,rfl⟩
    ·exact h.elim
   ·exact h.elim
  ·exact h.elim
 case h_11 t x y=>
  simp only[bP]at h
  split at h
  ·rename_i i off sc' hv
   split at h
   ·rename_i vs hvs
    obtain⟨B,hB,h⟩:=dJ h
    split at h
    ·rename_i cs own
     split at h
     ·rename_i hc
      simp only[aF,bk]at h
      simp only[vad,vao]at hc
      exact⟨_,_,_,by simp only[oT,di,hv,hvs,hB];rw[vah ⟨hc.1.1.1,hc.1.1.2,hc.1.2,hc.2⟩];rfl,h,by simp⟩
     ·exact h.elim
    ·exact h.elim
   ·exact h.elim
  ·rename_i i off vs sc' hv
   obtain⟨hvs,h⟩:=h
   obtain⟨B,hB,h⟩:=dJ h
   split at h
   ·rename_i cs own
    split at h
    ·rename_i hc
     simp only[aF,bk]at h
     simp only[vad,vao]at hc
     exact⟨_,_,_,by simp only[oT,di,hv,hvs,hB];rw[vah ⟨hc.1.1.1,hc.1.1.2,hc.1.2,hc.2⟩];rfl,h,by simp⟩
    ·exact h.elim
   ·exact h.elim
  ·rename_i i off j cs' own' sc' hv
   obtain⟨B,hB,h1,h2⟩:=dJ h
   rw[bk]at h2
   exact⟨_,_,_,by simp only[oT,hv,U0 hB h1];rfl,h2,by simp⟩
  ·exact h.elim
 case h_12=>
  simp only[bP]at h
  split at h
  ·rename_i hv
   obtain⟨p,h1,h2⟩:=rx h;exact⟨p,_,_,by simp only[oT,hv,h1,vak],h2,rfl⟩
  ·obtain⟨p,sc',h1,h2⟩:=lw h;exact⟨p,_,sc',by simp only[oT,h1,vak],h2,rfl⟩
 case h_13=>simp only[bP]at h;obtain⟨p,sc',h1,h2⟩:=lw h;exact⟨p,_,sc',by simp only[oT,h1,vak],h2,rfl⟩
 case h_14=>simp only[bP]at h;obtain⟨p,sc',h1,h2⟩:=lw h;exact⟨p,_,sc',by simp only[oT,h1,vak],h2,rfl⟩
 case h_15=>simp only[bP]at h;obtain⟨p,sc',h1,h2⟩:=lw h;exact⟨p,_,sc',by simp only[oT,h1,vak],h2,rfl⟩
 case h_16 t m k ok=>
  simp only[bP]at h
  split at h
  ·rename_i i hv
   obtain⟨B,hB,h⟩:=dJ h
   split at h
   ·rename_i es
    obtain⟨p,sc',h1,h2⟩:=lw h
    exact⟨p,_,sc',by simp only[oT,hv,UT hB h1,vak],h2,rfl⟩
   ·exact h.elim
  ·exact h.elim
 case h_17 t m k x=>
  simp only[bP]at h
  split at h
  ·rename_i i j es' sc' hv
   obtain⟨B,hB,h⟩:=dJ h
   split at h
   ·rename_i es
    obtain⟨h1,h2⟩:=h
    rw[bk]at h2
    exact⟨_,_,_,by simp only[oT,hv,Rj hB h1];rfl,h2,by simp⟩
   ·exact h.elim
  ·exact h.elim
 case h_18=>simp only[bP,YE]at h;obtain⟨p,sc',h1,h2⟩:=lw h;exact⟨p,_,sc',by simp only[oT,h1,vak],h2,rfl⟩
 case h_19=>simp only[nb]at h;obtain⟨p,sc',h1,h2⟩:=lw h;exact⟨p,_,sc',by simp only[oT,h1,vak],h2,rfl⟩
 case h_20=>simp only[nb]at h;obtain⟨p,sc',h1,h2⟩:=lw h;exact⟨p,_,sc',by simp only[oT,h1,vak],h2,rfl⟩
 case h_21 x t=>
  simp only[bP]at h
  split at h
  ·rename_i i hv
   obtain⟨B,hB,h⟩:=dJ h
   split at h
   ·rename_i es
    obtain⟨p,sc',⟨rfl,h1⟩,h2⟩:=lw h
    refine⟨_,_,sc',?_,h2,rfl⟩
    simp only[oT,hv,AL]
    cases hu:P.underlying t with
    |none=>rw[hu]at h1;cases h1
    |some d=>
     rw[hu]at h1
     cases d<;>simp at h1
     simp only[hB,vak]
   ·exact h.elim
  ·obtain⟨p,sc',h1,h2⟩:=lw h;exact⟨p,_,sc',by simp only[oT,h1 H,vak],h2,rfl⟩
 case h_22=>simp only[bP,kz]at h;obtain⟨p,h1,h2⟩:=rx h;exact⟨p,_,_,by simp only[oT,h1,vak],h2,rfl⟩
 case h_23=>simp only[bP,kz]at h;obtain⟨p,h1,h2⟩:=rx h;exact⟨p,_,_,by simp only[oT,h1,vak],h2,rfl⟩
 case h_24=>exact h.elim
end
def Np(st:aB)(dst:Option Tmp)(p:PVal)(ro:List (Nat×TypeId))(H:List aA)(K:aB->Prop):Prop:=
 match dst with
 |some d=>eu st.tmps d p λtm=>ba ((ro.map λx=>((d,x.1),x.2))++bu d st.own) λow=>K ⟨tm,H,ow⟩
 |none=>K ⟨st.tmps,H,st.own⟩
theorem rG(st:aB)(dst:Option Tmp)(p:PVal)(ro:List (Nat×TypeId))(H:List aA)(K:aB->Prop):Np st dst p ro H K=K (vY st dst p ro H):=by
 cases dst with
 |none=>rfl
 |some d=>simp only[Np,bk,aF,vY]
def Sn(P:Program)(GE:List (Nat×List PVal))(f:Operand)(args:List Operand)(tmps:List PVal)(sc:List It)(K:PVal->List (Nat×TypeId)->List It->Prop):Prop:=
 lT GE tmps f λvf=>match vf with
  |.func (.func g) first cap=>LM GE tmps args λas=>match sc with
   |.c r ro::sc'=>CC P GE g (first++as++cap) r ro/\K r ro sc'
   |_=>False
  |_=>False
def uD(P:Program)(GE:List (Nat×List PVal))(o:Oper)(id:Nat)(sc:List It)(st:aB)(K:List It->aB->Prop):Prop:=
 match lL o st.tmps.length with
 |false=>False
 | true => match o.op with
  |.call {callee:=.value f,args,..}=>Sn P GE f args.toList st.tmps sc λr ro sc'=>Np st o.dst r ro st.boxes λst'=>K sc' st'
  |.alloc t=>match sc with
   |.x zs::sc'=>eD P t=some zs/\ba (IB P t) λow=>eu st.boxes id (.cells zs ow) λH=>Np st o.dst (.bptr id 0) [] H λst'=>K sc' st'
   |_=>False
  |.box _ x=>lT GE st.tmps x λvx=>match sc with
   |.x cs::sc'=>cj vx=some cs/\Fx cs=true/\eu st.boxes id (.cells cs []) λH=>Np st o.dst (.bptr id 0) [] H λst'=>K sc' st'
   |_=>False
  |.makeMap _ none=>eu st.boxes id (.map []) λH=>Np st o.dst (.mapr id) [] H λst'=>K sc st'
  |op=>Ts P GE op st.tmps st.boxes sc λp H sc'=>Np st o.dst p [] H λst'=>K sc' st'
def M9(n d:Nat)(K:Prop):Prop:=match decide (d<n)with
 |true=>K
 |false=>False
theorem jK{n d:Nat}{K:Prop}(h:M9 n d K):d<n/\K:=by
 unfold M9 at h
 split at h
 ·rename_i hd;exact⟨by simpa using hd,h⟩
 ·exact h.elim
def K9(P:Program)(st:aB)(T e:TypeId)(t:Nat)(dst:Option Tmp)(vx vt:PVal)(sc:List It)(K:List It->aB->Prop):Prop:=
 match vx with
 | .bptr i off => match di P T (.bptr i off) vt st.boxes with
  | some H => kw H i fun B => match B with
   |.cells cs own=>match vt.one with
    |true=>ba cs λcs'=>eu H i (.cells cs' ((off,e)::own)) λH'=>Np {st with own:=st.own.filter λx=>x.1 !=(t,0)} dst (.val undef) [] H' λst'=>K sc st'
    |false=>False
   |_=>False
  |none=>False
 |_=>False
def La(P:Program)(GE:List (Nat×List PVal))(A:List Nat)(o:Oper)(id:Nat)(sc:List It)(st:aB)(K:List It->aB->Prop):Prop:=
 match o.op,o.dst with
 |.assign (.tmp t),some d=>M9 st.tmps.length d (rv st.tmps t λp=>eu st.tmps d p λtm=>ba (gi d (λx=>if x.1=t then(d,x.2)else x) st.own) λow=>K sc ⟨tm,st.boxes,ow⟩)
 |.move (.tmp t),some d=>match decide (d∈A)with
  |true=>M9 st.tmps.length d (rv st.tmps t λp=>eu st.tmps d p λtm=>ba (gi d (λx=>if x.1=t then(d,x.2)else x) st.own) λow=>K sc ⟨tm,st.boxes,ow⟩)
  |false=>uD P GE o id sc st K
 |.assign (.const v),some d=>match rC P o.type v with
  |some e=>M9 st.tmps.length d (eu st.tmps d (.slice []) λtm=>ba (((d,0),e)::bu d st.own) λow=>K sc ⟨tm,st.boxes,ow⟩)
  |none=>uD P GE o id sc st K
 |.move (.const v),some d=>match rC P o.type v with
  |some e=>M9 st.tmps.length d (eu st.tmps d (.slice []) λtm=>ba (((d,0),e)::bu d st.own) λow=>K sc ⟨tm,st.boxes,ow⟩)
  |none=>uD P GE o id sc st K
 |.extract (.tmp t) i,some d=>M9 st.tmps.length d (rv st.tmps t λvt=>Lq (nS vt i) λp=>eu st.tmps d p λtm=>ba (gi d (λx=>if x=(t,i)then(d,0)else x) st.own) λow=>K sc ⟨tm,st.boxes,ow⟩)
 |.buildSlice T len parts,some d=>M9 st.tmps.length d (vX GE st.tmps parts.toList λps=>match sc,P.underlying T with
  |.v p::sc',some (.slice e)=>eV P T len ps=some p/\eu st.tmps d p λtm=>ba (((d,0),e)::bu d st.own) λow=>K sc' ⟨tm,st.boxes,ow⟩
  |_,_=>False)
 | .call { callee := .builtin .append,args:=⟨[.tmp t,y]⟩,argTypes:=⟨[T,T']⟩ },some d => M9 st.tmps.length d (rv st.tmps t fun ve => lT GE st.tmps y fun vn => match ve,vn,sc,P.underlying T with
  |.slice es,.slice ns,.v p::sc',some (.slice e)=>match decide (T=T')&&decide (((t,0),e)∈st.own)with
   |true=>hO P T es ns=some p/\eu st.tmps d p λtm=>ba (((d,0),e)::bu d (st.own.filter λx=>x.1 !=(t,0))) λow=>K sc' ⟨tm,st.boxes,ow⟩
   |false=>False
  |_,_,_,_=>False)
 | .load T x,some d => match decide (d ∈ A) with
  | true => M9 st.tmps.length d (lT GE st.tmps x fun vx => match vx,P.underlying T with
   | .bptr i off,some (.slice e) => kw st.boxes i fun B => match B with
    |.cells cs own=>match decide ((off,e)∈own)&&decide (off<cs.length)with
     |true=>rv cs off λp=>eu st.tmps d p λtm=>ba (own.filter λx=>x.1 !=off) λown'=>eu st.boxes i (.cells cs own') λH=>ba (((d,0),e)::bu d st.own) λow=>K sc ⟨tm,H,ow⟩
     |false=>False
    |_=>False
   |_,_=>False)
  |false=>uD P GE o id sc st K
 |.store T x (.tmp t),_=>match st.own.find? (λy=>y.1==(t,0))with
  |some (_,e)=>lT GE st.tmps x λvx=>rv st.tmps t λvt=>K9 P st T e t o.dst vx vt sc K
  |none=>uD P GE o id sc st K
 |_,_=>uD P GE o id sc st K
def qeF:Value->Bool
 |.bool _=>true
 |_=>false
def JM(ops:Array Oper)(j:Nat)(want:Bool)(pos:Nat)(sc:List It)(st:aB)(go:Bool->List It->aB->Prop):Prop:=
 match(ops[j]?).bind (·.dst)with
 |none=>False
 | some t => rv st.tmps t fun p => match p with
  | .bool x => match sc with
   |.g pos' b::sc'=>match pos'==pos with
    |true=>x=b/\eu st.tmps t (.bool b) λtm=>go (b==want) sc' ⟨tm,st.boxes,st.own⟩
    |false=>go (x==want) sc st
   |_=>go (x==want) sc st
  |.val v=>match qeF v with
   |true=>False
   |false=>go false sc st
  |_=>False
def nO:List Nat->Bool
 |[]=>true
 |x::r=>!(r.contains x)&&nO r
theorem kj:∀{l:List Nat},nO l=true->l.Nodup
 |[],_=>.nil
 |x::r,h=>by
  simp only[nO,vad,va0,vcX,vbe]at h
  exact vbu.2 ⟨h.1,kj h.2⟩
def Is(t:Nat)(own:List ((Nat×Nat)×TypeId)):List (Nat×TypeId):=own.filterMap λx=>if x.1.1==t then some (x.1.2,x.2)else none
theorem BP{t:Nat}{own:List ((Nat×Nat)×TypeId)}{y:Nat×TypeId}(h:y∈Is t own):((t,y.1),y.2)∈own:=by
 unfold Is at h
 obtain⟨⟨⟨t',k⟩,e⟩,hx,he⟩:=vbA.1 h
 split at he
 ·rename_i ht
  simp only[vaP]at ht
  cases he;subst ht;exact hx
 ·cases he
def TQ(off n:Nat)(own:List (Nat×TypeId)):List (Nat×TypeId):=own.filterMap λx=>if decide (off<=x.1)&&decide (x.1<off+n)then some (x.1 - off,x.2)else none
theorem BO{off n:Nat}{own:List (Nat×TypeId)}{y:Nat×TypeId}(h:y∈TQ off n own):(off+y.1,y.2)∈own/\y.1<n:=by
 unfold TQ at h
 obtain⟨⟨k,e⟩,hx,he⟩:=vbA.1 h
 split at he
 ·rename_i ht
  simp only[vad,vao]at ht
  cases he
  have:off+(k - off)=k:=by omega
  exact⟨by rw[this];exact hx,by simp only;omega⟩
 ·cases he
def B8(ρ:List Nat):List PVal->List PVal->Prop
 |[],[]=>True
 |p::ps,q::qs=>tQ ρ p q/\B8 ρ ps qs
 |_,_=>False
theorem B8.len{ρ:List Nat}:∀{l r:List PVal},B8 ρ l r->l.length=r.length
 |[],[],_=>rfl
 |[],_::_,h=>h.elim
 |_::_,[],h=>h.elim
 |_::_,_::_,h=>by simp[B8.len h.2]
theorem B8.get{ρ:List Nat}:∀{l r:List PVal},B8 ρ l r->∀(i:Nat) p q,l[i]? =some p->r[i]? =some q->tQ ρ p q
 |[],[],_,i,p,q,hp,_=>by simp at hp
 |[],_::_,h,_,_,_,_,_=>h.elim
 |_::_,[],h,_,_,_,_,_=>h.elim
 |_::_,_::_,h,0,p,q,hp,hq=>by simp at hp hq;subst hp;subst hq;exact h.1
 |_::_,_::_,h,i+1,p,q,hp,hq=>B8.get h.2 i p q (by simpa using hp) (by simpa using hq)
def RQ(ρ:List Nat):aA->aA->Prop
 |.cells cs own,.cells cs' own'=>own=own'/\B8 ρ cs cs'
 |.map es,.map es'=>es=es'/\∀x∈es,x.1.cl 0/\x.2.cl 0
 |.dead,.dead=>True
 |_,_=>False
theorem RQ.to{ρ:List Nat}{B B':aA}(h:RQ ρ B B'):gh ρ B B':=by
 cases B<;>cases B'<;>simp only[RQ]at h
 ·exact⟨h.1,h.2.len,h.2.get⟩
 ·obtain⟨rfl,h⟩:=h
  refine⟨rfl,λi k u k' u' h1 h2=>?_⟩
  rw[h1]at h2;cases h2
  obtain⟨q1,q2⟩:=h _ (vaA h1)
  exact⟨.refl _ q1,.refl _ q2⟩
 ·trivial
def nH(ρ:List Nat)(H:List aA):List Nat->List aA->List aA->Prop
 |[],[],[]=>True
 |j::js,B::Bs,Bc::Hc=>(kw H j λB0=>tS B0 B=B/\RQ ρ B Bc)/\nH ρ H js Bs Hc
 |_,_,_=>False
def pX(ρ:List Nat):List aA->List aA->Prop
 |[],[]=>True
 |B::Bs,Bc::Hc=>RQ ρ B Bc/\pX ρ Bs Hc
 |_,_=>False
def jz(H:List aA):List Nat->List aA->List aA
 |j::js,B::Bs=>jz (H.set j B) js Bs
 |_,_=>H
def P6(H:List aA):List Nat->List aA->(List aA->Prop)->Prop
 |j::js,B::Bs,K=>eu H j B λH'=>P6 H' js Bs K
 |_,_,K=>K H
theorem nf:∀(H:List aA) (js:List Nat) (Bs:List aA) (K:List aA->Prop),P6 H js Bs K=K (jz H js Bs)
 |H,[],_,K=>by cases ‹List aA›<;>rfl
 |H,_::_,[],K=>rfl
 |H,j::js,B::Bs,K=>by simp only[P6,bk,nf,jz]
theorem B3:∀(H:List aA) (js:List Nat) (Bs:List aA),(jz H js Bs).length=H.length
 |H,[],_=>by cases ‹List aA›<;>rfl
 |H,_::_,[]=>rfl
 |H,j::js,B::Bs=>by simp only[jz,B3,vcR]
theorem iY:∀(H:List aA) (js:List Nat) (Bs:List aA) {j:Nat},j∉js->(jz H js Bs)[j]? =H[j]?
 |H,[],Bs,_,_=>by cases Bs<;>rfl
 |H,_::_,[],_,_=>rfl
 |H,k::js,B::Bs,j,h=>by
  simp only[vaB,vcZ]at h
  simp only[jz]
  rw[iY _ js Bs h.2,vai (Ne.symm h.1)]
theorem FW:∀(H:List aA) (js:List Nat) (Bs:List aA),js.Nodup->js.length=Bs.length->(∀j∈js,j<H.length)->∀(i j:Nat) B,js[i]? =some j->Bs[i]? =some B->(jz H js Bs)[j]? =some B
 |H,[],Bs,_,_,_,i,j,B,hj,_=>by simp at hj
 |H,_::_,[],_,hl,_,_,_,_,_,_=>by simp at hl
 | H,k :: js,B0 :: Bs,hn,hl,hlt,i,j,B,hj,hB => by
  obtain⟨hn1,hn2⟩:=vbu.1 hn
  simp only[jz]
  cases i with
  |zero=>
   simp at hj hB;subst hj;subst hB
   rw[iY _ js Bs hn1,vae (hlt _ (by simp))]
  |succ i=>exact FW _ js Bs hn2 (by simpa using hl) (λx hx=>by rw[vcR];exact hlt x (by simp[hx])) i j B (by simpa using hj) (by simpa using hB)
theorem Lm{ρ:List Nat}{H:List aA}:∀{js:List Nat} {Bs Hc:List aA},nH ρ H js Bs Hc->js.length=Bs.length/\Hc.length=js.length/\(∀j∈js,j<H.length)/\
  ∀(i j:Nat) B Bc,js[i]? =some j->Bs[i]? =some B->Hc[i]? =some Bc->(∃B0,H[j]? =some B0/\tS B0 B=B)/\gh ρ B Bc
 |[],[],[],_=>⟨rfl,rfl,by simp,by simp⟩
 |[],_::_,_,h=>by simp[nH]at h
 |[],[],_::_,h=>by simp[nH]at h
 |_::_,[],_,h=>by simp[nH]at h
 |_::_,_::_,[],h=>by simp[nH]at h
 | k :: js,B :: Bs,Bc :: Hc,h => by
  obtain⟨h1,h2⟩:=h
  obtain⟨B0,hB0,h3,h4⟩:=dJ h1
  obtain⟨k1,k2,k3,k4⟩:=Lm h2
  refine⟨by simp[k1],by simp[k2],λj hj=>?_,λi j b bc hj hb hbc=>?_⟩
  ·rcases vaB.1 hj with rfl|hj
   ·exact aq hB0
   ·exact k3 j hj
  ·cases i with
   |zero=>simp at hj hb hbc;subst hj;subst hb;subst hbc;exact⟨⟨B0,hB0,h3⟩,h4.to⟩
   |succ i=>exact k4 i j b bc (by simpa using hj) (by simpa using hb) (by simpa using hbc)
theorem Ar{ρ:List Nat}:∀{Bs Hc:List aA},pX ρ Bs Hc->Bs.length=Hc.length/\∀(i:Nat) B Bc,Bs[i]? =some B->Hc[i]? =some Bc->gh ρ B Bc
 |[],[],_=>⟨rfl,by simp⟩
 |[],_::_,h=>h.elim
 |_::_,[],h=>h.elim
 |B::Bs,Bc::Hc,h=>by
  obtain⟨k1,k2⟩:=Ar h.2
  refine⟨by simp[k1],λi b bc hb hbc=>?_⟩
  cases i with
  |zero=>simp at hb hbc;subst hb;subst hbc;exact h.1.to
  |succ i=>exact k2 i b bc (by simpa using hb) (by simpa using hbc)
def Zf(t:Nat):Option Operand->Bool
 |some (.tmp u)=>u==t
 |_=>false
def Wr:Option Operand->Bool
 |some (.const v)=>kR v
 |_=>false
def Q6(n:Nat)(args:List Operand)(own:List ((Nat×Nat)×TypeId))(oa:List OA):Bool:=
 oa.all (λx=>decide (n<=x.i)&&((Wr args[x.i - n]? &&x.k==0)||(decide (((x.t,x.k),x.e)∈own)&&Zf x.t args[x.i - n]?)))&&oa.all λx=>oa.all λy=>!(x.t==y.t&&x.k==y.k)||x.i==y.i
def JV:aA->Bool
 |.dead=>false
 |_=>true
def gN(P:Program)(GE:List (Nat×List PVal))(f:Operand)(args:List Operand)(c:GC)(st:aB)(K:List aA->Prop):Prop:=
 lT GE st.tmps f λvf=>match vf with
 | .func (.func g) first cap => LM GE st.tmps args fun as => match nO c.ρ && Q6 first.length args st.own c.oa && c.Bs.all JV && decide (c.Bs'.length = c.ρ.length) with
  | true => C P GE g c.argsC (c.oa.map fun x => ((x.i,x.k),x.e)) c.Hc c.rc c.ro c.Hc'∧B8 c.ρ (first ++ as ++ cap) c.argsC∧nH c.ρ st.boxes c.ρ c.Bs c.Hc∧pX c.ρ c.Bs' c.Hc'∧tQ c.ρ c.r c.rc ∧
    P6 st.boxes c.ρ c.Bs' K
  |false=>False
 |_=>False
theorem pJ{P:Program}{GE:List (Nat×List PVal)}{f:Operand}{args:List Operand}{c:GC}{st:aB}{K:List aA->Prop}(h:gN P GE f args c st K):∃H',El P GE f args st c.r c.ro H' c.oa/\K H':=by
 unfold gN at h
 rw[bP]at h
 split at h
 ·rename_i g first cap hf
  rw[kz]at h
  split at h
  ·rename_i hb
   simp only[vad,vao]at hb
   obtain⟨⟨⟨b1,b2⟩,b3⟩,b4⟩:=hb
   obtain⟨h1,h2,h3,h4,h5,h6⟩:=h
   rw[nf]at h6
   have hn:=kj b1
   obtain⟨i1,i2,i3,i4⟩:=Lm h3
   obtain⟨o1,o2⟩:=Ar h4
   unfold Q6 at b2
   rw[vad]at b2
   obtain⟨c1,c2⟩:=b2
   have hgetB:∀{i j:Nat},c.ρ[i]? =some j->∃B,c.Bs[i]? =some B:=λ{i j} hj=>⟨_,vab (by rw[<-i1];exact aq hj)⟩
   have hgetH:∀{i j:Nat},c.ρ[i]? =some j->∃B,c.Hc[i]? =some B:=λ{i j} hj=>⟨_,vab (by rw[i2];exact aq hj)⟩
   refine⟨_,⟨g,first,cap,c.argsC,c.ρ,jz st.boxes c.ρ c.Bs,c.Hc,c.Hc',c.rc,hf,hn,h1,⟨B3 _ _ _,λi B hB=>?_⟩,⟨i2,λi j hj=>?_⟩,⟨by rw[<-o1];exact b4,λi j hj=>?_⟩,B3 _ _ _,λj hj=>by rw[iY _ _ _ hj,iY _ _ _ hj],h5,h2.len,h2.get,λx hx=>?_,λx hx y hy e1 e2=>?_⟩,h6⟩
   ·by_cases hi:i∈c.ρ
    ·obtain⟨k,hk⟩:=vbi.1 hi
     obtain⟨B1,hB1⟩:=hgetB hk
     obtain⟨Bc,hBc⟩:=hgetH hk
     obtain⟨⟨B0,hB0,hfg⟩,_⟩:=i4 k i B1 Bc hk hB1 hBc
     rw[FW _ _ _ hn i1 i3 k i B1 hk hB1]at hB
     cases hB
     refine⟨B0,hB0,?_⟩
     rcases Tt B0 B with hx|hx|hx
     ·rw[hfg]at hx
      have:=vas.1 b3 B (vaA hB1)
      rw[hx]at this;cases this
     ·rw[hfg]at hx;exact .inl hx
     ·rw[hfg]at hx;exact .inr hx
    ·rw[iY _ _ _ hi]at hB
     exact⟨B,hB,.inl rfl⟩
   ·obtain⟨B1,hB1⟩:=hgetB hj
    obtain⟨Bc,hBc⟩:=hgetH hj
    exact⟨B1,Bc,FW _ _ _ hn i1 i3 i j B1 hj hB1,hBc,(i4 i j B1 Bc hj hB1 hBc).2⟩
   ·have hi:=aq hj
    have e1:=vab (l:=c.Bs') (i:=i) (by omega)
    have e2:=vab (l:=c.Hc') (i:=i) (by omega)
    exact⟨_,_,FW _ _ _ hn b4.symm i3 i j _ hj e1,e2,o2 i _ _ e1 e2⟩
   ·have:=vas.1 c1 x hx
    simp only[vad,va3,vao,vaP]at this
    refine⟨x.i - first.length,by omega,?_⟩
    rcases this.2 with⟨h2,h3⟩|⟨h2,h3⟩
    ·left
     unfold Wr at h2
     split at h2
     ·rename_i v hv
      unfold kR at h2
      split at h2
      ·exact⟨hv,h3⟩
      ·cases h2
     ·cases h2
    ·right
     unfold Zf at h3
     split at h3
     ·rename_i u hu
      simp only[vaP]at h3
      subst h3;exact⟨h2,hu⟩
     ·cases h3
   ·have:=vas.1 (vas.1 c2 x hx) y hy
    simp only[va3,va0,Bool.and_eq_false_iff,beq_eq_false_iff_ne,ne_eq,vaP]at this
    rcases this with(hx|hx)|hx
    ·exact absurd e1 hx
    ·exact absurd e2 hx
    ·exact hx
  ·exact h.elim
 ·exact h.elim
def Po(P:Program)(GE:List (Nat×List PVal))(f:Operand)(args:List Operand)(c:GC)(d:Nat)(st:aB)(K:List PVal->List aA->List ((Nat×Nat)×TypeId)->Prop):Prop:=
 lT GE st.tmps f λvf=>LM GE st.tmps args λvs=>match vf with
  |.func (.func g) [] []=>match decide (c.ρ=List.range' st.boxes.length c.Hc'.length)with
   |true=>CN P GE g vs c.rc c.ro c.Hc'/\gZ 0 vs/\pX c.ρ c.Bs' c.Hc'/\tQ c.ρ c.r c.rc/\eu st.tmps d c.r λtm=>ba ((c.ro.map λx=>((d,x.1),x.2))++bu d st.own) λow=>EZ st.boxes c.Bs' λH=>K tm H ow
   |false=>False
  |_=>False
theorem M4{P:Program}{GE:List (Nat×List PVal)}{o:Oper}{f:Operand}{args:Array Operand}{tys:Array TypeId}{c:GC}{d:Nat}{st:aB}{K:List It->aB->Prop}{sc:List It}(ho:o.op=.call {callee:=.value f,args,argTypes:=tys})(hd:o.dst=some d)(h1:d<st.tmps.length)
  (h:Po P GE f args.toList c d st λtm H ow=>K sc ⟨tm,H,ow⟩):Rk P GE o (λst'=>∃sc',K sc' st') st:=by
 unfold Po at h
 rw[bP,kz]at h
 split at h
 ·rename_i g hf
  split at h
  ·rename_i hc
   simp only[vao]at hc
   obtain⟨h2,h3,h4,h5,h6⟩:=h
   simp only[bk,aF,EZ]at h6
   obtain⟨k1,k2⟩:=Ar h4
   unfold Rk
   simp only[ho,hd]
   rw[hc]at h5 k2
   exact⟨g,c.rc,c.ro,c.Bs',c.Hc',c.r,hf,h2,h3,k1,k2,h5,h1,sc,h6⟩
  ·exact h.elim
 ·exact h.elim
def JO (P:Program) (GE:List (Nat×List PVal)) (A:List Nat) (o:Oper) (id:Nat) (sc:List It) (st:aB) (K:List It→aB→Prop):Prop :=
 match o.op,sc with
 |.build T parts,.b p L::sc'=>match o.dst with
  |some d=>M9 st.tmps.length d (vX GE st.tmps parts.toList λps=>dh P T ps=some p/\FJ P T ps L/\eu st.tmps d p λtm=>ba ((L.map λx=>((d,x.1),x.2))++bu d st.own) λow=>K sc' ⟨tm,st.boxes,ow⟩)
  |none=>False
 | .store T x (.tmp t),.y vs :: sc' => rv st.tmps t fun vt => match vt with
  | .agg l => match o.dst with
   | none => lT GE st.tmps x fun vx => match vx with
    | .bptr i off => ba (Is t st.own) fun L => l = vs∧kw st.boxes i fun B => match B with
     | .cells cs own => match nO (L.map (·.1)) && decide (vs.length = P.cellsOf T) && (P.info? T).isSome && decide (off + vs.length ≤ cs.length) && vs.all PVal.one with
      | true => ba (cs.take off ++ vs ++ cs.drop (off + vs.length)) fun cs' => ba ((L.map fun y => (off + y.1,y.2)).reverse ++ own.filter fun y => y.1 < off || off + vs.length ≤ y.1) fun own' =>
        eu st.boxes i (.cells cs' own') λH=>ba (st.own.filter λx=>!L.any λy=>x.1==(t,y.1)) λow=>K sc' ⟨st.tmps,H,ow⟩
      |false=>False
     |_=>False
    |_=>False
   |some _=>False
  |_=>La P GE A o id sc st K
 | .load T x,.z l :: sc' => match P.underlying T with
  | some (.struct _) => match o.dst with
   | some d => M9 st.tmps.length d (lT GE st.tmps x fun vx => match vx with
    | .bptr i off => kw st.boxes i fun B => match B with
     | .cells cs own => aY P T (cs.drop off) = some (.agg l)∧ba (TQ off (P.cellsOf T) own) fun L => match nO (L.map (·.1)) with
      | true => eu st.tmps d (.agg l) fun tm => ba (own.filter fun x => !L.any fun y => x.1 == off + y.1) fun own' => eu st.boxes i (.cells cs own') fun H =>
        ba ((L.map λy=>((d,y.1),y.2)).reverse++bu d st.own) λow=>K sc' ⟨tm,H,ow⟩
      |false=>False
     |_=>False
    |_=>False)
   |none=>False
  |_=>La P GE A o id sc st K
 |.box _ x,.e vs::sc'=>match o.dst with
  |some d=>M9 st.tmps.length d (lT GE st.tmps x λvx=>cj vx=some vs/\eu st.tmps d (.eptr vs) λtm=>ba (bu d st.own) λow=>K sc' ⟨tm,st.boxes,ow⟩)
  |none=>False
 |.call {callee:=.value f,args,..},.cg c::sc'=>match o.dst with
  |some d=>M9 st.tmps.length d (gN P GE f args.toList c st λH=>eu st.tmps d c.r λtm=>ba ((c.ro.map λx=>((d,x.1),x.2))++bu d (st.own.filter λz=>!c.oa.any λx=>z.1==(x.t,x.k))) λow=>K sc' ⟨tm,H,ow⟩)
  |none=>False
 |.call {callee:=.value f,args,..},.cn c::sc'=>match o.dst with
  |some d=>M9 st.tmps.length d (Po P GE f args.toList c d st λtm H ow=>K sc' ⟨tm,H,ow⟩)
  |none=>False
 | .call { callee := .builtin .append,args:=⟨[.tmp t,y]⟩,argTypes:=⟨[T,T']⟩ },.ar i e n cs :: sc' => match o.dst with
  | some d => M9 st.tmps.length d (rv st.tmps t fun ve => lT GE st.tmps y fun vn => match ve,vn with
   | .slice [],.slice ns => match decide (T = T') && decide (((t,0),e) ∈ st.own) && decide (i = st.boxes.length) with
    | true => P.underlying T = some (.slice e)∧(∃ p,hO P T [] ns = some p)∧(n = ns.length∧cs = ns.flatten) ∧
      eu st.tmps d (.bsl i 0 n) λtm=>ba (bu d (st.own.filter λx=>x.1 !=(t,0))) λow=>EZ st.boxes [.cells cs []] λH=>K sc' ⟨tm,H,ow⟩
    |false=>False
   |_,_=>False)
  |none=>False
 | .call { callee := .value f,args:=⟨[x]⟩,.. },.ar i e n cs :: sc' => match o.dst with
  | some d => M9 st.tmps.length d (lT GE st.tmps f fun vf => lT GE st.tmps x fun vn => match vf,vn with
   | .func (.func g) [] [],.slice ns => match decide (i = st.boxes.length) with
    | true => qd P g e∧(0 < P.cellsOf e∧(∀ x ∈ ns,x.length = P.cellsOf e∧∀ q ∈ x,q.one = true)∧ns.length ≤ bo)∧(n = ns.length∧cs = ns.flatten) ∧
      eu st.tmps d (.bsl i 0 n) λtm=>ba (bu d st.own) λow=>EZ st.boxes [.cells cs []] λH=>K sc' ⟨tm,H,ow⟩
    |false=>False
   |_,_=>False)
  |none=>False
 | .makeSlice T l c,.ar i e n cs :: sc' => match o.dst with
  | some d => M9 st.tmps.length d (lT GE st.tmps l fun vl => lT GE st.tmps c fun vc => match vl,vc,eD P e with
   | .int _ x,.int _ y,some zs => match decide (zs.length = P.cellsOf e) && decide (0 < zs.length) && zs.all PVal.one && decide (P.bytesOf e ≤ 65536) && decide (i = st.boxes.length) with
    | true => (P.underlying T = some (.slice e)∧(x = (n:Int)∧y = (n:Int)∧n ≤ bo)∧cs = (List.replicate n zs).flatten) ∧
      eu st.tmps d (.bsl i 0 n) λtm=>ba (bu d st.own) λow=>EZ st.boxes [.cells cs []] λH=>K sc' ⟨tm,H,ow⟩
    |false=>False
   |_,_,_=>False)
  |none=>False
 | .store T x (.const v),.ar _ e _ _ :: sc' => match o.dst,kR v with
  | none,true => lT GE st.tmps x fun vx => lT GE st.tmps (.const v) fun vy => match vx,cj vy with
   | .bptr i off,some vs => kw st.boxes i fun B => match B with
    |.cells cs own=>match decide (vs.length=P.cellsOf T)&&(P.info? T).isSome&&decide (off+vs.length<=cs.length)&&vs.all PVal.one with
     |true=>ba (cs.take off++vs++cs.drop (off+vs.length)) λcs'=>ba ((off,e)::own.filter λy=>y.1<off||off+vs.length<=y.1) λown'=>eu st.boxes i (.cells cs' own') λH=>K sc' ⟨st.tmps,H,st.own⟩
     |false=>False
    |_=>False
   |_,_=>False
  |_,_=>False
 | .box T (.tmp t),.y vs :: sc' => match o.dst with
  | some d => M9 st.tmps.length d (rv st.tmps t fun vt => match vt with
   |.agg l=>ba (Is t st.own) λL=>l=vs/\(match nO (L.map (·.1))&&Fx vs with
    |true=>ba (vs.map (nilTo id T)) λcs=>eu st.tmps d (.bptr id 0) λtm=>ba ((L.map λy=>(0+y.1,y.2)).reverse++[]) λown=>eu st.boxes id (.cells cs own) λH=>ba (bu d (st.own.filter λx=>!L.any λy=>x.1==(t,y.1))) λow=>K sc' ⟨tm,H,ow⟩
    |false=>False)
   |_=>False)
  |none=>False
 |.alloc T,.y vs::sc'=>match o.dst with
  |some d=>M9 st.tmps.length d (eD P T=some vs/\ba (IB P T) λown=>ba (vs.map (nilTo id T)) λcs=>eu st.tmps d (.bptr id 0) λtm=>eu st.boxes id (.cells cs own) λH=>ba (bu d st.own) λow=>K sc' ⟨tm,H,ow⟩)
  |none=>False
 | .call { callee := .builtin .append,args:=⟨[.tmp t,y]⟩,argTypes:=⟨[T,T']⟩ },.z ps :: sc' => match o.dst,ps with
  | some d,[p] => M9 st.tmps.length d (rv st.tmps t fun ve => lT GE st.tmps y fun vn => match ve,vn,P.underlying T with
   |.slice es,.str s,some (.slice e)=>match decide (((t,0),e)∈st.own)with
    |true=>FC P T T' es s=some p/\eu st.tmps d p λtm=>ba (((d,0),e)::bu d (st.own.filter λx=>x.1 !=(t,0))) λow=>K sc' ⟨tm,st.boxes,ow⟩
    |false=>False
   |_,_,_=>False)
  |_,_=>False
 |_,_=>La P GE A o id sc st K
def Id(P:Program)(GE:List (Nat×List PVal))(A:List Nat)(ops:Array Oper)(K:List It->aB->Prop):List Oper->Nat->Nat->List It->aB->Prop
 |[],_,_,sc,st=>K sc st
 | o :: rest,pos,id,sc,st =>
  let step (sc:List It) (st:aB):Prop:=JO P GE A o id sc st λsc' st'=>Id P GE A ops K rest (pos+1) (id+if aE o.op then 1 else 0) sc' st'
  match o.guard with
  |none=>step sc st
  |some (j,want)=>JM ops j want pos sc st λb sc' st'=>match b with
   |true=>step sc' st'
   |false=>Np st' o.dst (.val undef) [] st'.boxes λst''=>Id P GE A ops K rest (pos+1) (id+if aE o.op then 1 else 0) sc' st''
section
variable{P:Program}{GE:List (Nat×List PVal)}{A:List Nat}{ops:Array Oper}
theorem Pm{f:Operand}{args:List Operand}{tmps:List PVal}{H:List aA}{sc:List It}{K:PVal->List (Nat×TypeId)->List It->Prop}(h:Sn P GE f args tmps sc K):DX P GE (opv GE tmps f) (args.map (opv GE tmps)) H λr ro H'=>H'=H/\∃sc',K r ro sc':=by
 unfold Sn at h
 rw[bP]at h
 split at h
 ·rename_i g first cap hf
  rw[kz]at h
  split at h
  ·rename_i r ro sc'
   rw[hf]
   exact .inl ⟨h.1.1,r,ro,h.1.2,rfl,sc',h.2⟩
  ·exact h.elim
 ·exact h.elim
theorem BT{op:Op}{id:Nat}{v:Operand->PVal}{H H':List aA}{p:PVal}{K:PVal->List (Nat×TypeId)->List aA->Prop}(hn:∀f args tys,op≠.call {callee:=.value f,args,argTypes:=tys})
  (h:oT P op id v H=some (p,H')) (hk:K p [] H'):Nj P GE op id v H K:=by
 unfold Nj
 split
 ·rename_i f args tys;exact absurd rfl (hn _ _ _)
 ·rw[h];exact hk
theorem kg{o:Oper}{id:Nat}{sc:List It}{st:aB}{K:List It->aB->Prop}(h:uD P GE o id sc st K):lL o st.tmps.length=true/\Nj P GE o.op id (opv GE st.tmps) st.boxes λp ro H=>(λst'=>∃sc',K sc' st') (vY st o.dst p ro H):=by
 unfold uD at h
 split at h
 ·exact h.elim
 ·rename_i hc
  refine⟨hc,?_⟩
  split at h
  ·rename_i f args tys ho
   have:=Pm (H:=st.boxes) h
   unfold Nj
   simp only[ho]
   unfold DX at this ⊢
   split at this
   ·rcases this with⟨k1,r,ro,k2,_,sc',k3⟩|⟨ρ,argsC,Hc,rc,ro,Hc',H',r,k1,k2,k3,k4,k5,k6,k7,k8,k9,rfl,sc',k10⟩
    ·rw[rG]at k3;exact .inl ⟨k1,r,ro,k2,sc',k3⟩
    ·rw[rG]at k10;exact .inr ⟨ρ,argsC,Hc,rc,ro,Hc',_,r,k1,k2,k3,k4,k5,k6,k7,k8,k9,sc',k10⟩
   ·exact this.elim
  ·rename_i t ho
   split at h
   ·rename_i zs sc'
    obtain⟨h1,h2⟩:=h
    simp only[aF,bk,rG]at h2
    rw[ho]
    exact BT (by simp) (by simp only[oT,h1,vak]) ⟨sc',h2⟩
   ·exact h.elim
  ·rename_i t x ho
   rw[bP]at h
   split at h
   ·rename_i cs sc'
    obtain⟨h1,h1n,h2⟩:=h
    simp only[bk,rG]at h2
    rw[ho]
    exact BT (by simp) (by simp only[oT,LS h1 h1n,vak]) ⟨sc',h2⟩
   ·exact h.elim
  ·rename_i t ho
   simp only[bk,rG]at h
   rw[ho]
   exact BT (by simp) (by simp only[oT]) ⟨_,h⟩
  ·rename_i n1 n2 n3 n4
   obtain⟨p,H',sc',k1,k2,_⟩:=If (id:=id) h
   rw[rG]at k2
   exact BT (λf args tys e=>n1 f args tys e) k1 ⟨sc',k2⟩
theorem yb{o:Oper}{id:Nat}{sc:List It}{st:aB}{K:List It->aB->Prop}(h:La P GE A o id sc st K):IA P GE A o id (λst'=>∃sc',K sc' st') st:=by
 unfold La at h
 unfold IA
 split at h
 case h_1 t d ho hd=>
  obtain⟨h1,h2⟩:=jK h
  simp only[fU,bk,aF]at h2
  simp only[ho,hd]
  exact⟨h1,_,h2⟩
 case h_2 t d ho hd=>
  simp only[ho,hd]
  split at h
  ·rename_i hA
   obtain⟨h1,h2⟩:=jK h
   simp only[fU,bk,aF]at h2
   rw[vah (by simpa using hA)]
   exact⟨h1,_,h2⟩
  ·rename_i hA
   rw[van (by simpa using hA)]
   have:=kg h
   rw[ho,hd]at this
   exact this
 case h_3 v d ho hd=>
  simp only[ho,hd]
  split at h
  ·rename_i e he
   obtain⟨h1,h2⟩:=jK h
   simp only[bk,aF]at h2
   simp only[he]
   exact⟨h1,_,h2⟩
  ·rename_i he
   simp only[he]
   have:=kg h
   rw[ho,hd]at this
   exact this
 case h_4 v d ho hd=>
  simp only[ho,hd]
  split at h
  ·rename_i e he
   obtain⟨h1,h2⟩:=jK h
   simp only[bk,aF]at h2
   simp only[he]
   exact⟨h1,_,h2⟩
  ·rename_i he
   simp only[he]
   have:=kg h
   rw[ho,hd]at this
   exact this
 case h_5 t i d ho hd=>
  obtain⟨h1,h2⟩:=jK h
  rw[fU]at h2
  obtain⟨p,h3,h4⟩:=rx h2
  simp only[bk,aF]at h4
  simp only[ho,hd,h3]
  exact⟨h1,_,h4⟩
 case h_6 T len parts d ho hd=>
  obtain⟨h1,h2⟩:=jK h
  rw[nb]at h2
  split at h2
  ·rename_i p sc' e hu
   obtain⟨h3,h4⟩:=h2
   simp only[bk,aF]at h4
   simp only[ho,hd,h3,hu]
   exact⟨h1,_,h4⟩
  ·exact h2.elim
 case h_7 t y T T' d ho hd=>
  obtain⟨h1,h2⟩:=jK h
  rw[fU,bP]at h2
  split at h2
  ·rename_i es ns p sc' e he hn hu
   split at h2
   ·rename_i hc
    simp only[vad,vao]at hc
    obtain⟨h3,h4⟩:=h2
    simp only[bk,aF]at h4
    simp only[ho,hd,hu,he,hn,h3]
    exact⟨hc.1,h1,hc.2,_,h4⟩
   ·exact h2.elim
  ·exact h2.elim
 case h_8 T x d ho hd=>
  simp only[ho,hd]
  split at h
  ·rename_i hA
   obtain⟨h1,h2⟩:=jK h
   rw[bP]at h2
   rw[vah (by simpa using hA)]
   split at h2
   ·rename_i i off e hx hu
    obtain⟨B,hB,h2⟩:=dJ h2
    split at h2
    ·rename_i cs own
     split at h2
     ·rename_i hc
      simp only[vad,vao]at hc
      simp only[fU,bk,aF]at h2
      have hget:cs[off]? =some (cs.getD off .undef):=by
       rw[vaq,vab hc.2];rfl
      simp only[hx,hu,hB,hget]
      exact⟨h1,hc.1,_,h2⟩
     ·exact h2.elim
    ·exact h2.elim
   ·exact h2.elim
  ·rename_i hA
   rw[van (by simpa using hA)]
   have:=kg h
   rw[ho,hd]at this
   exact this
 case h_9 T x t ho=>
  simp only[ho]
  split at h
  ·rename_i y e hf
   rw[bP,fU]at h
   simp only[hf]
   unfold K9 at h
   split at h
   ·rename_i i off hx
    split at h
    ·rename_i H hst
     obtain⟨B,hB,h⟩:=dJ h
     split at h
     ·rename_i cs own
      split at h
      ·rename_i hone
       simp only[bk,aF,rG]at h
       simp only[hx,hst,hB,hone]
       exact⟨_,h⟩
      ·exact h.elim
     ·exact h.elim
    ·exact h.elim
   ·exact h.elim
  ·rename_i hf
   simp only[hf]
   have:=kg h
   rw[ho]at this
   exact this
 case h_10=>
  have:=kg h
  split
  all_goals first
   |exact this
   |(exfalso;simp_all;done)
   |(exfalso;simp_all;rename_i hx h1 h2;exact hx _ _ _ _ rfl rfl rfl rfl)
   |(exfalso;simp_all;rename_i hx h1 h2;exact hx _ _ _ _ _ rfl rfl rfl rfl rfl)
   |(exfalso;simp_all;rename_i hx h1 h2;exact hx _ _ _ rfl rfl rfl)
theorem CQ{j:Nat}{want:Bool}{pos:Nat}{sc:List It}{st:aB}{go:Bool->List It->aB->Prop}(h:JM ops j want pos sc st go):∃x,tj ops st.tmps j=some x/\((x=some want/\∃sc',go true sc' st)\/(x≠some want/\∃sc',go false sc' st)):=by
 unfold JM at h
 split at h
 ·exact h.elim
 ·rename_i t ht
  rw[fU]at h
  have hget:∀{p},st.tmps.getD t .undef=p->p≠.undef->st.tmps[t]? =some p:=by
   intro p hp hne
   rw[vaq]at hp
   cases hx:st.tmps[t]? with
   |none=>rw[hx]at hp;exact absurd hp.symm hne
   |some q=>rw[hx]at hp;exact vbd some hp
  have hfin:∀(x:Bool) sc',go (x==want) sc' st->(some x=some want/\∃sc',go true sc' st)\/(some x≠some want/\∃sc',go false sc' st):=by
   intro x sc' hg
   cases x<;>cases want<;>simp at hg ⊢<;>exact⟨sc',hg⟩
  split at h
  ·rename_i x hp
   have hx:=hget hp (by simp)
   have hg:tj ops st.tmps j=some (some x):=by unfold tj;simp only[ht,hx]
   refine⟨_,hg,?_⟩
   split at h
   ·rename_i pos' b sc'
    split at h
    ·obtain⟨rfl,h⟩:=h
     rw[bk,FX hx]at h
     exact hfin x sc' h
    ·exact hfin x _ h
   ·exact hfin x _ h
  ·rename_i v hp
   have hx:=hget hp (by simp)
   split at h
   ·exact h.elim
   ·rename_i hb
    refine⟨none,?_,.inr ⟨by simp,_,h⟩⟩
    unfold tj
    simp only[ht,hx]
    cases v<;>simp[qeF]at hb<;>rfl
  ·exact h.elim
theorem M7{o:Oper}{id:Nat}{sc:List It}{st:aB}{K:List It->aB->Prop}(h:JO P GE A o id sc st K):AP P GE A o id (λst'=>∃sc',K sc' st') st:=by
 unfold JO at h
 split at h
 ·rename_i T parts p L sc' ho
  split at h
  ·rename_i d hd
   obtain⟨h1,h2⟩:=jK h
   rw[nb]at h2
   obtain⟨h3,h4,h5⟩:=h2
   simp only[bk,aF]at h5
   refine .inr (.inl ?_)
   unfold L4
   simp only[ho,hd]
   exact⟨p,L,h3,h4,h1,sc',h5⟩
  ·exact h.elim
 ·rename_i T x t vs sc' ho
  rw[fU]at h
  split at h
  ·rename_i l hl
   split at h
   ·rename_i hd
    rw[bP]at h
    split at h
    ·rename_i i off hx
     rw[aF]at h
     obtain⟨rfl,h⟩:=h
     obtain⟨B,hB,h⟩:=dJ h
     split at h
     ·rename_i cs own
      split at h
      ·rename_i hc
       simp only[bk,aF]at h
       simp only[vad,vao]at hc
       obtain⟨⟨⟨⟨c1,c2⟩,c3⟩,c4⟩,c5⟩:=hc
       refine .inr (.inl ?_)
       unfold L4
       simp only[ho,hd]
       have hi:=aq hB
       refine⟨i,off,st.boxes.set i (.cells (cs.take off++l++cs.drop (off+l.length)) (own.filter λy=>y.1<off||off+l.length<=y.1)),_,_,Is t st.own,l,hx,hl,?_,vae hi,λy hy=>BP hy,kj c1,sc',?_⟩
       ·simp only[di,cj,hB]
        rw[vah ⟨c2,c3,c4,c5⟩]
       ·rw[vbR];exact h
      ·exact h.elim
     ·exact h.elim
    ·exact h.elim
   ·exact h.elim
  ·exact .inl (yb h)
 ·rename_i T x l sc' ho
  split at h
  ·rename_i fs hT
   split at h
   ·rename_i d hd
    obtain⟨h1,h⟩:=jK h
    rw[bP]at h
    split at h
    ·rename_i i off hx
     obtain⟨B,hB,h⟩:=dJ h
     split at h
     ·rename_i cs own
      obtain⟨h2,h⟩:=h
      rw[aF]at h
      split at h
      ·rename_i hn
       simp only[bk,aF]at h
       refine .inr (.inl ?_)
       unfold L4
       simp only[ho,hd]
       have hlen:l.length=P.cellsOf T:=by
        have hp:=h2
        unfold aY at hp
        rw[hT]at hp
        simp only at hp
        split at hp
        ·rename_i hh;cases hp;rw[vaQ];omega
        ·cases hp
       exact⟨i,off,cs,own,_,l,⟨fs,hT⟩,hx,hB,h2,λy hy=>(BO hy).1,kj hn,λy hy=>by rw[hlen];exact(BO hy).2,h1,sc',h⟩
      ·exact h.elim
     ·exact h.elim
    ·exact h.elim
   ·exact h.elim
  ·exact .inl (yb h)
 ·rename_i T x vs sc' ho
  split at h
  ·rename_i d hd
   obtain⟨h1,h⟩:=jK h
   rw[bP]at h
   obtain⟨h2,h⟩:=h
   simp only[bk,aF]at h
   refine .inr (.inl ?_)
   unfold L4
   simp only[ho,hd]
   exact⟨vs,h2,h1,sc',h⟩
  ·exact h.elim
 ·rename_i f args tys c sc' ho
  split at h
  ·rename_i d hd
   obtain⟨h1,h⟩:=jK h
   obtain⟨H',h2,h3⟩:=pJ h
   simp only[bk,aF]at h3
   refine .inr (.inl ?_)
   unfold L4
   simp only[ho,hd]
   exact⟨c.r,c.ro,H',c.oa,h2,h1,sc',h3⟩
  ·exact h.elim
 ·rename_i f args tys c sc' ho
  split at h
  ·rename_i d hd
   obtain⟨h1,h⟩:=jK h
   refine .inr (.inr (.inr (.inl ?_)))
   exact M4 ho hd h1 h
  ·exact h.elim
 ·rename_i t y T T' i e n cs sc' ho
  split at h
  ·rename_i d hd
   have hh:=jK h
   clear h
   obtain⟨h1,h⟩:=hh
   rw[fU,bP]at h
   split at h
   ·rename_i ns he hn
    split at h
    ·rename_i hc
     simp only[vad,vao]at hc
     obtain⟨⟨rfl,c2⟩,rfl⟩:=hc
     obtain⟨h2,⟨p,h3⟩,⟨rfl,rfl⟩,h4⟩:=h
     simp only[bk,aF,EZ,aF]at h4
     refine .inr (.inr (.inl ?_))
     unfold Rl
     simp only[ho,hd]
     exact⟨e,ns,p,vzz,h2,he,hn,h3,c2,h1,sc',h4⟩
    ·exact h.elim
   ·exact h.elim
  ·exact h.elim
 ·rename_i f x tys i e n cs sc' ho
  split at h
  ·rename_i d hd
   have hh:=jK h
   clear h
   obtain⟨h1,h⟩:=hh
   rw[bP,bP]at h
   split at h
   ·rename_i g ns hg hn
    split at h
    ·rename_i hc
     simp only[vao]at hc
     subst hc
     obtain⟨h2,⟨h3,h4,h5⟩,⟨rfl,rfl⟩,h6⟩:=h
     simp only[bk,aF,EZ,aF]at h6
     refine .inr (.inr (.inl ?_))
     unfold Rl
     simp only[ho,hd]
     exact⟨g,e,ns,hg,h2,hn,h3,h4,h5,h1,sc',h6⟩
    ·exact h.elim
   ·exact h.elim
  ·exact h.elim
 ·rename_i T l c i e n cs sc' ho
  split at h
  ·rename_i d hd
   have hh:=jK h
   clear h
   obtain⟨h1,h⟩:=hh
   rw[bP,bP]at h
   split at h
   ·rename_i k x k' y zs hl hc hz
    split at h
    ·rename_i hq
     simp only[vad,vao,vas]at hq
     obtain⟨⟨⟨⟨c1,c2⟩,c3⟩,c4⟩,rfl⟩:=hq
     obtain⟨⟨h2,⟨rfl,rfl,h3⟩,rfl⟩,h4⟩:=h
     simp only[bk,aF,EZ,aF]at h4
     refine .inr (.inr (.inl ?_))
     unfold Rl
     simp only[ho,hd]
     exact⟨e,k,k',n,zs,h2,hl,hc,hz,c1,c2,c3,c4,h3,h1,sc',h4⟩
    ·exact h.elim
   ·exact h.elim
  ·exact h.elim
 ·rename_i T x v i0 e n0 cs0 sc' ho
  split at h
  ·rename_i hd hv
   have hv':v=.slice none 0 0:=by
    unfold kR at hv
    split at hv
    ·rfl
    ·cases hv
   subst hv'
   rw[bP,bP]at h
   split at h
   ·rename_i i off vs hx hpc
    obtain⟨B,hB,h⟩:=dJ h
    split at h
    ·rename_i cs own
     split at h
     ·rename_i hc
      simp only[bk,aF]at h
      simp only[vad,vao]at hc
      obtain⟨⟨⟨c2,c3⟩,c4⟩,c5⟩:=hc
      refine .inr (.inr (.inl ?_))
      unfold Rl
      simp only[ho,hd]
      have hi:=aq hB
      refine⟨i,off,e,st.boxes.set i (.cells (cs.take off++vs++cs.drop (off+vs.length)) (own.filter λy=>y.1<off||off+vs.length<=y.1)),_,_,vzz,hx,?_,vae hi,sc',?_⟩
      ·simp only[di,hpc,hB]
       rw[vah ⟨c2,c3,c4,c5⟩]
      ·rw[vbR];exact h
     ·exact h.elim
    ·exact h.elim
   ·exact h.elim
  ·exact h.elim
 ·rename_i T t vs sc' ho
  split at h
  ·rename_i d hd
   obtain⟨h1,h⟩:=jK h
   rw[fU]at h
   split at h
   ·rename_i l hl
    rw[aF]at h
    obtain⟨rfl,h⟩:=h
    split at h
    ·rename_i hn
     simp only[bk,aF]at h
     refine .inr (.inr (.inr (.inr ?_)))
     unfold YG
     simp only[ho,hd]
     rw[vad]at hn
     exact⟨l,Is t st.own,hl,hn.2,λy hy=>BP hy,kj hn.1,h1,sc',h⟩
    ·exact h.elim
   ·exact h.elim
  ·exact h.elim
 ·rename_i T vs sc' ho
  split at h
  ·rename_i d hd
   obtain⟨h1,h2,h⟩:=jK h
   simp only[bk,aF]at h
   refine .inr (.inr (.inr (.inr ?_)))
   unfold YG
   simp only[ho,hd]
   exact⟨vs,h2,h1,sc',h⟩
  ·exact h.elim
 ·rename_i t y T T' ps sc' ho
  split at h
  ·rename_i d p hd
   have hh:=jK h
   clear h
   obtain⟨h1,h⟩:=hh
   rw[fU,bP]at h
   split at h
   ·rename_i es s e he hn hT
    split at h
    ·rename_i hc
     simp only[vao]at hc
     obtain⟨h2,h3⟩:=h
     simp only[bk,aF]at h3
     refine .inr (.inr (.inr (.inr ?_)))
     unfold YG
     simp only[ho,hd]
     exact⟨es,s,e,p,he,hn,hT,hc,h2,h1,sc',h3⟩
    ·exact h.elim
   ·exact h.elim
  ·exact h.elim
 ·exact .inl (yb h)
theorem p8{o:Oper}{id:Nat}{K K':aB->Prop}{st:aB}(hk:∀st,K st->K' st)(h:AP P GE A o id K st):AP P GE A o id K' st:=by
 rcases h with h|h|h|h|h
 ·exact .inl (SN hk h)
 rotate_left 2
 ·exact .inr (.inr (.inr (.inl (UY hk h))))
 ·exact .inr (.inr (.inr (.inr (W4 hk h))))
 rotate_left
 ·refine .inr (.inr (.inl ?_))
  unfold Rl at *
  split at h
  ·obtain⟨e,ns,p,h1,h2,h3,h4,h5,h6,h7,h8⟩:=h;exact⟨e,ns,p,h1,h2,h3,h4,h5,h6,h7,hk _ h8⟩
  ·obtain⟨g,e,ns,h1,h2,h3,h4,h5,h6,h7,h8⟩:=h;exact⟨g,e,ns,h1,h2,h3,h4,h5,h6,h7,hk _ h8⟩
  ·obtain⟨e,k,k',n,zs,h1,h2,h3,h4,h5,h6,h7,h8,h9,h10,h11⟩:=h;exact⟨e,k,k',n,zs,h1,h2,h3,h4,h5,h6,h7,h8,h9,h10,hk _ h11⟩
  ·obtain⟨i,off,e,H,cs,own,h1,h2,h3,h4,h5⟩:=h;exact⟨i,off,e,H,cs,own,h1,h2,h3,h4,hk _ h5⟩
  ·exact h
 ·refine .inr (.inl ?_)
  unfold L4 at *
  split at h
  ·obtain⟨p,L,h1,h2,h3,h4⟩:=h;exact⟨p,L,h1,h2,h3,hk _ h4⟩
  ·obtain⟨i,off,H,cs,own,L,l,h1,h2,h3,h4,h5,h6,h7⟩:=h;exact⟨i,off,H,cs,own,L,l,h1,h2,h3,h4,h5,h6,hk _ h7⟩
  ·obtain⟨i,off,cs,own,L,l,h0,h1,h2,h3,h4,h5,h6,h7,h8⟩:=h;exact⟨i,off,cs,own,L,l,h0,h1,h2,h3,h4,h5,h6,h7,hk _ h8⟩
  ·obtain⟨vs,h1,h2,h3⟩:=h;exact⟨vs,h1,h2,hk _ h3⟩
  ·obtain⟨r,ro,H',oa,h1,h2,h3⟩:=h;exact⟨r,ro,H',oa,h1,h2,hk _ h3⟩
  ·exact h
theorem sL{K:List It->aB->Prop}:∀(rest:List Oper) (pos id:Nat) (sc:List It) (st:aB),Id P GE A ops K rest pos id sc st->cU P GE A ops (λst=>∃sc,K sc st) rest id st
 |[],_,_,sc,st,h=>⟨sc,h⟩
 | o :: rest,pos,id,sc,st,h => by
  simp only[Id]at h
  have step:∀sc st,JO P GE A o id sc st (λsc' st'=>Id P GE A ops K rest (pos+1) (id+if aE o.op then 1 else 0) sc' st')->AP P GE A o id (cU P GE A ops (λst=>∃sc,K sc st) rest (id+if aE o.op then 1 else 0)) st:=
   λsc st hs=>p8 (λst' hx=>by obtain⟨sc',hx⟩:=hx;exact sL rest _ _ sc' st' hx) (M7 hs)
  unfold cU
  split at h
  ·rename_i hg;simp only[hg];exact step _ _ h
  ·rename_i j want hg
   obtain⟨x,hx,hc⟩:=CQ h
   simp only[hg,hx]
   rcases hc with⟨rfl,sc',hc⟩|⟨hne,sc',hc⟩
   ·exact⟨λ_=>step _ _ hc,λhn=>absurd rfl hn⟩
   ·refine⟨λhe=>absurd he hne,λ_=>?_⟩
    simp only[rG]at hc
    exact sL rest _ _ sc' _ hc
end
end Go.Proofs.YtkdahfeiedaahaaGreatDoor
