/- PROVED: a part of the proof. Conditions: none. -/
import Derived.Test.YtjddnhkahpfhdaaGreatDoorPkO4
set_option linter.unusedSimpArgs false
set_option linter.unusedVariables false
noncomputable section
namespace Go.Proofs.YtjddnhkahpfhdaaGreatDoor
open Go
structure GC where
 ρ:List Nat
 argsC:List PVal
 oa:List OA
 Bs:List aq
 Hc:List aq
 Bs':List aq
 Hc':List aq
 r:PVal
 rc:PVal
 ro:List (Nat×TypeId)
inductive It where
 |cg (c:GC)
 |cn (c:GC)
 |ar (i:Nat) (e:TypeId) (n:Nat) (cs:List PVal)
 |fz (i:Nat) (es:List (List PVal)) (lv rk:List Nat)
 |g (j:Nat) (b:Bool)
 |k
 |s
 |v (p:PVal)
 |x (cs:List PVal)
 |w (i:Nat) (B:aq)
 |c (r:PVal) (ro:List (Nat×TypeId))
 |dr (an:List Nat)
 |dx (an:List Nat) (X:List aq) (br:List (Nat×Nat)) (rw:List Nat)
 |pa (n:Nat)
 |pc (st0:ax) (e:Exit) (st1:ax)
 |b (p:PVal) (L:List (Nat×TypeId))
 |y (vs:List PVal)
 |z (l:List PVal)
 |e (vs:List PVal)
 |sh (t k:Nat) (e:TypeId)
def mg:List PVal->Nat->(PVal->Prop)->Prop
 |[],_,k=>k .undef
 |p::_,0,k=>k p
 |_::l,n+1,k=>mg l n k
theorem eb:∀(l:List PVal) (n:Nat) (k:PVal->Prop),mg l n k=k (l.getD n .undef)
 |[],_,_=>by simp[mg]
 |_::_,0,_=>by simp[mg]
 |_::l,n+1,k=>by simp only[mg,eb l n k,List.getD_cons_succ]
def dt{α:Type}:List α->Nat->α->(List α->Prop)->Prop
 |[],_,_,k=>k []
 |_::l,0,v,k=>k (v::l)
 |x::l,n+1,v,k=>dt l n v λl'=>k (x::l')
theorem aU{α:Type}:∀(l:List α) (n:Nat) (v:α) (k:List α->Prop),dt l n v k=k (l.set n v)
 |[],_,_,_=>by simp[dt]
 |_::_,0,_,_=>by simp[dt]
 |x::l,n+1,v,k=>by simp only[dt,aU l n v,List.set_cons_succ]
def aN{α:Type}:List α->(List α->Prop)->Prop
 |[],k=>k []
 |x::l,k=>aN l λl'=>k (x::l')
def Bu(l:List aq)(r:List aq)(k:List aq->Prop):Prop:=aN (l++r) k
theorem ay{α:Type}:∀(l:List α) (k:List α->Prop),aN l k=k l
 |[],_=>rfl
 |x::l,k=>by simp only[aN,ay l]
def Qu:Value->(PVal->Prop)->Prop
 |.int a n,k=>k (.int a n)
 |.bool b,k=>k (.bool b)
 |.string s,k=>aN s.data.toList λl=>k (.str l)
 |v,k=>k (absV v)
theorem OY(v:Value)(k:PVal->Prop):Qu v k=k (absV v):=by
 unfold Qu
 split
 ·rfl
 ·rfl
 ·rw[ay];rfl
 ·rfl
def jq(GE:List (Nat×List PVal))(tmps:List PVal)(x:Operand)(k:PVal->Prop):Prop:=
 match x with
 |.tmp t=>mg tmps t k
 |.const v=>Qu v k
 |x=>k (opv GE tmps x)
theorem bo(GE:List (Nat×List PVal))(tmps:List PVal)(x:Operand)(k:PVal->Prop):jq GE tmps x k=k (opv GE tmps x):=by
 cases x with
 |tmp t=>exact eb _ _ _
 |const v=>exact OY _ _
 |global g=>rfl
 |func f=>rfl
def Di(GE:List (Nat×List PVal))(tmps:List PVal):List Operand->(List PVal->Prop)->Prop
 |[],k=>k []
 |x::l,k=>jq GE tmps x λp=>Di GE tmps l λps=>k (p::ps)
theorem il(GE:List (Nat×List PVal))(tmps:List PVal):∀(l:List Operand) (k:List PVal->Prop),Di GE tmps l k=k (l.map (opv GE tmps))
 |[],_=>rfl
 |x::l,k=>by simp only[Di,bo,il GE tmps l,vaG]
def pZ(GE:List (Nat×List PVal))(tmps:List PVal):List (Nat×Operand)->(List (Nat×PVal)->Prop)->Prop
 |[],k=>k []
 |x::l,k=>jq GE tmps x.2 λp=>pZ GE tmps l λps=>k ((x.1,p)::ps)
theorem jQ(GE:List (Nat×List PVal))(tmps:List PVal):∀(l:List (Nat×Operand)) (k:List (Nat×PVal)->Prop),pZ GE tmps l k=k (l.map λx=>(x.1,opv GE tmps x.2))
 |[],_=>rfl
 |x::l,k=>by simp only[pZ,bo,jQ GE tmps l,vaG]
def PK(GE:List (Nat×List PVal))(tmps:List PVal):Option Operand->(Option PVal->Prop)->Prop
 |none,k=>k none
 |some x,k=>jq GE tmps x λp=>k (some p)
theorem PL(GE:List (Nat×List PVal))(tmps:List PVal)(o:Option Operand)(k:Option PVal->Prop):PK GE tmps o k=k (o.map (opv GE tmps)):=by
 cases o with
 |none=>rfl
 |some x=>simp only[PK,bo,van]
def xx(sc:List It)(f:PVal->Prop)(K:PVal->List It->Prop):Prop:=
 match sc with
 |.v p::sc'=>f p/\K p sc'
 |_=>False
def EQ(o:Option PVal)(K:PVal->Prop):Prop:=
 match o with
 |some p=>K p
 |none=>False
theorem po{o:Option PVal}{K:PVal->Prop}(h:EQ o K):∃p,o=some p/\K p:=by
 unfold EQ at h
 split at h
 ·exact⟨_,rfl,h⟩
 ·exact h.elim
theorem iW{sc:List It}{f:PVal->Prop}{K:PVal->List It->Prop}(h:xx sc f K):∃p sc',f p/\K p sc':=by
 unfold xx at h
 split at h
 ·exact⟨_,_,h⟩
 ·exact h.elim
def CC(P:Program)(GE:List (Nat×List PVal))(g:FuncId)(args:List PVal)(r:PVal)(ro:List (Nat×TypeId)):Prop:=dR 0 args/\C P GE g args [] [] r ro []
def Du(P:Program)(t:TypeId)(es:List (PVal×PVal))(k:PVal)(ok:Bool):Option PVal:=
 match P.underlying t with
 | some (.map kt e) => match P.underlying kt with
  | some kd =>
   if jz kd k then
    match ue k es 0,DD P e with
    |some (some (_,v)),_=>some (if ok then .tuple [v,.bool true]else v)
    |some none,some z=>some (if ok then .tuple [z,.bool false]else z)
    |_,_=>none
   else none
  |_=>none
 |_=>none
theorem Gc{P:Program}{t:TypeId}{es:List (PVal×PVal)}{k p:PVal}{ok:Bool}{H:List aq}{i:Nat}(hB:H[i]? =some (.map es))(h:Du P t es k ok=some p):py P t (.mapr i) k ok H=some p:=by
 unfold Du at h
 unfold py
 split at h
 ·rename_i kt e hu
  split at h
  ·rename_i kd hk
   simp only[hu,hB,hk]
   exact h
  ·cases h
 ·cases h
def Gf(P:Program)(t:TypeId)(es:List (PVal×PVal))(k v:PVal):Option (List (PVal×PVal)):=
 match P.underlying t with
 | some (.map kt _) => match P.underlying kt with
  | some kd =>
   if jz kd k then
    match ue k es 0 with
    |some (some (j,_))=>some (es.set j (k,v))
    |some none=>some (es++[(k,v)])
    |none=>none
   else none
  |_=>none
 |_=>none
theorem Dy{P:Program}{t:TypeId}{es es':List (PVal×PVal)}{k v:PVal}{H:List aq}{i:Nat}(hB:H[i]? =some (.map es))(h:Gf P t es k v=some es'):eX P t (.mapr i) k v H=some (H.set i (.map es')):=by
 unfold Gf at h
 unfold eX
 split at h
 ·rename_i kt e hu
  split at h
  ·rename_i kd hk
   simp only[hu,hB,hk]
   split at h
   ·rename_i hkk
    rw[vaA hkk]
    split at h
    ·rename_i hf;cases h;simp[hf]
    ·rename_i hf;cases h;simp[hf]
    ·cases h
   ·cases h
  ·cases h
 ·cases h
def ik:List aq->Nat->(aq->Prop)->Prop
 |[],_,_=>False
 |B::_,0,k=>k B
 |_::l,n+1,k=>ik l n k
theorem cF:∀{l:List aq} {n:Nat} {k:aq->Prop},ik l n k->∃B,l[n]? =some B/\k B
 |[],_,_,h=>h.elim
 |B::_,0,_,h=>⟨B,rfl,h⟩
 |_::l,n+1,k,h=>by simp only[ik]at h;obtain⟨B,h1,h2⟩:=cF h;exact⟨B,by simpa using h1,h2⟩
def L3(op:BinOp)(x:PVal):Bool:=match op,x with
 |.quo,_=>true
 |.rem,_=>true
 |.add,.str _=>true
 |_,.agg _=>true
 |_,_=>false
def KW(P:Program)(GE:List (Nat×List PVal))(op:Op)(tmps:List PVal)(H:List aq)(sc:List It)(K:PVal->List aq->List It->Prop):Prop:=
 match op with
 |.move x=>jq GE tmps x λp=>K p H sc
 |.assign x=>jq GE tmps x λp=>K p H sc
 |.pick c x y=>jq GE tmps c λpc=>match pc with
  |.bool true=>jq GE tmps x λp=>K p H sc
  |.bool false=>jq GE tmps y λp=>K p H sc
  |_=>False
 |.binOp op T x y _=>jq GE tmps x λvx=>jq GE tmps y λvy=>match L3 op vx with
  |true=>xx sc (λp=>Dk P op T vx vy=some p) λp sc'=>K p H sc'
  |false=>EQ (Dk P op T vx vy) λp=>K p H sc
 |.unOp op _ x=>jq GE tmps x λvx=>EQ (Tl op vx) λp=>K p H sc
 |.convert s d x=>jq GE tmps x λvx=>xx sc (λp=>AU P s d vx=some p) λp sc'=>K p H sc'
 |.extract t i=>jq GE tmps t λvt=>EQ (nY vt i) λp=>K p H sc
 |.nilCheck x=>jq GE tmps x λvx=>match vx with
  |.eptr cs=>K (.eptr cs) H sc
  |.bptr i off=>K (.bptr i off) H sc
  |.func (.func f) first cap=>K (.func (.func f) first cap) H sc
  |_=>False
 |.makeFunc fn first cap=>Di GE tmps first.toList λf=>Di GE tmps cap.toList λc=>K (.func fn f c) H sc
 | .load t x => jq GE tmps x fun vx => match vx with
  |.eptr cs=>xx sc (λp=>aO P t cs=some p) λp sc'=>K p H sc'
  | .bptr i off => ik H i fun B => match B with
   |.cells cs _=>match sc with
    |.s::sc'=>EQ (aO P t (cs.drop off)) λp=>K p H sc'
    |.v p::sc'=>aO P t (cs.drop off)=some p/\K p H sc'
    |_=>False
   |_=>False
  |_=>False
 | .store t x y => jq GE tmps x fun vx => jq GE tmps y fun vy => match vx,sc with
  | .bptr i off,.s :: sc' => match bu vy with
   | some vs => ik H i fun B => match B with
    |.cells cs own=>match decide (vs.length=P.cellsOf t)&&(P.info? t).isSome&&decide (off+vs.length<=cs.length)&&vs.all PVal.one with
     |true=>aN (cs.take off++vs++cs.drop (off+vs.length)) λcs'=>dt H i (.cells cs' (own.filter λy=>y.1<off||off+vs.length<=y.1)) λH'=>K (.val undef) H' sc'
     |false=>False
    |_=>False
   |none=>False
  | .bptr i off,.x vs :: sc' => bu vy = some vs∧(ik H i fun B => match B with
    |.cells cs own=>match decide (vs.length=P.cellsOf t)&&(P.info? t).isSome&&decide (off+vs.length<=cs.length)&&vs.all PVal.one with
     |true=>aN (cs.take off++vs++cs.drop (off+vs.length)) λcs'=>dt H i (.cells cs' (own.filter λy=>y.1<off||off+vs.length<=y.1)) λH'=>K (.val undef) H' sc'
     |false=>False
    |_=>False)
  |.bptr i off,.w _ (.cells cs' own')::sc'=>ik H i λB=>(dh P t (.bptr 0 off) vy [B]=some [.cells cs' own'])/\dt H i (.cells cs' own') λH'=>K (.val undef) H' sc'
  |_,_=>False
 |.fieldAddr s x f=>jq GE tmps x λvx=>match vx with
  |.bptr i off=>EQ (aE P s (.bptr i off) f) λp=>K p H sc
  |vx=>xx sc (λp=>aE P s vx f=some p) λp sc'=>K p H sc'
 |.field t x f=>jq GE tmps x λvx=>xx sc (λp=>HB P t vx f=some p) λp sc'=>K p H sc'
 |.indexAddr t x i=>jq GE tmps x λvx=>jq GE tmps i λvi=>xx sc (λp=>jH P t vx vi=some p) λp sc'=>K p H sc'
 |.index t x i=>jq GE tmps x λvx=>jq GE tmps i λvi=>xx sc (λp=>HC P t vx vi=some p) λp sc'=>K p H sc'
 | .lookup t m k ok => jq GE tmps m fun vm => jq GE tmps k fun vk => match vm with
  |.mapr i=>ik H i λB=>match B with
   |.map es=>xx sc (λp=>Du P t es vk ok=some p) λp sc'=>K p H sc'
   |_=>False
  |_=>False
 | .mapUpdate t m k x => jq GE tmps m fun vm => jq GE tmps k fun vk => jq GE tmps x fun vx => match vm,sc with
  |.mapr i,.w _ (.map es')::sc'=>ik H i λB=>match B with
   |.map es=>Gf P t es vk vx=some es'/\dt H i (.map es') λH'=>K (.val undef) H' sc'
   |_=>False
  |_,_=>False
 |.slice t x lo hi none=>jq GE tmps x λvx=>PK GE tmps lo λvl=>PK GE tmps hi λvh=>xx sc (λp=>mi P t vx vl vh none=some p) λp sc'=>K p H sc'
 |.build t parts=>pZ GE tmps parts.toList λps=>xx sc (λp=>dy P t ps=some p) λp sc'=>K p H sc'
 |.buildSlice t len parts=>pZ GE tmps parts.toList λps=>xx sc (λp=>dP P t len ps=some p) λp sc'=>K p H sc'
 | .call { callee := .builtin .len,args:=⟨[x]⟩,argTypes:=⟨[t]⟩ } => jq GE tmps x fun vx => match vx with
  |.mapr i=>ik H i λB=>match B with
   |.map es=>xx sc (λp=>p=.int .i64 es.length/\(P.underlying t).any (λd=>match d with|.map _ _=>true|_=>false)=true) λp sc'=>K p H sc'
   |_=>False
  |vx=>xx sc (λp=>∀H,vG P t vx H=some p) λp sc'=>K p H sc'
 |.call {callee:=.builtin .max,args:=⟨x::r⟩,..}=>jq GE tmps x λvx=>Di GE tmps r λvr=>EQ (AV Lm vx vr) λp=>K p H sc
 |.call {callee:=.builtin .min,args:=⟨x::r⟩,..}=>jq GE tmps x λvx=>Di GE tmps r λvr=>EQ (AV Ln vx vr) λp=>K p H sc
 |_=>False
section
variable{P:Program}{GE:List (Nat×List PVal)}
theorem Mx{t:TypeId}{off i:Nat}{y:PVal}{H:List aq}{B:aq}{cs':List PVal}{own':List (Nat×TypeId)}(hB:H[i]? =some B)(h:dh P t (.bptr 0 off) y [B]=some [.cells cs' own']):dh P t (.bptr i off) y H=some (H.set i (.cells cs' own')):=by
 unfold dh at h ⊢
 split at h
 ·rename_i i' off' vs h1 h2
  cases h1
  simp only[h2]
  change (match(some B:Option aq)with|some (.cells cs own)=>_|_=>none)=_ at h
  rw[hB]
  split at h
  ·rename_i hb
   cases hb
   simp only
   split at h
   ·rename_i hc
    rw[vaA hc]
    simp only[List.set_cons_zero,vas,vbN,vbV]at h
    rw[h]
   ·cases h
  ·cases h
 ·cases h
theorem N7(t:TypeId)(id:Nat)(v:Operand->PVal)(x:Operand)(H:List aq):io P (.load t x) id v H=(km P t (v x) H).map λp=>(p,H):=rfl
theorem AM{op:Op}{id:Nat}{tmps:List PVal}{H:List aq}{sc:List It}{K:PVal->List aq->List It->Prop}(h:KW P GE op tmps H sc K):∃p H' sc',io P op id (opv GE tmps) H=some (p,H')/\K p H' sc'/\H'.length=H.length:=by
 unfold KW at h
 split at h
 case h_1=>rw[bo]at h;exact⟨_,_,_,rfl,h,rfl⟩
 case h_2=>rw[bo]at h;exact⟨_,_,_,rfl,h,rfl⟩
 case h_3 c x y=>
  rw[bo]at h
  split at h
  ·rename_i hc;rw[bo]at h;exact⟨_,_,_,by simp only[io,hc],h,rfl⟩
  ·rename_i hc;rw[bo]at h;exact⟨_,_,_,by simp only[io,hc],h,rfl⟩
  ·exact h.elim
 case h_4=>
  simp only[bo]at h
  split at h
  ·obtain⟨p,sc',h1,h2⟩:=iW h;exact⟨p,_,sc',by simp only[io,h1,van],h2,rfl⟩
  ·obtain⟨p,h1,h2⟩:=po h;exact⟨p,_,_,by simp only[io,h1,van],h2,rfl⟩
 case h_5=>simp only[bo]at h;obtain⟨p,h1,h2⟩:=po h;exact⟨p,_,_,by simp only[io,h1,van],h2,rfl⟩
 case h_6=>simp only[bo]at h;obtain⟨p,sc',h1,h2⟩:=iW h;exact⟨p,_,sc',by simp only[io,h1,van],h2,rfl⟩
 case h_7=>simp only[bo]at h;obtain⟨p,h1,h2⟩:=po h;exact⟨p,_,_,by simp only[io,h1,van],h2,rfl⟩
 case h_8=>
  simp only[bo]at h
  split at h
  ·rename_i hv;exact⟨_,_,_,by simp only[io,hv],h,rfl⟩
  ·rename_i hv;exact⟨_,_,_,by simp only[io,hv],h,rfl⟩
  ·rename_i hv;exact⟨_,_,_,by simp only[io,hv],h,rfl⟩
  ·exact h.elim
 case h_9=>simp only[il]at h;exact⟨_,_,_,rfl,h,rfl⟩
 case h_10 t x=>
  simp only[bo]at h
  rw[N7]
  split at h
  ·rename_i cs hv
   obtain⟨p,sc',h1,h2⟩:=iW h
   exact⟨p,_,sc',by simp only[hv,km,h1,van],h2,rfl⟩
  ·rename_i i off hv
   obtain⟨B,hB,h⟩:=cF h
   split at h
   ·rename_i cs own
    split at h
    ·obtain⟨p,h1,h2⟩:=po h
     exact⟨p,_,_,by simp only[hv,km,hB,h1,van],h2,rfl⟩
    ·exact⟨_,_,_,by simp only[hv,km,hB,h.1,van],h.2,rfl⟩
    ·exact h.elim
   ·exact h.elim
  ·exact h.elim
 case h_11 t x y=>
  simp only[bo]at h
  split at h
  ·rename_i i off sc' hv
   split at h
   ·rename_i vs hvs
    obtain⟨B,hB,h⟩:=cF h
    split at h
    ·rename_i cs own
     split at h
     ·rename_i hc
      simp only[ay,aU]at h
      simp only[vae,vam]at hc
      exact⟨_,_,_,by simp only[io,dh,hv,hvs,hB];rw[vaA ⟨hc.1.1.1,hc.1.1.2,hc.1.2,hc.2⟩];rfl,h,by simp⟩
     ·exact h.elim
    ·exact h.elim
   ·exact h.elim
  ·rename_i i off vs sc' hv
   obtain⟨hvs,h⟩:=h
   obtain⟨B,hB,h⟩:=cF h
   split at h
   ·rename_i cs own
    split at h
    ·rename_i hc
     simp only[ay,aU]at h
     simp only[vae,vam]at hc
     exact⟨_,_,_,by simp only[io,dh,hv,hvs,hB];rw[vaA ⟨hc.1.1.1,hc.1.1.2,hc.1.2,hc.2⟩];rfl,h,by simp⟩
    ·exact h.elim
   ·exact h.elim
  ·rename_i i off j cs' own' sc' hv
   obtain⟨B,hB,h1,h2⟩:=cF h
   rw[aU]at h2
   exact⟨_,_,_,by simp only[io,hv,Mx hB h1];rfl,h2,by simp⟩
  ·exact h.elim
 case h_12=>
  simp only[bo]at h
  split at h
  ·rename_i hv
   obtain⟨p,h1,h2⟩:=po h;exact⟨p,_,_,by simp only[io,hv,h1,van],h2,rfl⟩
  ·obtain⟨p,sc',h1,h2⟩:=iW h;exact⟨p,_,sc',by simp only[io,h1,van],h2,rfl⟩
 case h_13=>simp only[bo]at h;obtain⟨p,sc',h1,h2⟩:=iW h;exact⟨p,_,sc',by simp only[io,h1,van],h2,rfl⟩
 case h_14=>simp only[bo]at h;obtain⟨p,sc',h1,h2⟩:=iW h;exact⟨p,_,sc',by simp only[io,h1,van],h2,rfl⟩
 case h_15=>simp only[bo]at h;obtain⟨p,sc',h1,h2⟩:=iW h;exact⟨p,_,sc',by simp only[io,h1,van],h2,rfl⟩
 case h_16 t m k ok=>
  simp only[bo]at h
  split at h
  ·rename_i i hv
   obtain⟨B,hB,h⟩:=cF h
   split at h
   ·rename_i es
    obtain⟨p,sc',h1,h2⟩:=iW h
    exact⟨p,_,sc',by simp only[io,hv,Gc hB h1,van],h2,rfl⟩
   ·exact h.elim
  ·exact h.elim
 case h_17 t m k x=>
  simp only[bo]at h
  split at h
  ·rename_i i j es' sc' hv
   obtain⟨B,hB,h⟩:=cF h
   split at h
   ·rename_i es
    obtain⟨h1,h2⟩:=h
    rw[aU]at h2
    exact⟨_,_,_,by simp only[io,hv,Dy hB h1];rfl,h2,by simp⟩
   ·exact h.elim
  ·exact h.elim
 case h_18=>simp only[bo,PL]at h;obtain⟨p,sc',h1,h2⟩:=iW h;exact⟨p,_,sc',by simp only[io,h1,van],h2,rfl⟩
 case h_19=>simp only[jQ]at h;obtain⟨p,sc',h1,h2⟩:=iW h;exact⟨p,_,sc',by simp only[io,h1,van],h2,rfl⟩
 case h_20=>simp only[jQ]at h;obtain⟨p,sc',h1,h2⟩:=iW h;exact⟨p,_,sc',by simp only[io,h1,van],h2,rfl⟩
 case h_21 x t=>
  simp only[bo]at h
  split at h
  ·rename_i i hv
   obtain⟨B,hB,h⟩:=cF h
   split at h
   ·rename_i es
    obtain⟨p,sc',⟨rfl,h1⟩,h2⟩:=iW h
    refine⟨_,_,sc',?_,h2,rfl⟩
    simp only[io,hv,vG]
    cases hu:P.underlying t with
    |none=>rw[hu]at h1;cases h1
    |some d=>
     rw[hu]at h1
     cases d<;>simp at h1
     simp only[hB,van]
   ·exact h.elim
  ·obtain⟨p,sc',h1,h2⟩:=iW h;exact⟨p,_,sc',by simp only[io,h1 H,van],h2,rfl⟩
 case h_22=>simp only[bo,il]at h;obtain⟨p,h1,h2⟩:=po h;exact⟨p,_,_,by simp only[io,h1,van],h2,rfl⟩
 case h_23=>simp only[bo,il]at h;obtain⟨p,h1,h2⟩:=po h;exact⟨p,_,_,by simp only[io,h1,van],h2,rfl⟩
 case h_24=>exact h.elim
end
def E1(st:ax)(dst:Option Tmp)(p:PVal)(ro:List (Nat×TypeId))(H:List aq)(K:ax->Prop):Prop:=
 match dst with
 |some d=>dt st.tmps d p λtm=>aN ((ro.map λx=>((d,x.1),x.2))++aV d st.own) λow=>K ⟨tm,H,ow⟩
 |none=>K ⟨st.tmps,H,st.own⟩
theorem mZ(st:ax)(dst:Option Tmp)(p:PVal)(ro:List (Nat×TypeId))(H:List aq)(K:ax->Prop):E1 st dst p ro H K=K (p6 st dst p ro H):=by
 cases dst with
 |none=>rfl
 |some d=>simp only[E1,aU,ay,p6]
def JT(P:Program)(GE:List (Nat×List PVal))(f:Operand)(args:List Operand)(tmps:List PVal)(sc:List It)(K:PVal->List (Nat×TypeId)->List It->Prop):Prop:=
 jq GE tmps f λvf=>match vf with
  |.func (.func g) first cap=>Di GE tmps args λas=>match sc with
   |.c r ro::sc'=>CC P GE g (first++as++cap) r ro/\K r ro sc'
   |_=>False
  |_=>False
def ph(P:Program)(GE:List (Nat×List PVal))(o:Oper)(id:Nat)(sc:List It)(st:ax)(K:List It->ax->Prop):Prop:=
 match jc o st.tmps.length with
 |false=>False
 | true => match o.op with
  |.call {callee:=.value f,args,..}=>JT P GE f args.toList st.tmps sc λr ro sc'=>E1 st o.dst r ro st.boxes λst'=>K sc' st'
  |.alloc t=>match sc with
   |.x zs::sc'=>eY P t=some zs/\aN (AZ P t) λow=>dt st.boxes id (.cells zs ow) λH=>E1 st o.dst (.bptr id 0) [] H λst'=>K sc' st'
   |_=>False
  |.box _ x=>jq GE st.tmps x λvx=>match sc with
   |.x cs::sc'=>bu vx=some cs/\zR cs=true/\dt st.boxes id (.cells cs []) λH=>E1 st o.dst (.bptr id 0) [] H λst'=>K sc' st'
   |_=>False
  |.makeMap _ none=>dt st.boxes id (.map []) λH=>E1 st o.dst (.mapr id) [] H λst'=>K sc st'
  |op=>KW P GE op st.tmps st.boxes sc λp H sc'=>E1 st o.dst p [] H λst'=>K sc' st'
def EM(n d:Nat)(K:Prop):Prop:=match decide (d<n)with
 |true=>K
 |false=>False
theorem gz{n d:Nat}{K:Prop}(h:EM n d K):d<n/\K:=by
 unfold EM at h
 split at h
 ·rename_i hd;exact⟨by simpa using hd,h⟩
 ·exact h.elim
def CM(P:Program)(st:ax)(T e:TypeId)(t:Nat)(dst:Option Tmp)(vx vt:PVal)(sc:List It)(K:List It->ax->Prop):Prop:=
 match vx with
 | .bptr i off => match dh P T (.bptr i off) vt st.boxes with
  | some H => ik H i fun B => match B with
   |.cells cs own=>match vt.one with
    |true=>aN cs λcs'=>dt H i (.cells cs' ((off,e)::own)) λH'=>E1 {st with own:=st.own.filter λx=>x.1 !=(t,0)} dst (.val undef) [] H' λst'=>K sc st'
    |false=>False
   |_=>False
  |none=>False
 |_=>False
def CO(P:Program)(GE:List (Nat×List PVal))(A:List Nat)(o:Oper)(id:Nat)(sc:List It)(st:ax)(K:List It->ax->Prop):Prop:=
 match o.op,o.dst with
 |.assign (.tmp t),some d=>EM st.tmps.length d (mg st.tmps t λp=>dt st.tmps d p λtm=>aN (fU d (λx=>if x.1=t then(d,x.2)else x) st.own) λow=>K sc ⟨tm,st.boxes,ow⟩)
 |.move (.tmp t),some d=>match decide (d∈A)with
  |true=>EM st.tmps.length d (mg st.tmps t λp=>dt st.tmps d p λtm=>aN (fU d (λx=>if x.1=t then(d,x.2)else x) st.own) λow=>K sc ⟨tm,st.boxes,ow⟩)
  |false=>ph P GE o id sc st K
 |.assign (.const v),some d=>match mX P o.type v with
  |some e=>EM st.tmps.length d (dt st.tmps d (.slice []) λtm=>aN (((d,0),e)::aV d st.own) λow=>K sc ⟨tm,st.boxes,ow⟩)
  |none=>ph P GE o id sc st K
 |.move (.const v),some d=>match mX P o.type v with
  |some e=>EM st.tmps.length d (dt st.tmps d (.slice []) λtm=>aN (((d,0),e)::aV d st.own) λow=>K sc ⟨tm,st.boxes,ow⟩)
  |none=>ph P GE o id sc st K
 |.extract (.tmp t) i,some d=>EM st.tmps.length d (mg st.tmps t λvt=>EQ (nY vt i) λp=>dt st.tmps d p λtm=>aN (fU d (λx=>if x=(t,i)then(d,0)else x) st.own) λow=>K sc ⟨tm,st.boxes,ow⟩)
 |.buildSlice T len parts,some d=>EM st.tmps.length d (pZ GE st.tmps parts.toList λps=>match sc,P.underlying T with
  |.v p::sc',some (.slice e)=>dP P T len ps=some p/\dt st.tmps d p λtm=>aN (((d,0),e)::aV d st.own) λow=>K sc' ⟨tm,st.boxes,ow⟩
  |_,_=>False)
 | .call { callee := .builtin .append,args:=⟨[.tmp t,y]⟩,argTypes:=⟨[T,T']⟩ },some d => EM st.tmps.length d (mg st.tmps t fun ve => jq GE st.tmps y fun vn => match ve,vn,sc,P.underlying T with
  |.slice es,.slice ns,.v p::sc',some (.slice e)=>match decide (T=T')&&decide (((t,0),e)∈st.own)with
   |true=>eK P T es ns=some p/\dt st.tmps d p λtm=>aN (((d,0),e)::aV d (st.own.filter λx=>x.1 !=(t,0))) λow=>K sc' ⟨tm,st.boxes,ow⟩
   |false=>False
  |_,_,_,_=>False)
 | .load T x,some d => match decide (d ∈ A) with
  | true => EM st.tmps.length d (jq GE st.tmps x fun vx => match vx,P.underlying T with
   | .bptr i off,some (.slice e) => ik st.boxes i fun B => match B with
    |.cells cs own=>match decide ((off,e)∈own)&&decide (off<cs.length)with
     |true=>mg cs off λp=>dt st.tmps d p λtm=>aN (own.filter λx=>x.1 !=off) λown'=>dt st.boxes i (.cells cs own') λH=>aN (((d,0),e)::aV d st.own) λow=>K sc ⟨tm,H,ow⟩
     |false=>False
    |_=>False
   |_,_=>False)
  |false=>ph P GE o id sc st K
 |.store T x (.tmp t),_=>match st.own.find? (λy=>y.1==(t,0))with
  |some (_,e)=>jq GE st.tmps x λvx=>mg st.tmps t λvt=>CM P st T e t o.dst vx vt sc K
  |none=>ph P GE o id sc st K
 |_,_=>ph P GE o id sc st K
def Vx:Value->Bool
 |.bool _=>true
 |_=>false
def BG(ops:Array Oper)(j:Nat)(want:Bool)(pos:Nat)(sc:List It)(st:ax)(go:Bool->List It->ax->Prop):Prop:=
 match(ops[j]?).bind (·.dst)with
 |none=>False
 | some t => mg st.tmps t fun p => match p with
  | .bool x => match sc with
   |.g pos' b::sc'=>match pos'==pos with
    |true=>x=b/\dt st.tmps t (.bool b) λtm=>go (b==want) sc' ⟨tm,st.boxes,st.own⟩
    |false=>go (x==want) sc st
   |_=>go (x==want) sc st
  |.val v=>match Vx v with
   |true=>False
   |false=>go false sc st
  |_=>False
def kQ:List Nat->Bool
 |[]=>true
 |x::r=>!(r.contains x)&&kQ r
theorem iN:∀{l:List Nat},kQ l=true->l.Nodup
 |[],_=>.nil
 |x::r,h=>by
  simp only[kQ,vae,vaX,vcD,va8]at h
  exact vbB.2 ⟨h.1,iN h.2⟩
def AR(t:Nat)(own:List ((Nat×Nat)×TypeId)):List (Nat×TypeId):=own.filterMap λx=>if x.1.1==t then some (x.1.2,x.2)else none
theorem uZ{t:Nat}{own:List ((Nat×Nat)×TypeId)}{y:Nat×TypeId}(h:y∈AR t own):((t,y.1),y.2)∈own:=by
 unfold AR at h
 obtain⟨⟨⟨t',k⟩,e⟩,hx,he⟩:=vbW.1 h
 split at he
 ·rename_i ht
  simp only[vaY]at ht
  cases he;subst ht;exact hx
 ·cases he
def Lh(off n:Nat)(own:List (Nat×TypeId)):List (Nat×TypeId):=own.filterMap λx=>if decide (off<=x.1)&&decide (x.1<off+n)then some (x.1 - off,x.2)else none
theorem uY{off n:Nat}{own:List (Nat×TypeId)}{y:Nat×TypeId}(h:y∈Lh off n own):(off+y.1,y.2)∈own/\y.1<n:=by
 unfold Lh at h
 obtain⟨⟨k,e⟩,hx,he⟩:=vbW.1 h
 split at he
 ·rename_i ht
  simp only[vae,vam]at ht
  cases he
  have:off+(k - off)=k:=by omega
  exact⟨by rw[this];exact hx,by simp only;omega⟩
 ·cases he
def zv(ρ:List Nat):List PVal->List PVal->Prop
 |[],[]=>True
 |p::ps,q::qs=>qL ρ p q/\zv ρ ps qs
 |_,_=>False
theorem zv.len{ρ:List Nat}:∀{l r:List PVal},zv ρ l r->l.length=r.length
 |[],[],_=>rfl
 |[],_::_,h=>h.elim
 |_::_,[],h=>h.elim
 |_::_,_::_,h=>by simp[zv.len h.2]
theorem zv.get{ρ:List Nat}:∀{l r:List PVal},zv ρ l r->∀(i:Nat) p q,l[i]? =some p->r[i]? =some q->qL ρ p q
 |[],[],_,i,p,q,hp,_=>by simp at hp
 |[],_::_,h,_,_,_,_,_=>h.elim
 |_::_,[],h,_,_,_,_,_=>h.elim
 |_::_,_::_,h,0,p,q,hp,hq=>by simp at hp hq;subst hp;subst hq;exact h.1
 |_::_,_::_,h,i+1,p,q,hp,hq=>zv.get h.2 i p q (by simpa using hp) (by simpa using hq)
def Jw(ρ:List Nat):aq->aq->Prop
 |.cells cs own,.cells cs' own'=>own=own'/\zv ρ cs cs'
 |.map es,.map es'=>es=es'/\∀x∈es,x.1.cl 0/\x.2.cl 0
 |.dead,.dead=>True
 |_,_=>False
theorem Jw.to{ρ:List Nat}{B B':aq}(h:Jw ρ B B'):fj ρ B B':=by
 cases B<;>cases B'<;>simp only[Jw]at h
 ·exact⟨h.1,h.2.len,h.2.get⟩
 ·obtain⟨rfl,h⟩:=h
  refine⟨rfl,λi k u k' u' h1 h2=>?_⟩
  rw[h1]at h2;cases h2
  obtain⟨q1,q2⟩:=h _ (var h1)
  exact⟨.refl _ q1,.refl _ q2⟩
 ·trivial
def kj(ρ:List Nat)(H:List aq):List Nat->List aq->List aq->Prop
 |[],[],[]=>True
 |j::js,B::Bs,Bc::Hc=>(ik H j λB0=>oz B0 B=B/\Jw ρ B Bc)/\kj ρ H js Bs Hc
 |_,_,_=>False
def nT(ρ:List Nat):List aq->List aq->Prop
 |[],[]=>True
 |B::Bs,Bc::Hc=>Jw ρ B Bc/\nT ρ Bs Hc
 |_,_=>False
def gf(H:List aq):List Nat->List aq->List aq
 |j::js,B::Bs=>gf (H.set j B) js Bs
 |_,_=>H
def HL(H:List aq):List Nat->List aq->(List aq->Prop)->Prop
 |j::js,B::Bs,K=>dt H j B λH'=>HL H' js Bs K
 |_,_,K=>K H
theorem jR:∀(H:List aq) (js:List Nat) (Bs:List aq) (K:List aq->Prop),HL H js Bs K=K (gf H js Bs)
 |H,[],_,K=>by cases ‹List aq›<;>rfl
 |H,_::_,[],K=>rfl
 |H,j::js,B::Bs,K=>by simp only[HL,aU,jR,gf]
theorem vA:∀(H:List aq) (js:List Nat) (Bs:List aq),(gf H js Bs).length=H.length
 |H,[],_=>by cases ‹List aq›<;>rfl
 |H,_::_,[]=>rfl
 |H,j::js,B::Bs=>by simp only[gf,vA,vcA]
theorem fW:∀(H:List aq) (js:List Nat) (Bs:List aq) {j:Nat},j∉js->(gf H js Bs)[j]? =H[j]?
 |H,[],Bs,_,_=>by cases Bs<;>rfl
 |H,_::_,[],_,_=>rfl
 |H,k::js,B::Bs,j,h=>by
  simp only[vaB,vcX]at h
  simp only[gf]
  rw[fW _ js Bs h.2,vaq (Ne.symm h.1)]
theorem yP:∀(H:List aq) (js:List Nat) (Bs:List aq),js.Nodup->js.length=Bs.length->(∀j∈js,j<H.length)->∀(i j:Nat) B,js[i]? =some j->Bs[i]? =some B->(gf H js Bs)[j]? =some B
 |H,[],Bs,_,_,_,i,j,B,hj,_=>by simp at hj
 |H,_::_,[],_,hl,_,_,_,_,_,_=>by simp at hl
 | H,k :: js,B0 :: Bs,hn,hl,hlt,i,j,B,hj,hB => by
  obtain⟨hn1,hn2⟩:=vbB.1 hn
  simp only[gf]
  cases i with
  |zero=>
   simp at hj hB;subst hj;subst hB
   rw[fW _ js Bs hn1,vag (hlt _ (by simp))]
  |succ i=>exact yP _ js Bs hn2 (by simpa using hl) (λx hx=>by rw[vcA];exact hlt x (by simp[hx])) i j B (by simpa using hj) (by simpa using hB)
theorem CU{ρ:List Nat}{H:List aq}:∀{js:List Nat} {Bs Hc:List aq},kj ρ H js Bs Hc->js.length=Bs.length/\Hc.length=js.length/\(∀j∈js,j<H.length)/\
  ∀(i j:Nat) B Bc,js[i]? =some j->Bs[i]? =some B->Hc[i]? =some Bc->(∃B0,H[j]? =some B0/\oz B0 B=B)/\fj ρ B Bc
 |[],[],[],_=>⟨rfl,rfl,by simp,by simp⟩
 |[],_::_,_,h=>by simp[kj]at h
 |[],[],_::_,h=>by simp[kj]at h
 |_::_,[],_,h=>by simp[kj]at h
 |_::_,_::_,[],h=>by simp[kj]at h
 | k :: js,B :: Bs,Bc :: Hc,h => by
  obtain⟨h1,h2⟩:=h
  obtain⟨B0,hB0,h3,h4⟩:=cF h1
  obtain⟨k1,k2,k3,k4⟩:=CU h2
  refine⟨by simp[k1],by simp[k2],λj hj=>?_,λi j b bc hj hb hbc=>?_⟩
  ·rcases vaB.1 hj with rfl|hj
   ·exact ag hB0
   ·exact k3 j hj
  ·cases i with
   |zero=>simp at hj hb hbc;subst hj;subst hb;subst hbc;exact⟨⟨B0,hB0,h3⟩,h4.to⟩
   |succ i=>exact k4 i j b bc (by simpa using hj) (by simpa using hb) (by simpa using hbc)
theorem tU{ρ:List Nat}:∀{Bs Hc:List aq},nT ρ Bs Hc->Bs.length=Hc.length/\∀(i:Nat) B Bc,Bs[i]? =some B->Hc[i]? =some Bc->fj ρ B Bc
 |[],[],_=>⟨rfl,by simp⟩
 |[],_::_,h=>h.elim
 |_::_,[],h=>h.elim
 |B::Bs,Bc::Hc,h=>by
  obtain⟨k1,k2⟩:=tU h.2
  refine⟨by simp[k1],λi b bc hb hbc=>?_⟩
  cases i with
  |zero=>simp at hb hbc;subst hb;subst hbc;exact h.1.to
  |succ i=>exact k2 i b bc (by simpa using hb) (by simpa using hbc)
def Qg(t:Nat):Option Operand->Bool
 |some (.tmp u)=>u==t
 |_=>false
def Ny:Option Operand->Bool
 |some (.const v)=>iv v
 |_=>false
def II(n:Nat)(args:List Operand)(own:List ((Nat×Nat)×TypeId))(oa:List OA):Bool:=
 oa.all (λx=>decide (n<=x.i)&&((Ny args[x.i - n]? &&x.k==0)||(decide (((x.t,x.k),x.e)∈own)&&Qg x.t args[x.i - n]?)))&&oa.all λx=>oa.all λy=>!(x.t==y.t&&x.k==y.k)||x.i==y.i
def BO:aq->Bool
 |.dead=>false
 |_=>true
def fg(P:Program)(GE:List (Nat×List PVal))(f:Operand)(args:List Operand)(c:GC)(st:ax)(K:List aq->Prop):Prop:=
 jq GE st.tmps f λvf=>match vf with
 | .func (.func g) first cap => Di GE st.tmps args fun as => match kQ c.ρ && II first.length args st.own c.oa && c.Bs.all BO && decide (c.Bs'.length = c.ρ.length) with
  | true => C P GE g c.argsC (c.oa.map fun x => ((x.i,x.k),x.e)) c.Hc c.rc c.ro c.Hc'∧zv c.ρ (first ++ as ++ cap) c.argsC∧kj c.ρ st.boxes c.ρ c.Bs c.Hc∧nT c.ρ c.Bs' c.Hc'∧qL c.ρ c.r c.rc ∧
    HL st.boxes c.ρ c.Bs' K
  |false=>False
 |_=>False
theorem ly{P:Program}{GE:List (Nat×List PVal)}{f:Operand}{args:List Operand}{c:GC}{st:ax}{K:List aq->Prop}(h:fg P GE f args c st K):∃H',xQ P GE f args st c.r c.ro H' c.oa/\K H':=by
 unfold fg at h
 rw[bo]at h
 split at h
 ·rename_i g first cap hf
  rw[il]at h
  split at h
  ·rename_i hb
   simp only[vae,vam]at hb
   obtain⟨⟨⟨b1,b2⟩,b3⟩,b4⟩:=hb
   obtain⟨h1,h2,h3,h4,h5,h6⟩:=h
   rw[jR]at h6
   have hn:=iN b1
   obtain⟨i1,i2,i3,i4⟩:=CU h3
   obtain⟨o1,o2⟩:=tU h4
   unfold II at b2
   rw[vae]at b2
   obtain⟨c1,c2⟩:=b2
   have hgetB:∀{i j:Nat},c.ρ[i]? =some j->∃B,c.Bs[i]? =some B:=λ{i j} hj=>⟨_,vaa (by rw[<-i1];exact ag hj)⟩
   have hgetH:∀{i j:Nat},c.ρ[i]? =some j->∃B,c.Hc[i]? =some B:=λ{i j} hj=>⟨_,vaa (by rw[i2];exact ag hj)⟩
   refine⟨_,⟨g,first,cap,c.argsC,c.ρ,gf st.boxes c.ρ c.Bs,c.Hc,c.Hc',c.rc,hf,hn,h1,⟨vA _ _ _,λi B hB=>?_⟩,⟨i2,λi j hj=>?_⟩,⟨by rw[<-o1];exact b4,λi j hj=>?_⟩,vA _ _ _,λj hj=>by rw[fW _ _ _ hj,fW _ _ _ hj],h5,h2.len,h2.get,λx hx=>?_,λx hx y hy e1 e2=>?_⟩,h6⟩
   ·by_cases hi:i∈c.ρ
    ·obtain⟨k,hk⟩:=va6.1 hi
     obtain⟨B1,hB1⟩:=hgetB hk
     obtain⟨Bc,hBc⟩:=hgetH hk
     obtain⟨⟨B0,hB0,hfg⟩,_⟩:=i4 k i B1 Bc hk hB1 hBc
     rw[yP _ _ _ hn i1 i3 k i B1 hk hB1]at hB
     cases hB
     refine⟨B0,hB0,?_⟩
     rcases KX B0 B with hx|hx|hx
     ·rw[hfg]at hx
      have:=vap.1 b3 B (var hB1)
      rw[hx]at this;cases this
     ·rw[hfg]at hx;exact .inl hx
     ·rw[hfg]at hx;exact .inr hx
    ·rw[fW _ _ _ hi]at hB
     exact⟨B,hB,.inl rfl⟩
   ·obtain⟨B1,hB1⟩:=hgetB hj
    obtain⟨Bc,hBc⟩:=hgetH hj
    exact⟨B1,Bc,yP _ _ _ hn i1 i3 i j B1 hj hB1,hBc,(i4 i j B1 Bc hj hB1 hBc).2⟩
   ·have hi:=ag hj
    have e1:=vaa (l:=c.Bs') (i:=i) (by omega)
    have e2:=vaa (l:=c.Hc') (i:=i) (by omega)
    exact⟨_,_,yP _ _ _ hn b4.symm i3 i j _ hj e1,e2,o2 i _ _ e1 e2⟩
   ·have:=vap.1 c1 x hx
    simp only[vae,vaZ,vam,vaY]at this
    refine⟨x.i - first.length,by omega,?_⟩
    rcases this.2 with⟨h2,h3⟩|⟨h2,h3⟩
    ·left
     unfold Ny at h2
     split at h2
     ·rename_i v hv
      unfold iv at h2
      split at h2
      ·exact⟨hv,h3⟩
      ·cases h2
     ·cases h2
    ·right
     unfold Qg at h3
     split at h3
     ·rename_i u hu
      simp only[vaY]at h3
      subst h3;exact⟨h2,hu⟩
     ·cases h3
   ·have:=vap.1 (vap.1 c2 x hx) y hy
    simp only[vaZ,vaX,Bool.and_eq_false_iff,beq_eq_false_iff_ne,ne_eq,vaY]at this
    rcases this with(hx|hx)|hx
    ·exact absurd e1 hx
    ·exact absurd e2 hx
    ·exact hx
  ·exact h.elim
 ·exact h.elim
def GY(P:Program)(GE:List (Nat×List PVal))(f:Operand)(args:List Operand)(c:GC)(d:Nat)(st:ax)(K:List PVal->List aq->List ((Nat×Nat)×TypeId)->Prop):Prop:=
 jq GE st.tmps f λvf=>Di GE st.tmps args λvs=>match vf with
  |.func (.func g) [] []=>match decide (c.ρ=List.range' st.boxes.length c.Hc'.length)with
   |true=>CN P GE g vs c.rc c.ro c.Hc'/\dR 0 vs/\nT c.ρ c.Bs' c.Hc'/\qL c.ρ c.r c.rc/\dt st.tmps d c.r λtm=>aN ((c.ro.map λx=>((d,x.1),x.2))++aV d st.own) λow=>Bu st.boxes c.Bs' λH=>K tm H ow
   |false=>False
  |_=>False
theorem EE{P:Program}{GE:List (Nat×List PVal)}{o:Oper}{f:Operand}{args:Array Operand}{tys:Array TypeId}{c:GC}{d:Nat}{st:ax}{K:List It->ax->Prop}{sc:List It}(ho:o.op=.call {callee:=.value f,args,argTypes:=tys})(hd:o.dst=some d)(h1:d<st.tmps.length)
  (h:GY P GE f args.toList c d st λtm H ow=>K sc ⟨tm,H,ow⟩):I0 P GE o (λst'=>∃sc',K sc' st') st:=by
 unfold GY at h
 rw[bo,il]at h
 split at h
 ·rename_i g hf
  split at h
  ·rename_i hc
   simp only[vam]at hc
   obtain⟨h2,h3,h4,h5,h6⟩:=h
   simp only[aU,ay,Bu]at h6
   obtain⟨k1,k2⟩:=tU h4
   unfold I0
   simp only[ho,hd]
   rw[hc]at h5 k2
   exact⟨g,c.rc,c.ro,c.Bs',c.Hc',c.r,hf,h2,h3,k1,k2,h5,h1,sc,h6⟩
  ·exact h.elim
 ·exact h.elim
def BI (P:Program) (GE:List (Nat×List PVal)) (A:List Nat) (o:Oper) (id:Nat) (sc:List It) (st:ax) (K:List It→ax→Prop):Prop :=
 match o.op,sc with
 |.build T parts,.b p L::sc'=>match o.dst with
  |some d=>EM st.tmps.length d (pZ GE st.tmps parts.toList λps=>dy P T ps=some p/\sI P T ps L/\dt st.tmps d p λtm=>aN ((L.map λx=>((d,x.1),x.2))++aV d st.own) λow=>K sc' ⟨tm,st.boxes,ow⟩)
  |none=>False
 | .store T x (.tmp t),.y vs :: sc' => mg st.tmps t fun vt => match vt with
  | .agg l => match o.dst with
   | none => jq GE st.tmps x fun vx => match vx with
    | .bptr i off => aN (AR t st.own) fun L => l = vs∧ik st.boxes i fun B => match B with
     | .cells cs own => match kQ (L.map (·.1)) && decide (vs.length = P.cellsOf T) && (P.info? T).isSome && decide (off + vs.length ≤ cs.length) && vs.all PVal.one with
      | true => aN (cs.take off ++ vs ++ cs.drop (off + vs.length)) fun cs' => aN ((L.map fun y => (off + y.1,y.2)).reverse ++ own.filter fun y => y.1 < off || off + vs.length ≤ y.1) fun own' =>
        dt st.boxes i (.cells cs' own') λH=>aN (st.own.filter λx=>!L.any λy=>x.1==(t,y.1)) λow=>K sc' ⟨st.tmps,H,ow⟩
      |false=>False
     |_=>False
    |_=>False
   |some _=>False
  |_=>CO P GE A o id sc st K
 | .load T x,.z l :: sc' => match P.underlying T with
  | some (.struct _) => match o.dst with
   | some d => EM st.tmps.length d (jq GE st.tmps x fun vx => match vx with
    | .bptr i off => ik st.boxes i fun B => match B with
     | .cells cs own => aO P T (cs.drop off) = some (.agg l)∧aN (Lh off (P.cellsOf T) own) fun L => match kQ (L.map (·.1)) with
      | true => dt st.tmps d (.agg l) fun tm => aN (own.filter fun x => !L.any fun y => x.1 == off + y.1) fun own' => dt st.boxes i (.cells cs own') fun H =>
        aN ((L.map λy=>((d,y.1),y.2)).reverse++aV d st.own) λow=>K sc' ⟨tm,H,ow⟩
      |false=>False
     |_=>False
    |_=>False)
   |none=>False
  |_=>CO P GE A o id sc st K
 |.box _ x,.e vs::sc'=>match o.dst with
  |some d=>EM st.tmps.length d (jq GE st.tmps x λvx=>bu vx=some vs/\dt st.tmps d (.eptr vs) λtm=>aN (aV d st.own) λow=>K sc' ⟨tm,st.boxes,ow⟩)
  |none=>False
 |.call {callee:=.value f,args,..},.cg c::sc'=>match o.dst with
  |some d=>EM st.tmps.length d (fg P GE f args.toList c st λH=>dt st.tmps d c.r λtm=>aN ((c.ro.map λx=>((d,x.1),x.2))++aV d (st.own.filter λz=>!c.oa.any λx=>z.1==(x.t,x.k))) λow=>K sc' ⟨tm,H,ow⟩)
  |none=>False
 |.call {callee:=.value f,args,..},.cn c::sc'=>match o.dst with
  |some d=>EM st.tmps.length d (GY P GE f args.toList c d st λtm H ow=>K sc' ⟨tm,H,ow⟩)
  |none=>False
 | .call { callee := .builtin .append,args:=⟨[.tmp t,y]⟩,argTypes:=⟨[T,T']⟩ },.ar i e n cs :: sc' => match o.dst with
  | some d => EM st.tmps.length d (mg st.tmps t fun ve => jq GE st.tmps y fun vn => match ve,vn with
   | .slice [],.slice ns => match decide (T = T') && decide (((t,0),e) ∈ st.own) && decide (i = st.boxes.length) with
    | true => P.underlying T = some (.slice e)∧(∃ p,eK P T [] ns = some p)∧(n = ns.length∧cs = ns.flatten) ∧
      dt st.tmps d (.bsl i 0 n) λtm=>aN (aV d (st.own.filter λx=>x.1 !=(t,0))) λow=>Bu st.boxes [.cells cs []] λH=>K sc' ⟨tm,H,ow⟩
    |false=>False
   |_,_=>False)
  |none=>False
 | .call { callee := .value f,args:=⟨[x]⟩,.. },.ar i e n cs :: sc' => match o.dst with
  | some d => EM st.tmps.length d (jq GE st.tmps f fun vf => jq GE st.tmps x fun vn => match vf,vn with
   | .func (.func g) [] [],.slice ns => match decide (i = st.boxes.length) with
    | true => qN P g e∧(0 < P.cellsOf e∧(∀ x ∈ ns,x.length = P.cellsOf e∧∀ q ∈ x,q.one = true)∧ns.length ≤ ct)∧(n = ns.length∧cs = ns.flatten) ∧
      dt st.tmps d (.bsl i 0 n) λtm=>aN (aV d st.own) λow=>Bu st.boxes [.cells cs []] λH=>K sc' ⟨tm,H,ow⟩
    |false=>False
   |_,_=>False)
  |none=>False
 | .store T x (.const v),.ar _ e _ _ :: sc' => match o.dst,iv v with
  | none,true => jq GE st.tmps x fun vx => jq GE st.tmps (.const v) fun vy => match vx,bu vy with
   | .bptr i off,some vs => ik st.boxes i fun B => match B with
    |.cells cs own=>match decide (vs.length=P.cellsOf T)&&(P.info? T).isSome&&decide (off+vs.length<=cs.length)&&vs.all PVal.one with
     |true=>aN (cs.take off++vs++cs.drop (off+vs.length)) λcs'=>aN ((off,e)::own.filter λy=>y.1<off||off+vs.length<=y.1) λown'=>dt st.boxes i (.cells cs' own') λH=>K sc' ⟨st.tmps,H,st.own⟩
     |false=>False
    |_=>False
   |_,_=>False
  |_,_=>False
 | .box T (.tmp t),.y vs :: sc' => match o.dst with
  | some d => EM st.tmps.length d (mg st.tmps t fun vt => match vt with
   |.agg l=>aN (AR t st.own) λL=>l=vs/\(match kQ (L.map (·.1))&&zR vs with
    |true=>aN (vs.map (nilTo id T)) λcs=>dt st.tmps d (.bptr id 0) λtm=>aN ((L.map λy=>(0+y.1,y.2)).reverse++[]) λown=>dt st.boxes id (.cells cs own) λH=>aN (aV d (st.own.filter λx=>!L.any λy=>x.1==(t,y.1))) λow=>K sc' ⟨tm,H,ow⟩
    |false=>False)
   |_=>False)
  |none=>False
 |.alloc T,.y vs::sc'=>match o.dst with
  |some d=>EM st.tmps.length d (eY P T=some vs/\aN (AZ P T) λown=>aN (vs.map (nilTo id T)) λcs=>dt st.tmps d (.bptr id 0) λtm=>dt st.boxes id (.cells cs own) λH=>aN (aV d st.own) λow=>K sc' ⟨tm,H,ow⟩)
  |none=>False
 | .call { callee := .builtin .append,args:=⟨[.tmp t,y]⟩,argTypes:=⟨[T,T']⟩ },.z ps :: sc' => match o.dst,ps with
  | some d,[p] => EM st.tmps.length d (mg st.tmps t fun ve => jq GE st.tmps y fun vn => match ve,vn,P.underlying T with
   |.slice es,.str s,some (.slice e)=>match decide (((t,0),e)∈st.own)with
    |true=>yD P T T' es s=some p/\dt st.tmps d p λtm=>aN (((d,0),e)::aV d (st.own.filter λx=>x.1 !=(t,0))) λow=>K sc' ⟨tm,st.boxes,ow⟩
    |false=>False
   |.slice es,.slice ns,some (.slice e)=>match decide (T'=T)&&decide (((t,P.cellsOf e),e)∈st.own)with
    |true=>eK P T es ns=some p/\dt st.tmps d p λtm=>aN (((d,P.cellsOf e),e)::aV d (st.own.filter λx=>x.1.1 !=t)) λow=>K sc' ⟨tm,st.boxes,ow⟩
    |false=>False
   |_,_,_=>False)
  |_,_=>False
 | .slice T (.tmp t) (some lo) none none,.z ps :: sc' => match o.dst,ps with
  | some d,[p] => EM st.tmps.length d (mg st.tmps t fun ve => jq GE st.tmps lo fun vl => match ve,P.underlying T with
   |.slice es,some (.slice e)=>match decide (0<P.cellsOf e)&&(decide (((t,0),e)∈st.own)||decide (((t,P.cellsOf e),e)∈st.own))with
    |true=>mi P T (.slice es) (some vl) none none=some p/\dt st.tmps d p λtm=>aN (((d,P.cellsOf e),e)::aV d (st.own.filter λx=>x.1.1 !=t)) λow=>K sc' ⟨tm,st.boxes,ow⟩
    |false=>False
   |_,_=>False)
  |_,_=>False
 |_,_=>CO P GE A o id sc st K
def CL(P:Program)(GE:List (Nat×List PVal))(A:List Nat)(ops:Array Oper)(K:List It->ax->Prop):List Oper->Nat->Nat->List It->ax->Prop
 |[],_,_,sc,st=>K sc st
 | o :: rest,pos,id,sc,st =>
  let step (sc:List It) (st:ax):Prop:=BI P GE A o id sc st λsc' st'=>CL P GE A ops K rest (pos+1) (id+if au o.op then 1 else 0) sc' st'
  match o.guard with
  |none=>step sc st
  |some (j,want)=>BG ops j want pos sc st λb sc' st'=>match b with
   |true=>step sc' st'
   |false=>E1 st' o.dst (.val undef) [] st'.boxes λst''=>CL P GE A ops K rest (pos+1) (id+if au o.op then 1 else 0) sc' st''
section
variable{P:Program}{GE:List (Nat×List PVal)}{A:List Nat}{ops:Array Oper}
theorem GW{f:Operand}{args:List Operand}{tmps:List PVal}{H:List aq}{sc:List It}{K:PVal->List (Nat×TypeId)->List It->Prop}(h:JT P GE f args tmps sc K):xo P GE (opv GE tmps f) (args.map (opv GE tmps)) H λr ro H'=>H'=H/\∃sc',K r ro sc':=by
 unfold JT at h
 rw[bo]at h
 split at h
 ·rename_i g first cap hf
  rw[il]at h
  split at h
  ·rename_i r ro sc'
   rw[hf]
   exact .inl ⟨h.1.1,r,ro,h.1.2,rfl,sc',h.2⟩
  ·exact h.elim
 ·exact h.elim
theorem vb{op:Op}{id:Nat}{v:Operand->PVal}{H H':List aq}{p:PVal}{K:PVal->List (Nat×TypeId)->List aq->Prop}(hn:∀f args tys,op≠.call {callee:=.value f,args,argTypes:=tys})
  (h:io P op id v H=some (p,H')) (hk:K p [] H'):EU P GE op id v H K:=by
 unfold EU
 split
 ·rename_i f args tys;exact absurd rfl (hn _ _ _)
 ·rw[h];exact hk
theorem gW{o:Oper}{id:Nat}{sc:List It}{st:ax}{K:List It->ax->Prop}(h:ph P GE o id sc st K):jc o st.tmps.length=true/\EU P GE o.op id (opv GE st.tmps) st.boxes λp ro H=>(λst'=>∃sc',K sc' st') (p6 st o.dst p ro H):=by
 unfold ph at h
 split at h
 ·exact h.elim
 ·rename_i hc
  refine⟨hc,?_⟩
  split at h
  ·rename_i f args tys ho
   have:=GW (H:=st.boxes) h
   unfold EU
   simp only[ho]
   unfold xo at this ⊢
   split at this
   ·rcases this with⟨k1,r,ro,k2,_,sc',k3⟩|⟨ρ,argsC,Hc,rc,ro,Hc',H',r,k1,k2,k3,k4,k5,k6,k7,k8,k9,rfl,sc',k10⟩
    ·rw[mZ]at k3;exact .inl ⟨k1,r,ro,k2,sc',k3⟩
    ·rw[mZ]at k10;exact .inr ⟨ρ,argsC,Hc,rc,ro,Hc',_,r,k1,k2,k3,k4,k5,k6,k7,k8,k9,sc',k10⟩
   ·exact this.elim
  ·rename_i t ho
   split at h
   ·rename_i zs sc'
    obtain⟨h1,h2⟩:=h
    simp only[ay,aU,mZ]at h2
    rw[ho]
    exact vb (by simp) (by simp only[io,h1,van]) ⟨sc',h2⟩
   ·exact h.elim
  ·rename_i t x ho
   rw[bo]at h
   split at h
   ·rename_i cs sc'
    obtain⟨h1,h1n,h2⟩:=h
    simp only[aU,mZ]at h2
    rw[ho]
    exact vb (by simp) (by simp only[io,Dn h1 h1n,van]) ⟨sc',h2⟩
   ·exact h.elim
  ·rename_i t ho
   simp only[aU,mZ]at h
   rw[ho]
   exact vb (by simp) (by simp only[io]) ⟨_,h⟩
  ·rename_i n1 n2 n3 n4
   obtain⟨p,H',sc',k1,k2,_⟩:=AM (id:=id) h
   rw[mZ]at k2
   exact vb (λf args tys e=>n1 f args tys e) k1 ⟨sc',k2⟩
theorem rr{o:Oper}{id:Nat}{sc:List It}{st:ax}{K:List It->ax->Prop}(h:CO P GE A o id sc st K):AY P GE A o id (λst'=>∃sc',K sc' st') st:=by
 unfold CO at h
 unfold AY
 split at h
 case h_1 t d ho hd=>
  obtain⟨h1,h2⟩:=gz h
  simp only[eb,aU,ay]at h2
  simp only[ho,hd]
  exact⟨h1,_,h2⟩
 case h_2 t d ho hd=>
  simp only[ho,hd]
  split at h
  ·rename_i hA
   obtain⟨h1,h2⟩:=gz h
   simp only[eb,aU,ay]at h2
   rw[vaA (by simpa using hA)]
   exact⟨h1,_,h2⟩
  ·rename_i hA
   rw[vaz (by simpa using hA)]
   have:=gW h
   rw[ho,hd]at this
   exact this
 case h_3 v d ho hd=>
  simp only[ho,hd]
  split at h
  ·rename_i e he
   obtain⟨h1,h2⟩:=gz h
   simp only[aU,ay]at h2
   simp only[he]
   exact⟨h1,_,h2⟩
  ·rename_i he
   simp only[he]
   have:=gW h
   rw[ho,hd]at this
   exact this
 case h_4 v d ho hd=>
  simp only[ho,hd]
  split at h
  ·rename_i e he
   obtain⟨h1,h2⟩:=gz h
   simp only[aU,ay]at h2
   simp only[he]
   exact⟨h1,_,h2⟩
  ·rename_i he
   simp only[he]
   have:=gW h
   rw[ho,hd]at this
   exact this
 case h_5 t i d ho hd=>
  obtain⟨h1,h2⟩:=gz h
  rw[eb]at h2
  obtain⟨p,h3,h4⟩:=po h2
  simp only[aU,ay]at h4
  simp only[ho,hd,h3]
  exact⟨h1,_,h4⟩
 case h_6 T len parts d ho hd=>
  obtain⟨h1,h2⟩:=gz h
  rw[jQ]at h2
  split at h2
  ·rename_i p sc' e hu
   obtain⟨h3,h4⟩:=h2
   simp only[aU,ay]at h4
   simp only[ho,hd,h3,hu]
   exact⟨h1,_,h4⟩
  ·exact h2.elim
 case h_7 t y T T' d ho hd=>
  obtain⟨h1,h2⟩:=gz h
  rw[eb,bo]at h2
  split at h2
  ·rename_i es ns p sc' e he hn hu
   split at h2
   ·rename_i hc
    simp only[vae,vam]at hc
    obtain⟨h3,h4⟩:=h2
    simp only[aU,ay]at h4
    simp only[ho,hd,hu,he,hn,h3]
    exact⟨hc.1,h1,hc.2,_,h4⟩
   ·exact h2.elim
  ·exact h2.elim
 case h_8 T x d ho hd=>
  simp only[ho,hd]
  split at h
  ·rename_i hA
   obtain⟨h1,h2⟩:=gz h
   rw[bo]at h2
   rw[vaA (by simpa using hA)]
   split at h2
   ·rename_i i off e hx hu
    obtain⟨B,hB,h2⟩:=cF h2
    split at h2
    ·rename_i cs own
     split at h2
     ·rename_i hc
      simp only[vae,vam]at hc
      simp only[eb,aU,ay]at h2
      have hget:cs[off]? =some (cs.getD off .undef):=by
       rw[vao,vaa hc.2];rfl
      simp only[hx,hu,hB,hget]
      exact⟨h1,hc.1,_,h2⟩
     ·exact h2.elim
    ·exact h2.elim
   ·exact h2.elim
  ·rename_i hA
   rw[vaz (by simpa using hA)]
   have:=gW h
   rw[ho,hd]at this
   exact this
 case h_9 T x t ho=>
  simp only[ho]
  split at h
  ·rename_i y e hf
   rw[bo,eb]at h
   simp only[hf]
   unfold CM at h
   split at h
   ·rename_i i off hx
    split at h
    ·rename_i H hst
     obtain⟨B,hB,h⟩:=cF h
     split at h
     ·rename_i cs own
      split at h
      ·rename_i hone
       simp only[aU,ay,mZ]at h
       simp only[hx,hst,hB,hone]
       exact⟨_,h⟩
      ·exact h.elim
     ·exact h.elim
    ·exact h.elim
   ·exact h.elim
  ·rename_i hf
   simp only[hf]
   have:=gW h
   rw[ho]at this
   exact this
 case h_10=>
  have:=gW h
  split
  all_goals first
   |exact this
   |(exfalso;simp_all;done)
   |(exfalso;simp_all;rename_i hx h1 h2;exact hx _ _ _ _ rfl rfl rfl rfl)
   |(exfalso;simp_all;rename_i hx h1 h2;exact hx _ _ _ _ _ rfl rfl rfl rfl rfl)
   |(exfalso;simp_all;rename_i hx h1 h2;exact hx _ _ _ rfl rfl rfl)
theorem wd{j:Nat}{want:Bool}{pos:Nat}{sc:List It}{st:ax}{go:Bool->List It->ax->Prop}(h:BG ops j want pos sc st go):∃x,nZ ops st.tmps j=some x/\((x=some want/\∃sc',go true sc' st)\/(x≠some want/\∃sc',go false sc' st)):=by
 unfold BG at h
 split at h
 ·exact h.elim
 ·rename_i t ht
  rw[eb]at h
  have hget:∀{p},st.tmps.getD t .undef=p->p≠.undef->st.tmps[t]? =some p:=by
   intro p hp hne
   rw[vao]at hp
   cases hx:st.tmps[t]? with
   |none=>rw[hx]at hp;exact absurd hp.symm hne
   |some q=>rw[hx]at hp;exact vbo some hp
  have hfin:∀(x:Bool) sc',go (x==want) sc' st->(some x=some want/\∃sc',go true sc' st)\/(some x≠some want/\∃sc',go false sc' st):=by
   intro x sc' hg
   cases x<;>cases want<;>simp at hg ⊢<;>exact⟨sc',hg⟩
  split at h
  ·rename_i x hp
   have hx:=hget hp (by simp)
   have hg:nZ ops st.tmps j=some (some x):=by unfold nZ;simp only[ht,hx]
   refine⟨_,hg,?_⟩
   split at h
   ·rename_i pos' b sc'
    split at h
    ·obtain⟨rfl,h⟩:=h
     rw[aU,yQ hx]at h
     exact hfin x sc' h
    ·exact hfin x _ h
   ·exact hfin x _ h
  ·rename_i v hp
   have hx:=hget hp (by simp)
   split at h
   ·exact h.elim
   ·rename_i hb
    refine⟨none,?_,.inr ⟨by simp,_,h⟩⟩
    unfold nZ
    simp only[ht,hx]
    cases v<;>simp[Vx]at hb<;>rfl
  ·exact h.elim
theorem EH{o:Oper}{id:Nat}{sc:List It}{st:ax}{K:List It->ax->Prop}(h:BI P GE A o id sc st K):uk P GE A o id (λst'=>∃sc',K sc' st') st:=by
 unfold BI at h
 split at h
 ·rename_i T parts p L sc' ho
  split at h
  ·rename_i d hd
   obtain⟨h1,h2⟩:=gz h
   rw[jQ]at h2
   obtain⟨h3,h4,h5⟩:=h2
   simp only[aU,ay]at h5
   refine .inr (.inl ?_)
   unfold DA
   simp only[ho,hd]
   exact⟨p,L,h3,h4,h1,sc',h5⟩
  ·exact h.elim
 ·rename_i T x t vs sc' ho
  rw[eb]at h
  split at h
  ·rename_i l hl
   split at h
   ·rename_i hd
    rw[bo]at h
    split at h
    ·rename_i i off hx
     rw[ay]at h
     obtain⟨rfl,h⟩:=h
     obtain⟨B,hB,h⟩:=cF h
     split at h
     ·rename_i cs own
      split at h
      ·rename_i hc
       simp only[aU,ay]at h
       simp only[vae,vam]at hc
       obtain⟨⟨⟨⟨c1,c2⟩,c3⟩,c4⟩,c5⟩:=hc
       refine .inr (.inl ?_)
       unfold DA
       simp only[ho,hd]
       have hi:=ag hB
       refine⟨i,off,st.boxes.set i (.cells (cs.take off++l++cs.drop (off+l.length)) (own.filter λy=>y.1<off||off+l.length<=y.1)),_,_,AR t st.own,l,hx,hl,?_,vag hi,λy hy=>uZ hy,iN c1,sc',?_⟩
       ·simp only[dh,bu,hB]
        rw[vaA ⟨c2,c3,c4,c5⟩]
       ·rw[vbH];exact h
      ·exact h.elim
     ·exact h.elim
    ·exact h.elim
   ·exact h.elim
  ·exact .inl (rr h)
 ·rename_i T x l sc' ho
  split at h
  ·rename_i fs hT
   split at h
   ·rename_i d hd
    obtain⟨h1,h⟩:=gz h
    rw[bo]at h
    split at h
    ·rename_i i off hx
     obtain⟨B,hB,h⟩:=cF h
     split at h
     ·rename_i cs own
      obtain⟨h2,h⟩:=h
      rw[ay]at h
      split at h
      ·rename_i hn
       simp only[aU,ay]at h
       refine .inr (.inl ?_)
       unfold DA
       simp only[ho,hd]
       have hlen:l.length=P.cellsOf T:=by
        have hp:=h2
        unfold aO at hp
        rw[hT]at hp
        simp only at hp
        split at hp
        ·rename_i hh;cases hp;rw[vaN];omega
        ·cases hp
       exact⟨i,off,cs,own,_,l,⟨fs,hT⟩,hx,hB,h2,λy hy=>(uY hy).1,iN hn,λy hy=>by rw[hlen];exact(uY hy).2,h1,sc',h⟩
      ·exact h.elim
     ·exact h.elim
    ·exact h.elim
   ·exact h.elim
  ·exact .inl (rr h)
 ·rename_i T x vs sc' ho
  split at h
  ·rename_i d hd
   obtain⟨h1,h⟩:=gz h
   rw[bo]at h
   obtain⟨h2,h⟩:=h
   simp only[aU,ay]at h
   refine .inr (.inl ?_)
   unfold DA
   simp only[ho,hd]
   exact⟨vs,h2,h1,sc',h⟩
  ·exact h.elim
 ·rename_i f args tys c sc' ho
  split at h
  ·rename_i d hd
   obtain⟨h1,h⟩:=gz h
   obtain⟨H',h2,h3⟩:=ly h
   simp only[aU,ay]at h3
   refine .inr (.inl ?_)
   unfold DA
   simp only[ho,hd]
   exact⟨c.r,c.ro,H',c.oa,h2,h1,sc',h3⟩
  ·exact h.elim
 ·rename_i f args tys c sc' ho
  split at h
  ·rename_i d hd
   obtain⟨h1,h⟩:=gz h
   refine .inr (.inr (.inr (.inl ?_)))
   exact EE ho hd h1 h
  ·exact h.elim
 ·rename_i t y T T' i e n cs sc' ho
  split at h
  ·rename_i d hd
   have hh:=gz h
   clear h
   obtain⟨h1,h⟩:=hh
   rw[eb,bo]at h
   split at h
   ·rename_i ns he hn
    split at h
    ·rename_i hc
     simp only[vae,vam]at hc
     obtain⟨⟨rfl,c2⟩,rfl⟩:=hc
     obtain⟨h2,⟨p,h3⟩,⟨rfl,rfl⟩,h4⟩:=h
     simp only[aU,ay,Bu,ay]at h4
     refine .inr (.inr (.inl ?_))
     unfold Ki
     simp only[ho,hd]
     exact⟨e,ns,p,vzz,h2,he,hn,h3,c2,h1,sc',h4⟩
    ·exact h.elim
   ·exact h.elim
  ·exact h.elim
 ·rename_i f x tys i e n cs sc' ho
  split at h
  ·rename_i d hd
   have hh:=gz h
   clear h
   obtain⟨h1,h⟩:=hh
   rw[bo,bo]at h
   split at h
   ·rename_i g ns hg hn
    split at h
    ·rename_i hc
     simp only[vam]at hc
     subst hc
     obtain⟨h2,⟨h3,h4,h5⟩,⟨rfl,rfl⟩,h6⟩:=h
     simp only[aU,ay,Bu,ay]at h6
     refine .inr (.inr (.inl ?_))
     unfold Ki
     simp only[ho,hd]
     exact⟨g,e,ns,hg,h2,hn,h3,h4,h5,h1,sc',h6⟩
    ·exact h.elim
   ·exact h.elim
  ·exact h.elim
 ·rename_i T x v i0 e n0 cs0 sc' ho
  split at h
  ·rename_i hd hv
   have hv':v=.slice none 0 0:=by
    unfold iv at hv
    split at hv
    ·rfl
    ·cases hv
   subst hv'
   rw[bo,bo]at h
   split at h
   ·rename_i i off vs hx hpc
    obtain⟨B,hB,h⟩:=cF h
    split at h
    ·rename_i cs own
     split at h
     ·rename_i hc
      simp only[aU,ay]at h
      simp only[vae,vam]at hc
      obtain⟨⟨⟨c2,c3⟩,c4⟩,c5⟩:=hc
      refine .inr (.inr (.inl ?_))
      unfold Ki
      simp only[ho,hd]
      have hi:=ag hB
      refine⟨i,off,e,st.boxes.set i (.cells (cs.take off++vs++cs.drop (off+vs.length)) (own.filter λy=>y.1<off||off+vs.length<=y.1)),_,_,vzz,hx,?_,vag hi,sc',?_⟩
      ·simp only[dh,hpc,hB]
       rw[vaA ⟨c2,c3,c4,c5⟩]
      ·rw[vbH];exact h
     ·exact h.elim
    ·exact h.elim
   ·exact h.elim
  ·exact h.elim
 ·rename_i T t vs sc' ho
  split at h
  ·rename_i d hd
   obtain⟨h1,h⟩:=gz h
   rw[eb]at h
   split at h
   ·rename_i l hl
    rw[ay]at h
    obtain⟨rfl,h⟩:=h
    split at h
    ·rename_i hn
     simp only[aU,ay]at h
     refine .inr (.inr (.inr (.inr (.inl ?_))))
     unfold PO
     simp only[ho,hd]
     rw[vae]at hn
     exact⟨l,AR t st.own,hl,hn.2,λy hy=>uZ hy,iN hn.1,h1,sc',h⟩
    ·exact h.elim
   ·exact h.elim
  ·exact h.elim
 ·rename_i T vs sc' ho
  split at h
  ·rename_i d hd
   obtain⟨h1,h2,h⟩:=gz h
   simp only[aU,ay]at h
   refine .inr (.inr (.inr (.inr (.inl ?_))))
   unfold PO
   simp only[ho,hd]
   exact⟨vs,h2,h1,sc',h⟩
  ·exact h.elim
 ·rename_i t y T T' ps sc' ho
  split at h
  ·rename_i d p hd
   have hh:=gz h
   clear h
   obtain⟨h1,h⟩:=hh
   rw[eb,bo]at h
   split at h
   ·rename_i es s e he hn hT
    split at h
    ·rename_i hc
     simp only[vam]at hc
     obtain⟨h2,h3⟩:=h
     simp only[aU,ay]at h3
     refine .inr (.inr (.inr (.inr (.inl ?_))))
     unfold PO
     simp only[ho,hd]
     exact⟨es,s,e,p,he,hn,hT,hc,h2,h1,sc',h3⟩
    ·exact h.elim
   ·rename_i es ns e he hn hT
    split at h
    ·rename_i hc
     simp only[vae,vam]at hc
     obtain⟨h2,h3⟩:=h
     simp only[aU,ay]at h3
     refine .inr (.inr (.inr (.inr (.inr ?_))))
     unfold Qk
     simp only[ho,hd]
     exact⟨es,ns,e,p,he,hn,hc.1,hT,hc.2,h2,h1,sc',h3⟩
    ·exact h.elim
   ·exact h.elim
  ·exact h.elim
 ·rename_i T t lo ps sc' ho
  split at h
  ·rename_i d p hd
   have hh:=gz h
   clear h
   obtain⟨h1,h⟩:=hh
   rw[eb,bo]at h
   split at h
   ·rename_i es e he hT
    split at h
    ·rename_i hc
     simp only[vae,vaZ,vam]at hc
     obtain⟨h2,h3⟩:=h
     simp only[aU,ay]at h3
     refine .inr (.inr (.inr (.inr (.inr ?_))))
     unfold Qk
     simp only[ho,hd]
     exact⟨es,e,p,he,hT,h2,hc.1,hc.2,h1,sc',h3⟩
    ·exact h.elim
   ·exact h.elim
  ·exact h.elim
 ·exact .inl (rr h)
theorem ul{o:Oper}{id:Nat}{K K':ax->Prop}{st:ax}(hk:∀st,K st->K' st)(h:uk P GE A o id K st):uk P GE A o id K' st:=by
 rcases h with h|h|h|h|h|h
 ·exact .inl (Kk hk h)
 rotate_left 2
 ·exact .inr (.inr (.inr (.inl (Mt hk h))))
 ·exact .inr (.inr (.inr (.inr (.inl (N3 hk h)))))
 ·exact .inr (.inr (.inr (.inr (.inr (Oh hk h)))))
 rotate_left
 ·refine .inr (.inr (.inl ?_))
  unfold Ki at *
  split at h
  ·obtain⟨e,ns,p,h1,h2,h3,h4,h5,h6,h7,h8⟩:=h;exact⟨e,ns,p,h1,h2,h3,h4,h5,h6,h7,hk _ h8⟩
  ·obtain⟨g,e,ns,h1,h2,h3,h4,h5,h6,h7,h8⟩:=h;exact⟨g,e,ns,h1,h2,h3,h4,h5,h6,h7,hk _ h8⟩
  ·obtain⟨i,off,e,H,cs,own,h1,h2,h3,h4,h5⟩:=h;exact⟨i,off,e,H,cs,own,h1,h2,h3,h4,hk _ h5⟩
  ·exact h
 ·refine .inr (.inl ?_)
  unfold DA at *
  split at h
  ·obtain⟨p,L,h1,h2,h3,h4⟩:=h;exact⟨p,L,h1,h2,h3,hk _ h4⟩
  ·obtain⟨i,off,H,cs,own,L,l,h1,h2,h3,h4,h5,h6,h7⟩:=h;exact⟨i,off,H,cs,own,L,l,h1,h2,h3,h4,h5,h6,hk _ h7⟩
  ·obtain⟨i,off,cs,own,L,l,h0,h1,h2,h3,h4,h5,h6,h7,h8⟩:=h;exact⟨i,off,cs,own,L,l,h0,h1,h2,h3,h4,h5,h6,h7,hk _ h8⟩
  ·obtain⟨vs,h1,h2,h3⟩:=h;exact⟨vs,h1,h2,hk _ h3⟩
  ·obtain⟨r,ro,H',oa,h1,h2,h3⟩:=h;exact⟨r,ro,H',oa,h1,h2,hk _ h3⟩
  ·exact h
theorem rq{K:List It->ax->Prop}:∀(rest:List Oper) (pos id:Nat) (sc:List It) (st:ax),CL P GE A ops K rest pos id sc st->dT P GE A ops (λst=>∃sc,K sc st) rest id st
 |[],_,_,sc,st,h=>⟨sc,h⟩
 | o :: rest,pos,id,sc,st,h => by
  simp only[CL]at h
  have step:∀sc st,BI P GE A o id sc st (λsc' st'=>CL P GE A ops K rest (pos+1) (id+if au o.op then 1 else 0) sc' st')->uk P GE A o id (dT P GE A ops (λst=>∃sc,K sc st) rest (id+if au o.op then 1 else 0)) st:=
   λsc st hs=>ul (λst' hx=>by obtain⟨sc',hx⟩:=hx;exact rq rest _ _ sc' st' hx) (EH hs)
  unfold dT
  split at h
  ·rename_i hg;simp only[hg];exact step _ _ h
  ·rename_i j want hg
   obtain⟨x,hx,hc⟩:=wd h
   simp only[hg,hx]
   rcases hc with⟨rfl,sc',hc⟩|⟨hne,sc',hc⟩
   ·exact⟨λ_=>step _ _ hc,λhn=>absurd rfl hn⟩
   ·refine⟨λhe=>absurd he hne,λ_=>?_⟩
    simp only[mZ]at hc
    exact rq rest _ _ sc' _ hc
end
end Go.Proofs.YtjddnhkahpfhdaaGreatDoor
