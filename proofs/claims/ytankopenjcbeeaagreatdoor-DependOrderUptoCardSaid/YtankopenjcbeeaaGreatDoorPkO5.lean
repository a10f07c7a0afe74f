/- PROVED: a part of the proof. Conditions: none. -/
import Derived.Test.YtankopenjcbeeaaGreatDoorPkO4
set_option linter.unusedSimpArgs false set_option linter.defProp false
set_option linter.unusedVariables false
noncomputable section
namespace Go.Proofs.YtankopenjcbeeaaGreatDoor
open Go
open Option renaming some→O,none→N
open Go renaming TypeId→G,Value→D,Program→I,Oper→M,World→J,Code→W
open Bool renaming true→T,false→Z
open Decidable renaming decide→Y
open YtankopenjcbeeaaGreatDoor renaming PVal→U
structure GC where
 ρ:List Nat
 argsC:List PVal
 oa:List OA
 Bs:List ay
 Hc:List ay
 Bs':List ay
 Hc':List ay
 r:PVal
 rc:PVal
 ro:List (Nat×TypeId)
inductive It where
 |cg (c:GC)
 |cn (c:GC)
 |ar (i:Nat) (e:TypeId) (n:Nat) (cs:List PVal)
 |fz (i:Nat) (es:List (List PVal)) (lv rk:List Nat)
 |g (j:Nat) (b:Bool)
 |k
 |s
 |v (p:PVal)
 |x (cs:List PVal)
 |w (i:Nat) (B:ay)
 |c (r:PVal) (ro:List (Nat×TypeId))
 |dr (an:List Nat)
 |dx (an:List Nat) (X:List ay) (br:List (Nat×Nat)) (rw:List Nat)
 |pa (n:Nat)
 |pc (st0:az) (e:Exit) (st1:az)
 |b (p:PVal) (L:List (Nat×TypeId))
 |y (vs:List PVal)
 |z (l:List PVal)
 |e (vs:List PVal)
 |sh (t k:Nat) (e:TypeId)
def zm:List U->Nat->(U->Prop)->Prop|[],_,k=>k .undef|p::_,0,k=>k p|_::l,n+1,k=>zm l n k
theorem gW:∀(l:V U)(n:Nat)(k:U->Prop),zm l n k=k (l.getD n .undef)
 |[],_,_=>by simp[zm]
 |_::_,0,_=>by simp[zm]
 |_::l,n+1,k=>by simp only[zm,gW l n k,List.getD_cons_succ]
def fX{α:Type}:List α->Nat->α->(List α->Prop)->Prop|[],_,_,k=>k []|_::l,0,v,k=>k (v::l)|x::l,n+1,v,k=>fX l n v λa=>k (x::a)
theorem bJ{α:Type}:∀(l:V α)(n:Nat)(v:α)(k:V α->Prop),fX l n v k=k (l.set n v)
 |[],_,_,_=>by simp[fX]
 |_::_,0,_,_=>by simp[fX]
 |x::l,n+1,v,k=>by simp only[fX,bJ l n v,List.set_cons_succ]
def bA{α:Type}:List α->(List α->Prop)->Prop|[],k=>k []|x::l,k=>bA l λa=>k (x::a)
def TJ(l r:V ay)(k:V ay->Prop):Prop:=bA (l++r) k
theorem aN{α:Type}:∀(l:V α)(k:V α->Prop),bA l k=k l
 |[],_=>rfl
 |x::l,k=>by simp only[bA,aN l]
def qnb:D->(U->Prop)->Prop|.int a n,k=>k (.int a n)|.bool b,k=>k (.bool b)|.string s,k=>bA s.data.toList λl=>k (.str l)|v,k=>k (absV v)
def qkI(v:D)(k:U->Prop):qnb v k=k (absV v):=by
 unfold qnb;split;.rfl
 .rfl
 .rw[aN];rfl
 .rfl
def rD(GE:V (Nat×V U))(a:V U)(x:Operand)(k:U->Prop):Prop:=match x with|.tmp t=>zm a t k|.const v=>qnb v k|x=>k (opv GE a x)
def bY(GE:V (Nat×V U))(a:V U)(x:Operand)(k:U->Prop):rD GE a x k=k (opv GE a x):=by cases x with|tmp t=>exact gW _ _ _|const v=>exact qkI _ _|global g=>rfl|func f=>rfl
def V7(GE:List (Nat×List U))(a:List U):List Operand->(List U->Prop)->Prop|[],k=>k []|x::l,k=>rD GE a x λp=>V7 GE a l λb=>k (p::b)
def oS(GE:List (Nat×List U))(a:List U):∀(l:List Operand)(k:List U->Prop),V7 GE a l k=k (l.map (opv GE a))
 |[],_=>rfl
 |x::l,k=>by simp only[V7,bY,oS GE a l,ox]
def Fc(GE:List (Nat×List U))(a:List U):List (Nat×Operand)->(List (Nat×U)->Prop)->Prop|[],k=>k []|x::l,k=>rD GE a x.2 λp=>Fc GE a l λb=>k ((x.1,p)::b)
theorem tU(GE:V (Nat×V U))(a:V U):∀(l:V (Nat×Operand))(k:V (Nat×U)->Prop),Fc GE a l k=k (l.map λx=>(x.1,opv GE a x.2))
 |[],_=>rfl
 |x::l,k=>by simp only[Fc,bY,tU GE a l,ox]
def qlL(GE:V (Nat×V U))(a:V U):Q Operand->(Q U->Prop)->Prop|none,k=>k N|some x,k=>rD GE a x λp=>k (O p)
def qlM(GE:V (Nat×V U))(a:V U)(o:Q Operand)(k:Q U->Prop):qlL GE a o k=k (o.map (opv GE a)):=by cases o with|none=>rfl|some x=>simp only[qlL,bY,or]
def O9(sc:V It)(f:U->Prop)(a:U->V It->Prop):Prop:=match sc with|.v p::sc'=>f p/\a p sc'|_=>False
def Xg(o:Q U)(a:U->Prop):Prop:=match o with|some p=>a p|none=>False
theorem D9{o:Q U}{a:U->Prop}(h:Xg o a):∃p,o=O p/\a p:=by
 unfold Xg at h;split at h;.exact⟨_,rfl,h⟩
 .exact h.elim
def qx{sc:V It}{f:U->Prop}{a:U->V It->Prop}(h:O9 sc f a):∃p sc',f p/\a p sc':=by
 unfold O9 at h;split at h;.exact⟨_,_,h⟩
 .exact h.elim
def CC(P:I)(GE:V (Nat×V U))(g:FuncId)(a:V U)(r:U)(b:V (Nat×G)):Prop:=ie 0 a/\C P GE g a [] [] r b []
def Oz(P:I)(t:G)(a:V (U×U))(k:U)(ok:K):Q U:=match P.underlying t with
 | some (.map kt e) => match P.underlying kt with
  | some kd =>if oQ kd k then match Lj k a 0,LA P e with|some (O (_,v)),_=>O (if ok then .tuple [v,.bool T]else v)|some N,O z=>O (if ok then .tuple [z,.bool Z]else z)|_,_=>N else N
  |_=>N
 |_=>N
def qg1{P:I}{t:G}{a:V (U×U)}{k p:U}{ok:K}{H:V ay}{i:Nat}(b:H[i]? =O (.map a))(h:Oz P t a k ok=O p):Eg P t (.mapr i) k ok H=O p:=by
 unfold Oz at h;unfold Eg;split at h
 .rename_i o e d;split at h;.rename_i m c;simp only[d,b,c];exact h
  .cases h
 .cases h
def Yy(P:I)(t:G)(a:V (U×U))(k v:U):Q (V (U×U)):=match P.underlying t with
 | some (.map kt _) => match P.underlying kt with
  | some kd =>if oQ kd k then match Lj k a 0 with|some (O (j,_))=>O (a.set j (k,v))|some N=>O (a++[(k,v)])|none=>N else N
  |_=>N
 |_=>N
def qce{P:I}{t:G}{d a:V (U×U)}{k v:U}{H:V ay}{i:Nat}(m:H[i]? =O (.map d))(h:Yy P t d k v=O a):jO P t (.mapr i) k v H=O (H.set i (.map a)):=by
 unfold Yy at h;unfold jO;split at h
 .rename_i r e p;split at h
  .rename_i q o;simp only[p,m,o];split at h
   .rename_i c;rw[l7 c];split at h;.rename_i b;cases h;simp[b]
    .rename_i b;cases h;simp[b]
    .cases h
   .cases h
  .cases h
 .cases h
def oP:List ay->Nat->(ay->Prop)->Prop|[],_,_=>False|B::_,0,k=>k B|_::l,n+1,k=>oP l n k
theorem eU:∀{l:V ay}{n:Nat}{k:ay->Prop},oP l n k->∃B,l[n]? =O B/\k B
 |[],_,_,h=>h.elim
 |B::_,0,_,h=>⟨B,rfl,h⟩
 |_::l,n+1,k,h=>by simp only[oP]at h;let⟨B,a,b⟩:=eU h;exact⟨B,by simpa using a,b⟩
def qgj(a:BinOp)(x:U):K:=match a,x with|.quo,_=>T|.rem,_=>T|.add,.str _=>T|_,.agg _=>T|_,_=>Z
def qeL(P:I)(GE:V (Nat×V U))(q:Op)(a:V U)(H:V ay)(sc:V It)(a0:U->V ay->V It->Prop):Prop:=
 match q with
 |.move x=>rD GE a x λp=>a0 p H sc
 |.assign x=>rD GE a x λp=>a0 p H sc
 |.pick c x y=>rD GE a c λS=>match S with
  |.bool T=>rD GE a x λp=>a0 p H sc
  |.bool Z=>rD GE a y λp=>a0 p H sc
  |_=>False
 |.binOp q a1 x y _=>rD GE a x λe=>rD GE a y λz=>match qgj q e with
  |true=>O9 sc (λp=>qdT P q a1 e z=O p) λp b=>a0 p H b
  |false=>Xg (qdT P q a1 e z) λp=>a0 p H sc
 |.unOp q _ x=>rD GE a x λe=>Xg (qrF q e) λp=>a0 p H sc
 |.convert s d x=>rD GE a x λe=>O9 sc (λp=>Yw P s d e=O p) λp b=>a0 p H b
 |.extract t i=>rD GE a t λvt=>Xg (Cg vt i) λp=>a0 p H sc
 |.nilCheck x=>rD GE a x λe=>match e with
  |.eptr cs=>a0 (.eptr cs) H sc
  |.bptr i off=>a0 (.bptr i off) H sc
  |.func (.func f) first cap=>a0 (.func (.func f) first cap) H sc
  |_=>False
 |.makeFunc fn first cap=>V7 GE a first.toList λf=>V7 GE a cap.toList λc=>a0 (.func fn f c) H sc
 | .load t x => rD GE a x fun e => match e with
  |.eptr cs=>O9 sc (λp=>cO P t cs=O p) λp b=>a0 p H b
  | .bptr i off => oP H i fun B => match B with
   |.cells cs _=>match sc with
    |.s::b=>Xg (cO P t (cs.drop off)) λp=>a0 p H b
    |.v p::b=>cO P t (cs.drop off)=O p/\a0 p H b
    |_=>False
   |_=>False
  |_=>False
 | .store t x y => rD GE a x fun e => rD GE a y fun z => match e,sc with
  | .bptr i off,.s :: b => match bF z with
   | some vs => oP H i fun B => match B with
    |.cells cs own=>match Y (vs.length=P.cellsOf t)&&(P.info? t).isSome&&Y (off+vs.length<=cs.length)&&vs.all PVal.one with
     |true=>bA (cs.take off++vs++cs.drop (off+vs.length)) λh=>fX H i (.cells h (own.filter λy=>y.1<off||off+vs.length<=y.1)) λo=>a0 (.val undef) o b
     |false=>False
    |_=>False
   |none=>False
  | .bptr i off,.x vs :: b => bF z = O vs∧(oP H i fun B => match B with
    |.cells cs own=>match Y (vs.length=P.cellsOf t)&&(P.info? t).isSome&&Y (off+vs.length<=cs.length)&&vs.all PVal.one with
     |true=>bA (cs.take off++vs++cs.drop (off+vs.length)) λh=>fX H i (.cells h (own.filter λy=>y.1<off||off+vs.length<=y.1)) λo=>a0 (.val undef) o b
     |false=>False
    |_=>False)
  |.bptr i off,.w _ (.cells h own')::b=>oP H i λB=>(fE P t (.bptr 0 off) z [B]=O [.cells h own'])/\fX H i (.cells h own') λo=>a0 (.val undef) o b
  |_,_=>False
 |.fieldAddr s x f=>rD GE a x λe=>match e with
  |.bptr i off=>Xg (nl P s (.bptr i off) f) λp=>a0 p H sc
  |e=>O9 sc (λp=>nl P s e f=O p) λp b=>a0 p H b
 |.field t x f=>rD GE a x λe=>O9 sc (λp=>qai P t e f=O p) λp b=>a0 p H b
 |.indexAddr t x i=>rD GE a x λe=>rD GE a i λE=>O9 sc (λp=>nn P t e E=O p) λp b=>a0 p H b
 |.index t x i=>rD GE a x λe=>rD GE a i λE=>O9 sc (λp=>Ia P t e E=O p) λp b=>a0 p H b
 | .lookup t m k ok => rD GE a m fun L => rD GE a k fun F => match L with
  |.mapr i=>oP H i λB=>match B with
   |.map es=>O9 sc (λp=>Oz P t es F ok=O p) λp b=>a0 p H b
   |_=>False
  |_=>False
 | .mapUpdate t m k x => rD GE a m fun L => rD GE a k fun F => rD GE a x fun e => match L,sc with
  |.mapr i,.w _ (.map es')::b=>oP H i λB=>match B with
   |.map es=>Yy P t es F e=O es'/\fX H i (.map es') λo=>a0 (.val undef) o b
   |_=>False
  |_,_=>False
 |.slice t x lo hi N=>rD GE a x λe=>qlL GE a lo λvl=>qlL GE a hi λX=>O9 sc (λp=>xo P t e vl X N=O p) λp b=>a0 p H b
 |.build t parts=>Fc GE a parts.toList λA=>O9 sc (λp=>dF P t A=O p) λp b=>a0 p H b
 |.buildSlice t len parts=>Fc GE a parts.toList λA=>O9 sc (λp=>gu P t len A=O p) λp b=>a0 p H b
 | .call { callee := .builtin .len,args:=⟨[x]⟩,argTypes:=⟨[t]⟩ } => rD GE a x fun e => match e with
  |.mapr i=>oP H i λB=>match B with
   |.map es=>O9 sc (λp=>p=.int .i64 es.length/\(P.underlying t).any (λd=>match d with|.map _ _=>T|_=>Z)=T) λp b=>a0 p H b
   |_=>False
  |e=>O9 sc (λp=>∀H,Oy P t e H=O p) λp b=>a0 p H b
 |.call {callee:=.builtin .max,args:=⟨x::r⟩,..}=>rD GE a x λe=>V7 GE a r λR=>Xg (Tg qff e R) λp=>a0 p H sc
 |.call {callee:=.builtin .min,args:=⟨x::r⟩,..}=>rD GE a x λe=>V7 GE a r λR=>Xg (Tg qfg e R) λp=>a0 p H sc
 |_=>False
section
variable{P:I}{GE:V (Nat×V U)}
def qg9{t:G}{c i:Nat}{y:U}{H:V ay}{B:ay}{b:V U}{a:V (Nat×G)}(o:H[i]? =O B)(h:fE P t (.bptr 0 c) y [B]=O [.cells b a]):fE P t (.bptr i c) y H=O (H.set i (.cells b a)):=by
 unfold fE at h ⊢;split at h
 .rename_i r d s e m;cases e;simp only[m];change (match(O B:Q ay)with|some (.cells cs own)=>_|_=>N)=_ at h;rw[o];split at h
  .rename_i p;cases p;simp only;split at h;.rename_i q;rw[l7 q];simp only[List.set_cons_zero,FS,vbQ,vcm]at h;rw[h]
   .cases h
  .cases h
 .cases h
def qjD(t:G)(id:Nat)(v:Operand->U)(x:Operand)(H:V ay):yM P (.load t x) id v H=(mt P t (v x) H).map λp=>(p,H):=rfl
def S4{R:Op}{id:Nat}{s:V U}{H:V ay}{sc:V It}{a1:U->V ay->V It->Prop}(h:qeL P GE R s H sc a1):∃p A a,yM P R id (opv GE s) H=O (p,A)/\a1 p A a/\A.length=H.length:=by
 unfold qeL at h;split at h;case h_1=>rw[bY]at h;exact⟨_,_,_,rfl,h,rfl⟩
 case h_2=>rw[bY]at h;exact⟨_,_,_,rfl,h,rfl⟩
 case h_3 c x y=>
  rw[bY]at h
  split at h
  .rename_i q;rw[bY]at h;exact⟨_,_,_,by simp only[yM,q],h,rfl⟩
  .rename_i q;rw[bY]at h;exact⟨_,_,_,by simp only[yM,q],h,rfl⟩
  .exact h.elim
 case h_4=>
  simp only[bY]at h
  split at h
  .let⟨p,a,b,e⟩:=qx h;exact⟨p,_,a,by simp only[yM,b,or],e,rfl⟩
  .let⟨p,b,e⟩:=D9 h;exact⟨p,_,_,by simp only[yM,b,or],e,rfl⟩
 case h_5=>simp only[bY]at h;let⟨p,b,e⟩:=D9 h;exact⟨p,_,_,by simp only[yM,b,or],e,rfl⟩
 case h_6=>simp only[bY]at h;let⟨p,a,b,e⟩:=qx h;exact⟨p,_,a,by simp only[yM,b,or],e,rfl⟩
 case h_7=>simp only[bY]at h;let⟨p,b,e⟩:=D9 h;exact⟨p,_,_,by simp only[yM,b,or],e,rfl⟩
 case h_8=>
  simp only[bY]at h
  split at h
  .rename_i o;exact⟨_,_,_,by simp only[yM,o],h,rfl⟩
  .rename_i o;exact⟨_,_,_,by simp only[yM,o],h,rfl⟩
  .rename_i o;exact⟨_,_,_,by simp only[yM,o],h,rfl⟩
  .exact h.elim
 case h_9=>simp only[oS]at h;exact⟨_,_,_,rfl,h,rfl⟩
 case h_10 t x=>
  simp only[bY]at h
  rw[qjD]
  split at h
  .rename_i E o
   let⟨p,a,b,e⟩:=qx h
   exact⟨p,_,a,by simp only[o,mt,b,or],e,rfl⟩
  .rename_i i z o
   let⟨B,r,h⟩:=eU h
   split at h
   .rename_i E own
    split at h
    .let⟨p,b,e⟩:=D9 h
     exact⟨p,_,_,by simp only[o,mt,r,b,or],e,rfl⟩
    .exact⟨_,_,_,by simp only[o,mt,r,h.1,or],h.2,rfl⟩
    .exact h.elim
   .exact h.elim
  .exact h.elim
 case h_11 t x y=>
  simp only[bY]at h
  split at h
  .rename_i i z a o
   split at h
   .rename_i vs w
    let⟨B,r,h⟩:=eU h
    split at h
    .rename_i E own
     split at h
     .rename_i q
      simp only[aN,bJ]at h
      simp only[ne,oy]at q
      exact⟨_,_,_,by simp only[yM,fE,o,w,r];rw[l7 ⟨q.1.1.1,q.1.1.2,q.1.2,q.2⟩];rfl,h,by simp⟩
     .exact h.elim
    .exact h.elim
   .exact h.elim
  .rename_i i z vs a o
   let⟨w,h⟩:=h
   let⟨B,r,h⟩:=eU h
   split at h
   .rename_i E own
    split at h
    .rename_i q
     simp only[aN,bJ]at h
     simp only[ne,oy]at q
     exact⟨_,_,_,by simp only[yM,fE,o,w,r];rw[l7 ⟨q.1.1.1,q.1.1.2,q.1.2,q.2⟩];rfl,h,by simp⟩
    .exact h.elim
   .exact h.elim
  .rename_i i z j X S a o
   let⟨B,r,b,e⟩:=eU h
   rw[bJ]at e
   exact⟨_,_,_,by simp only[yM,o,qg9 r b];rfl,e,by simp⟩
  .exact h.elim
 case h_12=>
  simp only[bY]at h
  split at h
  .rename_i o
   let⟨p,b,e⟩:=D9 h;exact⟨p,_,_,by simp only[yM,o,b,or],e,rfl⟩
  .let⟨p,a,b,e⟩:=qx h;exact⟨p,_,a,by simp only[yM,b,or],e,rfl⟩
 case h_13=>simp only[bY]at h;let⟨p,a,b,e⟩:=qx h;exact⟨p,_,a,by simp only[yM,b,or],e,rfl⟩
 case h_14=>simp only[bY]at h;let⟨p,a,b,e⟩:=qx h;exact⟨p,_,a,by simp only[yM,b,or],e,rfl⟩
 case h_15=>simp only[bY]at h;let⟨p,a,b,e⟩:=qx h;exact⟨p,_,a,by simp only[yM,b,or],e,rfl⟩
 case h_16 t m k ok=>
  simp only[bY]at h
  split at h
  .rename_i i o
   let⟨B,r,h⟩:=eU h
   split at h
   .rename_i F
    let⟨p,a,b,e⟩:=qx h
    exact⟨p,_,a,by simp only[yM,o,qg1 r b,or],e,rfl⟩
   .exact h.elim
  .exact h.elim
 case h_17 t m k x=>
  simp only[bY]at h
  split at h
  .rename_i i j a0 a o
   let⟨B,r,h⟩:=eU h
   split at h
   .rename_i F
    let⟨b,e⟩:=h
    rw[bJ]at e
    exact⟨_,_,_,by simp only[yM,o,qce r b];rfl,e,by simp⟩
   .exact h.elim
  .exact h.elim
 case h_18=>simp only[bY,qlM]at h;let⟨p,a,b,e⟩:=qx h;exact⟨p,_,a,by simp only[yM,b,or],e,rfl⟩
 case h_19=>simp only[tU]at h;let⟨p,a,b,e⟩:=qx h;exact⟨p,_,a,by simp only[yM,b,or],e,rfl⟩
 case h_20=>simp only[tU]at h;let⟨p,a,b,e⟩:=qx h;exact⟨p,_,a,by simp only[yM,b,or],e,rfl⟩
 case h_21 x t=>
  simp only[bY]at h
  split at h
  .rename_i i o
   let⟨B,r,h⟩:=eU h
   split at h
   .rename_i F
    obtain⟨p,a,⟨rfl,b⟩,e⟩:=qx h
    refine⟨_,_,a,?_,e,rfl⟩
    simp only[yM,o,Oy]
    cases L:P.underlying t with
    |none=>rw[L]at b;cases b
    |some d=>
     rw[L]at b
     cases d<;>simp at b
     simp only[r,or]
   .exact h.elim
  .let⟨p,a,b,e⟩:=qx h;exact⟨p,_,a,by simp only[yM,b H,or],e,rfl⟩
 case h_22=>simp only[bY,oS]at h;let⟨p,b,e⟩:=D9 h;exact⟨p,_,_,by simp only[yM,b,or],e,rfl⟩
 case h_23=>simp only[bY,oS]at h;let⟨p,b,e⟩:=D9 h;exact⟨p,_,_,by simp only[yM,b,or],e,rfl⟩
 case h_24=>exact h.elim
end
def XB(a:az)(b:Q Tmp)(p:U)(e:V (Nat×G))(H:V ay)(h:az->Prop):Prop:=match b with|some d=>fX a.tmps d p λtm=>bA ((e.map λx=>((d,x.1),x.2))++bI d a.own) λc=>h ⟨tm,H,c⟩|none=>h ⟨a.tmps,H,a.own⟩
theorem Bn(c:az)(a:Q Tmp)(p:U)(b:V (Nat×G))(H:V ay)(e:az->Prop):XB c a p b H e=e (Fy c a p b H):=by cases a with|none=>rfl|some d=>simp[XB,bJ,aN,Fy]
def qdm(P:I)(GE:V (Nat×V U))(f:Operand)(b:V Operand)(a:V U)(sc:V It)(e:U->V (Nat×G)->V It->Prop):Prop:=
 rD GE a f λd=>match d with
  |.func (.func g) first cap=>V7 GE a b λas=>match sc with
   |.c r ro::sc'=>CC P GE g (first++as++cap) r ro/\e r ro sc'
   |_=>False
  |_=>False
def D0(P:I)(GE:V (Nat×V U))(o:M)(id:Nat)(sc:V It)(c:az)(i:V It->az->Prop):Prop:=match qQ o c.tmps.length with
 |false=>False
 | true => match o.op with
  |.call {callee:=.value f,args,..}=>qdm P GE f args.toList c.tmps sc λr e b=>XB c o.dst r e c.boxes λa=>i b a
  |.alloc t=>match sc with|.x zs::b=>eR P t=O zs/\bA (Tj P t) λd=>fX c.boxes id (.cells zs d) λH=>XB c o.dst (.bptr id 0) [] H λa=>i b a|_=>False
  |.box _ x=>rD GE c.tmps x λh=>match sc with|.x cs::b=>bF h=O cs/\Ot cs=T/\fX c.boxes id (.cells cs []) λH=>XB c o.dst (.bptr id 0) [] H λa=>i b a|_=>False
  |.makeMap _ N=>fX c.boxes id (.map []) λH=>XB c o.dst (.mapr id) [] H λa=>i sc a
  |op=>qeL P GE op c.tmps c.boxes sc λp H b=>XB c o.dst p [] H λa=>i b a
def Xd(n d:Nat)(a:Prop):Prop:=match Y (d<n)with|true=>a|false=>False
theorem ni{n d:Nat}{K:Prop}(h:Xd n d K):d<n/\K:=by grind [Xd]
def Vn(P:I)(c:az)(q e:G)(t:Nat)(b:Q Tmp)(o h:U)(sc:V It)(p:V It->az->Prop):Prop:=match o with
 | .bptr i off => match fE P q (.bptr i off) h c.boxes with
  | some H => oP H i fun B => match B with
   |.cells cs own=>match h.one with|true=>bA cs λa=>fX H i (.cells a ((off,e)::own)) λm=>XB {c with own:=c.own.filter λx=>x.1 !=(t,0)} b (.val undef) [] m λd=>p sc d|false=>False
   |_=>False
  |none=>False
 |_=>False
def Vo(P:I)(GE:V (Nat×V U))(A:V Nat)(o:M)(id:Nat)(sc:V It)(a:az)(w:V It->az->Prop):Prop:=match o.op,o.dst with
 |.assign (.tmp t),O d=>Xd a.tmps.length d (zm a.tmps t λp=>fX a.tmps d p λtm=>bA (ls d (λx=>if x.1=t then(d,x.2)else x) a.own) λb=>w sc ⟨tm,a.boxes,b⟩)
 |.move (.tmp t),O d=>match Y (d∈A)with|true=>Xd a.tmps.length d (zm a.tmps t λp=>fX a.tmps d p λtm=>bA (ls d (λx=>if x.1=t then(d,x.2)else x) a.own) λb=>w sc ⟨tm,a.boxes,b⟩)|false=>D0 P GE o id sc a w
 |.assign (.const v),O d=>match AS P o.type v with|some e=>Xd a.tmps.length d (fX a.tmps d (.slice []) λtm=>bA (((d,0),e)::bI d a.own) λb=>w sc ⟨tm,a.boxes,b⟩)|none=>D0 P GE o id sc a w
 |.move (.const v),O d=>match AS P o.type v with|some e=>Xd a.tmps.length d (fX a.tmps d (.slice []) λtm=>bA (((d,0),e)::bI d a.own) λb=>w sc ⟨tm,a.boxes,b⟩)|none=>D0 P GE o id sc a w
 |.extract (.tmp t) i,O d=>Xd a.tmps.length d (zm a.tmps t λh=>Xg (Cg h i) λp=>fX a.tmps d p λtm=>bA (ls d (λx=>if x=(t,i)then(d,0)else x) a.own) λb=>w sc ⟨tm,a.boxes,b⟩)
 |.buildSlice z len parts,O d=>Xd a.tmps.length d (Fc GE a.tmps parts.toList λq=>match sc,P.underlying z with|.v p::sc',O (.slice e)=>gu P z len q=O p/\fX a.tmps d p λtm=>bA (((d,0),e)::bI d a.own) λb=>w sc' ⟨tm,a.boxes,b⟩|_,_=>False)
 | .call { callee := .builtin .append,args:=⟨[.tmp t,y]⟩,argTypes:=⟨[z,T']⟩ },O d => Xd a.tmps.length d (zm a.tmps t fun r => rD GE a.tmps y fun s => match r,s,sc,P.underlying z with
  |.slice es,.slice ns,.v p::sc',O (.slice e)=>match Y (z=T')&&Y (((t,0),e)∈a.own)with|true=>ji P z es ns=O p/\fX a.tmps d p λtm=>bA (((d,0),e)::bI d (a.own.filter λx=>x.1 !=(t,0))) λb=>w sc' ⟨tm,a.boxes,b⟩|false=>False
  |_,_,_,_=>False)
 | .load z x,O d => match Y (d ∈ A) with
  | true => Xd a.tmps.length d (rD GE a.tmps x fun m => match m,P.underlying z with
   | .bptr i off,O (.slice e) => oP a.boxes i fun B => match B with
    |.cells cs own=>match Y ((off,e)∈own)&&Y (off<cs.length)with|true=>zm cs off λp=>fX a.tmps d p λtm=>bA (own.filter λx=>x.1 !=off) λc=>fX a.boxes i (.cells cs c) λH=>bA (((d,0),e)::bI d a.own) λb=>w sc ⟨tm,H,b⟩|false=>False
    |_=>False
   |_,_=>False)
  |false=>D0 P GE o id sc a w
 |.store z x (.tmp t),_=>match a.own.find? (λy=>y.1==(t,0))with|some (_,e)=>rD GE a.tmps x λm=>zm a.tmps t λh=>Vn P a z e t o.dst m h sc w|none=>D0 P GE o id sc a w
 |_,_=>D0 P GE o id sc a w
def qvy:D->K|.bool _=>T|_=>Z
def Um(d:Array M)(j:Nat)(a:K)(e:Nat)(sc:V It)(c:az)(go:K->V It->az->Prop):Prop:=match(d[j]?).bind (·.dst)with
 |none=>False
 | some t => zm c.tmps t fun p => match p with
  | .bool x => match sc with
   |.g pos' b::sc'=>match pos'==e with|true=>x=b/\fX c.tmps t (.bool b) λtm=>go (b==a) sc' ⟨tm,c.boxes,c.own⟩|false=>go (x==a) sc c
   |_=>go (x==a) sc c
  |.val v=>match qvy v with|true=>False|false=>go Z sc c
  |_=>False
def uR:List Nat->K|[]=>T|x::r=>!(r.contains x)&&uR r
theorem n8:∀{l:V Nat},uR l=T->l.Nodup
 |[],_=>.nil
 |x::r,h=>by simp only[uR,ne,va4,vcO,vbn]at h;simp_all[n8]
def Te(t:Nat)(own:V ((Nat×Nat)×G)):V (Nat×G):=own.filterMap λx=>if x.1.1==t then O (x.1.2,x.2)else N
theorem Mn{t:Nat}{own:V ((Nat×Nat)×G)}{y:Nat×G}(h:y∈Te t own):((t,y.1),y.2)∈own:=by unfold Te at h;grind
def qe9(a n:Nat)(own:V (Nat×G)):V (Nat×G):=own.filterMap λx=>if Y (a<=x.1)&&Y (x.1<a+n)then O (x.1 - a,x.2)else N
def Mm{a n:Nat}{own:V (Nat×G)}{y:Nat×G}(h:y∈qe9 a n own):(a+y.1,y.2)∈own/\y.1<n:=by unfold qe9 at h;grind
def MB(ρ:List Nat):List U->List U->Prop|[],[]=>True|p::ps,q::qs=>DG ρ p q/\MB ρ ps qs|_,_=>False
def MB.len{ρ:V Nat}:∀{l r:V U},MB ρ l r->l.length=r.length
 |[],[],_=>rfl
 |[],_::_,h=>h.elim
 |_::_,[],h=>h.elim
 |_::_,_::_,h=>by simp[MB.len h.2]
def MB.get{ρ:V Nat}:∀{l r:V U},MB ρ l r->∀(i:Nat) p q,l[i]? =O p->r[i]? =O q->DG ρ p q
 |[],[],_,i,p,q,hp,_=>by simp_all
 |[],_::_,h,_,_,_,_,_=>h.elim
 |_::_,[],h,_,_,_,_,_=>h.elim
 |_::_,_::_,h,0,p,q,hp,hq=>by simp at hp hq;subst hp;subst hq;exact h.1
 |_::_,_::_,h,i+1,p,q,hp,hq=>MB.get h.2 i p q (by simp_all) (by simp_all)
def qcN(ρ:V Nat):ay->ay->Prop|.cells cs own,.cells cs' own'=>own=own'/\MB ρ cs cs'|.map es,.map es'=>es=es'/\∀x∈es,x.1.cl 0/\x.2.cl 0|.dead,.dead=>True|_,_=>False
def qcN.to{ρ:V Nat}{B B':ay}(h:qcN ρ B B'):kh ρ B B':=by
 cases B<;>cases B'<;>simp only[qcN]at h;.exact⟨h.1,h.2.len,h.2.get⟩
 .obtain⟨rfl,h⟩:=h;refine⟨rfl,λi k u e m a b=>?_⟩;rw[a]at b;cases b;let⟨c,d⟩:=h _ (vaD a);exact⟨.refl _ c,.refl _ d⟩
 .trivial
def uI(ρ:List Nat)(H:List ay):List Nat->List ay->List ay->Prop|[],[],[]=>True|j::js,B::Bs,Bc::Hc=>(oP H j λa=>C2 a B=B/\qcN ρ B Bc)/\uI ρ H js Bs Hc|_,_,_=>False
def yI(ρ:List Nat):List ay->List ay->Prop|[],[]=>True|B::Bs,Bc::Hc=>qcN ρ B Bc/\yI ρ Bs Hc|_,_=>False
def mS(H:List ay):List Nat->List ay->List ay|j::js,B::Bs=>mS (H.set j B) js Bs|_,_=>H
def qax(H:List ay):List Nat->List ay->(List ay->Prop)->Prop|j::js,B::Bs,b=>fX H j B λa=>qax a js Bs b|_,_,b=>b H
theorem ue:∀(H:V ay)(b:V Nat)(a:V ay)(c:V ay->Prop),qax H b a c=c (mS H b a)
 |H,[],_,c=>by cases ‹V ay›<;>rfl
 |H,_::_,[],c=>rfl
 |H,j::b,B::a,c=>by simp[qax,bJ,ue,mS]
theorem My:∀(H:V ay)(b:V Nat)(a:V ay),(mS H b a).length=H.length
 |H,[],_=>by cases ‹V ay›<;>rfl
 |H,_::_,[]=>rfl
 |H,j::b,B::a=>by simp[mS,My,vcL]
theorem qp:∀(H:V ay)(b:V Nat)(a:V ay){j:Nat},j∉b->(mS H b a)[j]? =H[j]?
 |H,[],a,_,_=>by cases a<;>rfl
 |H,_::_,[],_,_=>rfl
 |H,k::b,B::a,j,h=>by simp only[x8,vdc]at h;simp_all[mS,qp,Ne.symm]
def QK:∀(H:List ay)(a:List Nat)(b:List ay),a.Nodup->a.length=b.length->(∀j∈a,j<H.length)->∀(i j:Nat) B,a[i]? =O j->b[i]? =O B->(mS H a b)[j]? =O B
 |H,[],b,_,_,_,i,j,B,hj,_=>by simp_all
 |H,_::_,[],_,hl,_,_,_,_,_,_=>by simp_all
 |H,k::a,B0::b,hn,hl,hlt,i,j,B,hj,hB=>by let⟨d,c⟩:=vbI.1 hn;simp only[mS];cases i with|zero=>simp_all[qp]|succ i=>exact QK _ a b c (by simp_all) (λx e=>by simp_all) i j B (by simp_all) (by simp_all)
def Vx{ρ:List Nat}{H:List ay}:∀{a:List Nat}{e m:List ay},uI ρ H a e m->a.length=e.length/\m.length=a.length/\(∀j∈a,j<H.length)/\
  ∀(i j:Nat) B Bc,a[i]? =O j->e[i]? =O B->m[i]? =O Bc->(∃d,H[j]? =O d/\C2 d B=B)/\kh ρ B Bc
 |[],[],[],_=>⟨rfl,rfl,by simp,by simp⟩
 |[],_::_,_,h=>by grind [uI]
 |[],[],_::_,h=>by grind [uI]
 |_::_,[],_,h=>by grind [uI]
 |_::_,_::_,[],h=>by grind [uI]
 | k :: a,B :: e,Bc :: m,h => by
  let⟨r,s⟩:=h;let⟨d,o,t,w⟩:=eU r;let⟨y,z,A,E⟩:=Vx s;refine⟨by grind,by grind,λj p=>?_,λi j b x p q c=>?_⟩;.grind
  .cases i with|zero=>simp at p q c;subst p;subst q;subst c;exact⟨⟨d,o,t⟩,w.to⟩|succ i=>grind
theorem K1{ρ:V Nat}:∀{c d:V ay},yI ρ c d->c.length=d.length/\∀(i:Nat) B Bc,c[i]? =O B->d[i]? =O Bc->kh ρ B Bc
 |[],[],_=>⟨rfl,by simp⟩
 |[],_::_,h=>h.elim
 |_::_,[],h=>h.elim
 |B::c,Bc::d,h=>by let⟨o,p⟩:=K1 h.2;refine⟨by grind,λi b m e a=>?_⟩;cases i with|zero=>simp at e a;subst e;subst a;exact h.1.to|succ i=>grind
def qmz(t:Nat):Q Operand->K|some (.tmp u)=>u==t|_=>Z
def qiF:Q Operand->K|some (.const v)=>pw v|_=>Z
def qbX(n:Nat)(a:V Operand)(own:V ((Nat×Nat)×G))(b:V OA):K:=b.all (λx=>Y (n<=x.i)&&((qiF a[x.i - n]? &&x.k==0)||(Y (((x.t,x.k),x.e)∈own)&&qmz x.t a[x.i - n]?)))&&b.all λx=>b.all λy=>!(x.t==y.t&&x.k==y.k)||x.i==y.i
def Uu:ay->K|.dead=>Z|_=>T
def jY(P:I)(GE:V (Nat×V U))(f:Operand)(a:V Operand)(c:GC)(b:az)(e:V ay->Prop):Prop:=
 rD GE b.tmps f λd=>match d with
 | .func (.func g) first cap => V7 GE b.tmps a fun as => match uR c.ρ && qbX first.length a b.own c.oa && c.Bs.all Uu && Y (c.Bs'.length = c.ρ.length) with
  | true => C P GE g c.argsC (c.oa.map fun x => ((x.i,x.k),x.e)) c.Hc c.rc c.ro c.Hc'∧MB c.ρ (first ++ as ++ cap) c.argsC∧uI c.ρ b.boxes c.ρ c.Bs c.Hc∧yI c.ρ c.Bs' c.Hc'∧DG c.ρ c.r c.rc ∧
    qax b.boxes c.ρ c.Bs' e
  |false=>False
 |_=>False
def xT{P:I}{GE:V (Nat×V U)}{f:Operand}{r:V Operand}{c:GC}{st:az}{a0:V ay->Prop}(h:jY P GE f r c st a0):∃H',Pf P GE f r st c.r c.ro H' c.oa/\a0 H':=by
 unfold jY at h;rw[bY]at h;split at h
 .rename_i g first cap hf
  rw[oS]at h;split at h
  .rename_i hb;simp only[ne,oy]at hb;obtain⟨⟨⟨b1,F⟩,b3⟩,b4⟩:=hb;let⟨h1,e,o,h4,h5,h6⟩:=h;rw[ue]at h6;have E:=n8 b1;let⟨i1,i2,X,i4⟩:=Vx o;let⟨o1,o2⟩:=K1 h4;unfold qbX at F;rw[ne]at F;let⟨c1,c2⟩:=F;have b:∀{i j:Nat},c.ρ[i]? =O j->∃B,c.Bs[i]? =O B:=λ{i j} m=>⟨_,m3 (by grind)⟩
   have d:∀{i j:Nat},c.ρ[i]? =O j->∃B,c.Hc[i]? =O B:=λ{i j} m=>⟨_,m3 (by grind)⟩
   refine⟨_,⟨g,first,cap,c.argsC,c.ρ,mS st.boxes c.ρ c.Bs,c.Hc,c.Hc',c.rc,hf,E,h1,⟨My _ _ _,λi B z=>?_⟩,⟨i2,λi j m=>?_⟩,⟨by omega,λi j m=>?_⟩,My _ _ _,λj m=>by simp_all[qp],h5,e.len,e.get,λx q=>?_,λx q y hy H L=>?_⟩,h6⟩
   .by_cases S:i∈c.ρ
    .let⟨k,A⟩:=vbc.1 S;let⟨s,a⟩:=b A;let⟨w,p⟩:=d A;let⟨⟨B0,R,t⟩,_⟩:=i4 k i s w A a p;rw[QK _ _ _ E i1 X k i s A a]at z;cases z;refine⟨B0,R,?_⟩;rcases qeN B0 B with q|q|q;.rw[t]at q;have:=vaE.1 b3 B (vaD a);rw[q]at this;cases this
     .rw[t]at q;exact .inl q
     simp_all
    .rw[qp _ _ _ S]at z;exact⟨B,z,.inl rfl⟩
   .let⟨s,a⟩:=b m;let⟨w,p⟩:=d m;exact⟨s,w,QK _ _ _ E i1 X i j s m a,p,(i4 i j s w m a p).2⟩
   .have S:=aq m;have H:=m3 (l:=c.Bs') (i:=i) (by omega);have L:=m3 (l:=c.Hc') (i:=i) (by omega);exact⟨_,_,QK _ _ _ E b4.symm X i j _ m H,L,o2 i _ _ H L⟩
   .have:=vaE.1 c1 x q;simp only[ne,vbh,oy,vbf]at this;refine⟨x.i - first.length,by omega,?_⟩;rcases this.2 with⟨e,o⟩|⟨e,o⟩
    .left;unfold qiF at e;split at e
     .rename_i v hv;unfold pw at e;split at e;.exact⟨hv,o⟩
      grind
     .cases e
    .right;unfold qmz at o;split at o;.rename_i u hu;simp only[vbf]at o;subst o;exact⟨e,hu⟩
     .cases o
   grind
  simp_all
 simp_all
def Zx(P:I)(GE:V (Nat×V U))(f:Operand)(b:V Operand)(c:GC)(d:Nat)(a:az)(m:V U->V ay->V ((Nat×Nat)×G)->Prop):Prop:=rD GE a.tmps f λi=>V7 GE a.tmps b λe=>match i with
  |.func (.func g) [] []=>match Y (c.ρ=List.range' a.boxes.length c.Hc'.length)with|true=>CN P GE g e c.rc c.ro c.Hc'/\ie 0 e/\yI c.ρ c.Bs' c.Hc'/\DG c.ρ c.r c.rc/\fX a.tmps d c.r λtm=>bA ((c.ro.map λx=>((d,x.1),x.2))++bI d a.own) λh=>TJ a.boxes c.Bs' λH=>m tm H h|false=>False
  |_=>False
def W7{P:I}{GE:V (Nat×V U)}{o:M}{f:Operand}{args:Array Operand}{e:Array G}{c:GC}{d:Nat}{st:az}{A:V It->az->Prop}{sc:V It}(z:o.op=.call {callee:=.value f,args,argTypes:=e})(x:o.dst=O d)(q:d<st.tmps.length)
  (h:Zx P GE f args.toList c d st λtm H p=>A sc ⟨tm,H,p⟩):qcf P GE o (λb=>∃a,A a b) st:=by
 unfold Zx at h
 rw[bY,oS]at h
 split at h
 .rename_i g y
  split at h
  .rename_i m
   simp only[oy]at m
   let⟨r,s,t,w,i⟩:=h
   simp only[bJ,aN,TJ]at i
   grind [K1,qcf]
  simp_all
 simp_all
def Uo (P:I) (GE:V (Nat×V U)) (A:V Nat) (o:M) (id:Nat) (sc:V It) (a:az) (a0:V It→az→Prop):Prop :=match o.op,sc with
 |.build a1 parts,.b p L::sc'=>match o.dst with|some d=>Xd a.tmps.length d (Fc GE a.tmps parts.toList λF=>dF P a1 F=O p/\Db P a1 F L/\fX a.tmps d p λtm=>bA ((L.map λx=>((d,x.1),x.2))++bI d a.own) λh=>a0 sc' ⟨tm,a.boxes,h⟩)|none=>False
 | .store a1 x (.tmp t),.y vs :: sc' => zm a.tmps t fun X => match X with
  | .agg l => match o.dst with
   | none => rD GE a.tmps x fun E => match E with
    | .bptr i off => bA (Te t a.own) fun L => l = vs∧oP a.boxes i fun B => match B with
     | .cells m own => match uR (L.map (·.1)) && Y (vs.length = P.cellsOf a1) && (P.info? a1).isSome && Y (off + vs.length ≤ m.length) && vs.all PVal.one with| true => bA (m.take off ++ vs ++ m.drop (off + vs.length)) fun w => bA ((L.map fun y => (off + y.1,y.2)).reverse ++ own.filter fun y => y.1 < off || off + vs.length ≤ y.1) fun r =>fX a.boxes i (.cells w r) λH=>bA (a.own.filter λx=>!L.any λy=>x.1==(t,y.1)) λh=>a0 sc' ⟨a.tmps,H,h⟩|false=>False
     |_=>False
    |_=>False
   |some _=>False
  |_=>Vo P GE A o id sc a a0
 | .load a1 x,.z l :: sc' => match P.underlying a1 with
  | some (.struct _) => match o.dst with
   | some d => Xd a.tmps.length d (rD GE a.tmps x fun E => match E with
    | .bptr i off => oP a.boxes i fun B => match B with
     | .cells m own => cO P a1 (m.drop off) = O (.agg l)∧bA (qe9 off (P.cellsOf a1) own) fun L => match uR (L.map (·.1)) with| true => fX a.tmps d (.agg l) fun tm => bA (own.filter fun x => !L.any fun y => x.1 == off + y.1) fun r => fX a.boxes i (.cells m r) fun H =>bA ((L.map λy=>((d,y.1),y.2)).reverse++bI d a.own) λh=>a0 sc' ⟨tm,H,h⟩|false=>False
     |_=>False
    |_=>False)
   |none=>False
  |_=>Vo P GE A o id sc a a0
 |.box _ x,.e vs::sc'=>match o.dst with|some d=>Xd a.tmps.length d (rD GE a.tmps x λE=>bF E=O vs/\fX a.tmps d (.eptr vs) λtm=>bA (bI d a.own) λh=>a0 sc' ⟨tm,a.boxes,h⟩)|none=>False
 |.call {callee:=.value f,args,..},.cg c::sc'=>match o.dst with|some d=>Xd a.tmps.length d (jY P GE f args.toList c a λH=>fX a.tmps d c.r λtm=>bA ((c.ro.map λx=>((d,x.1),x.2))++bI d (a.own.filter λz=>!c.oa.any λx=>z.1==(x.t,x.k))) λh=>a0 sc' ⟨tm,H,h⟩)|none=>False
 |.call {callee:=.value f,args,..},.cn c::sc'=>match o.dst with|some d=>Xd a.tmps.length d (Zx P GE f args.toList c d a λtm H h=>a0 sc' ⟨tm,H,h⟩)|none=>False
 | .call { callee := .builtin .append,args:=⟨[.tmp t,y]⟩,argTypes:=⟨[a1,T']⟩ },.ar i e n m :: sc' => match o.dst with
  | some d => Xd a.tmps.length d (zm a.tmps t fun R => rD GE a.tmps y fun S => match R,S with
   | .slice [],.slice ns => match Y (a1 = T') && Y (((t,0),e) ∈ a.own) && Y (i = a.boxes.length) with| true => P.underlying a1 = O (.slice e)∧(∃ p,ji P a1 [] ns = O p)∧(n = ns.length∧m = ns.flatten) ∧ fX a.tmps d (.bsl i 0 n) λtm=>bA (bI d (a.own.filter λx=>x.1 !=(t,0))) λh=>TJ a.boxes [.cells m []] λH=>a0 sc' ⟨tm,H,h⟩|false=>False
   |_,_=>False)
  |none=>False
 | .call { callee := .value f,args:=⟨[x]⟩,.. },.ar i e n m :: sc' => match o.dst with
  | some d => Xd a.tmps.length d (rD GE a.tmps f fun vf => rD GE a.tmps x fun S => match vf,S with
   | .func (.func g) [] [],.slice ns => match Y (i = a.boxes.length) with| true => BF P g e∧(0 < P.cellsOf e∧(∀ x ∈ ns,x.length = P.cellsOf e∧∀ q ∈ x,q.one = T)∧ns.length ≤ bO)∧(n = ns.length∧m = ns.flatten) ∧ fX a.tmps d (.bsl i 0 n) λtm=>bA (bI d a.own) λh=>TJ a.boxes [.cells m []] λH=>a0 sc' ⟨tm,H,h⟩|false=>False
   |_,_=>False)
  |none=>False
 | .store a1 x (.const v),.ar _ e _ _ :: sc' => match o.dst,pw v with
  | none,T => rD GE a.tmps x fun E => rD GE a.tmps (.const v) fun vy => match E,bF vy with
   | .bptr i off,O vs => oP a.boxes i fun B => match B with
    |.cells m own=>match Y (vs.length=P.cellsOf a1)&&(P.info? a1).isSome&&Y (off+vs.length<=m.length)&&vs.all PVal.one with|true=>bA (m.take off++vs++m.drop (off+vs.length)) λw=>bA ((off,e)::own.filter λy=>y.1<off||off+vs.length<=y.1) λr=>fX a.boxes i (.cells w r) λH=>a0 sc' ⟨a.tmps,H,a.own⟩|false=>False
    |_=>False
   |_,_=>False
  |_,_=>False
 | .box a1 (.tmp t),.y vs :: sc' => match o.dst with| some d => Xd a.tmps.length d (zm a.tmps t fun X => match X with|.agg l=>bA (Te t a.own) λL=>l=vs/\(match uR (L.map (·.1))&&Ot vs with|true=>bA (vs.map (nilTo id a1)) λm=>fX a.tmps d (.bptr id 0) λtm=>bA ((L.map λy=>(0+y.1,y.2)).reverse++[]) λown=>fX a.boxes id (.cells m own) λH=>bA (bI d (a.own.filter λx=>!L.any λy=>x.1==(t,y.1))) λh=>a0 sc' ⟨tm,H,h⟩|false=>False)|_=>False)|none=>False
 |.alloc a1,.y vs::sc'=>match o.dst with|some d=>Xd a.tmps.length d (eR P a1=O vs/\bA (Tj P a1) λown=>bA (vs.map (nilTo id a1)) λm=>fX a.tmps d (.bptr id 0) λtm=>fX a.boxes id (.cells m own) λH=>bA (bI d a.own) λh=>a0 sc' ⟨tm,H,h⟩)|none=>False
 | .call { callee := .builtin .append,args:=⟨[.tmp t,y]⟩,argTypes:=⟨[a1,T']⟩ },.z F :: sc' => match o.dst,F with
  | some d,[p] => Xd a.tmps.length d (zm a.tmps t fun R => rD GE a.tmps y fun S => match R,S,P.underlying a1 with
   |.slice es,.str s,O (.slice e)=>match Y (((t,0),e)∈a.own)with|true=>Gz P a1 T' es s=O p/\fX a.tmps d p λtm=>bA (((d,0),e)::bI d (a.own.filter λx=>x.1 !=(t,0))) λh=>a0 sc' ⟨tm,a.boxes,h⟩|false=>False
   |.slice es,.slice ns,O (.slice e)=>match Y (T'=a1)&&Y (((t,P.cellsOf e),e)∈a.own)with|true=>ji P a1 es ns=O p/\fX a.tmps d p λtm=>bA (((d,P.cellsOf e),e)::bI d (a.own.filter λx=>x.1.1 !=t)) λh=>a0 sc' ⟨tm,a.boxes,h⟩|false=>False
   |_,_,_=>False)
  |_,_=>False
 | .slice a1 (.tmp t) (O lo) N N,.z F :: sc' => match o.dst,F with
  | some d,[p] => Xd a.tmps.length d (zm a.tmps t fun R => rD GE a.tmps lo fun vl => match R,P.underlying a1 with
   |.slice es,O (.slice e)=>match Y (0<P.cellsOf e)&&(Y (((t,0),e)∈a.own)||decide (((t,P.cellsOf e),e)∈a.own))with|true=>xo P a1 (.slice es) (O vl) N N=O p/\fX a.tmps d p λtm=>bA (((d,P.cellsOf e),e)::bI d (a.own.filter λx=>x.1.1 !=t)) λh=>a0 sc' ⟨tm,a.boxes,h⟩|false=>False
   |_,_=>False)
  |_,_=>False
 |_,_=>Vo P GE A o id sc a a0
def PQ(P:I)(GE:List (Nat×List U))(A:List Nat)(e:Array M)(m:List It->az->Prop):List M->Nat->Nat->List It->az->Prop
 |[],_,_,sc,h=>m sc h
 | o :: rest,pos,id,sc,h =>
  let d (sc:List It) (h:az):Prop:=Uo P GE A o id sc h λc a=>PQ P GE A e m rest (pos+1) (id+if aD o.op then 1 else 0) c a
  match o.guard with
  |none=>d sc h
  |some (j,want)=>Um e j want pos sc h λb c a=>match b with
   |true=>d c a
   |false=>XB a o.dst (.val undef) [] a.boxes λi=>PQ P GE A e m rest (pos+1) (id+if aD o.op then 1 else 0) c i
section
variable{P:I}{GE:V (Nat×V U)}{A:V Nat}{ops:Array M}
def Zu{f:Operand}{b:V Operand}{a:V U}{H:V ay}{sc:V It}{e:U->V (Nat×G)->V It->Prop}(h:qdm P GE f b a sc e):Ow P GE (opv GE a f) (b.map (opv GE a)) H λr c d=>d=H/\∃sc',e r c sc':=by
 unfold qdm at h;rw[bY]at h;split at h
 .rename_i g first cap hf
  rw[oS]at h;split at h;.rename_i r c sc';rw[hf];exact .inl ⟨h.1.1,r,c,h.1.2,rfl,sc',h.2⟩
  simp_all
 simp_all
theorem Mp{a:Op}{id:Nat}{v:Operand->U}{H c:V ay}{p:U}{K:U->V (Nat×G)->V ay->Prop}(e:∀f args b,a≠.call {callee:=.value f,args,argTypes:=b})
  (h:yM P a id v H=O (p,c)) (d:K p [] c):Xs P GE a id v H K:=by
 unfold Xs
 simp_all
theorem nZ{o:M}{id:Nat}{sc:V It}{c:az}{a0:V It->az->Prop}(h:D0 P GE o id sc c a0):qQ o c.tmps.length=T/\Xs P GE o.op id (opv GE c.tmps) c.boxes λp e H=>(λi=>∃a,a0 a i) (Fy c o.dst p e H):=by
 unfold D0 at h;split at h;.simp_all
 .rename_i B;refine⟨B,?_⟩;split at h
  .rename_i f m F b;have:=Zu (H:=c.boxes) h;unfold Xs;simp only[b];unfold Ow at this ⊢;split at this
   .rcases this with⟨q,r,e,s,_,a,E⟩|⟨ρ,argsC,Hc,rc,e,Hc',w,r,q,s,E,k4,k5,k6,k7,k8,k9,rfl,a,k10⟩;.grind [Bn]
    grind [Bn]
   omega
  .rename_i t b;split at h;.rename_i zs a;let⟨y,d⟩:=h;simp only[aN,bJ,Bn]at d;rw[b];exact Mp (by simp) (by simp_all[yM,or]) ⟨a,d⟩
   simp_all
  .rename_i t x b;rw[bY]at h;split at h;.rename_i L a;let⟨y,z,d⟩:=h;simp only[bJ,Bn]at d;rw[b];exact Mp (by simp) (by simp_all[yM,Wc,or]) ⟨a,d⟩
   simp_all
  .rename_i t b;simp only[bJ,Bn]at h;rw[b];exact Mp (by simp) (by rfl) ⟨_,h⟩
  .rename_i R S X n4;let⟨p,w,a,q,s,_⟩:=S4 (id:=id) h;grind [Bn,Mp]
def HU{o:M}{id:Nat}{sc:V It}{st:az}{a0:V It->az->Prop}(h:Vo P GE A o id sc st a0):Ti P GE A o id (λs=>∃b,a0 b s) st:=by
 unfold Vo at h;unfold Ti;split at h;case h_1 t d ho hd=>grind [ni,gW,bJ,aN]
 case h_2 t d ho hd=>
  simp only[ho,hd]
  split at h
  .rename_i m
   let⟨c,a⟩:=ni h
   simp only[gW,bJ,aN]at a
   grind
  .rename_i m
   rw[hG (by simp_all)]
   grind [nZ]
 case h_3 v d ho hd=>grind [ni,bJ,aN,nZ]
 case h_4 v d ho hd=>grind [ni,bJ,aN,nZ]
 case h_5 t i d ho hd=>
  let⟨c,a⟩:=ni h
  grind [gW,D9,bJ,aN]
 case h_6 a1 len parts d ho hd=>
  let⟨c,a⟩:=ni h
  grind [tU,bJ,aN]
 case h_7 t y a1 T' d ho hd=>
  let⟨c,a⟩:=ni h
  rw[gW,bY]at a
  split at a
  .rename_i H X p b e R S z
   split at a
   .rename_i q
    simp only[ne,oy]at q
    grind [bJ,aN]
   simp_all
  simp_all
 case h_8 a1 x d ho hd=>
  simp only[ho,hd]
  split at h
  .rename_i m
   let⟨c,a⟩:=ni h
   rw[bY]at a
   rw[l7 (by simp_all)]
   split at a
   .rename_i i r e E z
    let⟨B,L,a⟩:=eU a
    split at a
    .rename_i F own
     split at a
     .rename_i q
      simp only[ne,oy]at q
      simp only[gW,bJ,aN]at a
      grind
     simp_all
    simp_all
   simp_all
  .rename_i m
   rw[hG (by simp_all)]
   grind [nZ]
 case h_9 a1 x t ho=>
  simp only[ho]
  split at h
  .rename_i y e w
   rw[bY,gW]at h
   simp only[w]
   unfold Vn at h
   split at h
   .rename_i i r E
    split at h
    .grind [eU,bJ,aN,Bn]
    simp_all
   simp_all
  grind [nZ]
 case h_10=>
  have:=nZ h
  simp_all
def Ns{j:Nat}{c:K}{r:Nat}{sc:V It}{d:az}{go:K->V It->az->Prop}(h:Um ops j c r sc d go):∃x,Ci ops d.tmps j=O x/\((x=O c/\∃a,go T a d)\/(x≠O c/\∃a,go Z a d)):=by
 unfold Um at h;split at h;.simp_all
 .rename_i t y;rw[gW]at h;have e:∀{p},d.tmps.getD t .undef=p->p≠.undef->d.tmps[t]? =O p:=by grind
  have i:∀(x:K) a,go (x==c) a d->(O x=O c/\∃a,go T a d)\/(O x≠O c/\∃a,go Z a d):=by intro x a m;cases x<;>cases c<;>simp at m ⊢<;>exact⟨a,m⟩
  split at h
  .rename_i x o;have q:=e o (by simp);have m:Ci ops d.tmps j=O (O x):=by simp_all[Ci]
   refine⟨_,m,?_⟩;split at h
   .rename_i s b a;split at h;.obtain⟨rfl,h⟩:=h;rw[bJ,QL q]at h;exact i x a h
    grind
   grind
  .rename_i v o;have q:=e o (by simp);split at h;.simp_all
   .rename_i w;refine⟨N,?_,.inr ⟨by simp,_,h⟩⟩;unfold Ci;simp only[y,q];cases v<;>simp[qvy]at w<;>rfl
  grind
def Xa{o:M}{id:Nat}{sc:V It}{st:az}{a7:V It->az->Prop}(h:Uo P GE A o id sc st a7):Ly P GE A o id (λa4=>∃a,a7 a a4) st:=by
 unfold Uo at h;split at h
 .rename_i T a3 p L a r;split at h;.rename_i d q;let⟨w,z⟩:=ni h;rw[tU]at z;let⟨E,h4,h5⟩:=z;simp only[bJ,aN]at h5;refine .inr (.inl ?_);grind [Wk]
  simp_all
 .rename_i T x t S a r;rw[gW]at h;split at h
  .rename_i l hl;split at h
   .rename_i q;rw[bY]at h;split at h
    .rename_i i b hx;rw[aN]at h;obtain⟨rfl,h⟩:=h;let⟨B,hB,h⟩:=eU h;split at h
     .rename_i F own;split at h
      .rename_i m;simp only[bJ,aN]at h;simp only[ne,oy]at m;obtain⟨⟨⟨⟨c1,c2⟩,c3⟩,c4⟩,c5⟩:=m;refine .inr (.inl ?_);unfold Wk;simp only[r,q];have hi:=aq hB;refine⟨i,b,st.boxes.set i (.cells (F.take b++l++F.drop (b+l.length)) (own.filter λy=>y.1<b||b+l.length<=y.1)),_,_,Te t st.own,l,hx,hl,?_,pi hi,λy hy=>Mn hy,n8 c1,a,?_⟩;.simp_all[fE,bF,l7]
       simp_all
      simp_all
     simp_all
    simp_all
   simp_all
  .exact .inl (HU h)
 .rename_i T x l a r;split at h
  .rename_i fs hT;split at h
   .rename_i d q;let⟨w,h⟩:=ni h;rw[bY]at h;split at h
    .rename_i i b hx;let⟨B,hB,h⟩:=eU h;split at h
     .rename_i F own;let⟨z,h⟩:=h;rw[aN]at h;split at h
      .rename_i R;simp only[bJ,aN]at h;refine .inr (.inl ?_);unfold Wk;simp only[r,q];have a0:l.length=P.cellsOf T:=by grind [cO,List.length_take]
       exact⟨i,b,F,own,_,l,⟨fs,hT⟩,hx,hB,z,λy hy=>(Mm hy).1,n8 R,λy hy=>by rw[a0];exact(Mm hy).2,w,a,h⟩
      simp_all
     simp_all
    simp_all
   simp_all
  .exact .inl (HU h)
 .rename_i T x S a r;split at h;.rename_i d q;let⟨w,h⟩:=ni h;rw[bY]at h;let⟨z,h⟩:=h;simp only[bJ,aN]at h;refine .inr (.inl ?_);grind [Wk]
  simp_all
 .rename_i f X a1 c a r;split at h;.rename_i d q;let⟨w,h⟩:=ni h;let⟨H',z,E⟩:=xT h;simp only[bJ,aN]at E;refine .inr (.inl ?_);grind [Wk]
  simp_all
 .rename_i f X a1 c a r;split at h;.rename_i d q;let⟨w,h⟩:=ni h;refine .inr (.inr (.inr (.inl ?_)));exact W7 r q w h
  simp_all
 .rename_i t y T T' i e n F a r;split at h
  .rename_i d q;have H:=ni h;clear h;let⟨w,h⟩:=H;rw[gW,bY]at h;split at h
   .rename_i ns he R;split at h;.rename_i m;simp only[ne,oy]at m;obtain⟨⟨rfl,c2⟩,rfl⟩:=m;obtain⟨z,⟨p,E⟩,⟨rfl,rfl⟩,h4⟩:=h;simp only[bJ,aN,TJ,aN]at h4;refine .inr (.inr (.inl ?_));unfold qd3;grind
    simp_all
   simp_all
  simp_all
 .rename_i f x a1 i e n F a r;split at h
  .rename_i d q;have H:=ni h;clear h;let⟨w,h⟩:=H;rw[bY,bY]at h;split at h
   .rename_i g ns hg R;split at h;.rename_i m;simp only[oy]at m;subst m;obtain⟨z,⟨E,h4,h5⟩,⟨rfl,rfl⟩,h6⟩:=h;simp only[bJ,aN,TJ,aN]at h6;refine .inr (.inr (.inl ?_));grind [qd3]
    simp_all
   simp_all
  simp_all
 .rename_i T x v i0 e n0 a5 a r;split at h
  .rename_i q hv;have a2:v=.slice N 0 0:=by unfold pw at hv;grind
   subst a2;rw[bY,bY]at h;split at h
   .rename_i i b S hx a6;let⟨B,hB,h⟩:=eU h;split at h
    .rename_i F own;split at h
     .rename_i m;simp only[bJ,aN]at h;simp only[ne,oy]at m;obtain⟨⟨⟨c2,c3⟩,c4⟩,c5⟩:=m;refine .inr (.inr (.inl ?_));unfold qd3;simp only[r,q];have hi:=aq hB;refine⟨i,b,e,st.boxes.set i (.cells (F.take b++S++F.drop (b+S.length)) (own.filter λy=>y.1<b||b+S.length<=y.1)),_,_,hV,hx,?_,pi hi,a,?_⟩;.simp_all[fE,l7]
      simp_all
     simp_all
    simp_all
   simp_all
  simp_all
 .rename_i T t S a r;split at h
  .rename_i d q;let⟨w,h⟩:=ni h;rw[gW]at h;split at h
   .rename_i l hl;rw[aN]at h;obtain⟨rfl,h⟩:=h;split at h;.rename_i R;simp only[bJ,aN]at h;refine .inr (.inr (.inr (.inr (.inl ?_))));unfold qlO;simp only[r,q];rw[ne]at R;grind [Te,Mn,n8]
    simp_all
   simp_all
  simp_all
 .rename_i T S a r;split at h;.rename_i d q;let⟨w,z,h⟩:=ni h;simp only[bJ,aN]at h;refine .inr (.inr (.inr (.inr (.inl ?_))));grind [qlO]
  simp_all
 .rename_i t y T T' ps a r;split at h
  .rename_i d p q;have H:=ni h;clear h;let⟨w,h⟩:=H;rw[gW,bY]at h;split at h
   .rename_i es s e he R hT;split at h;.rename_i m;simp only[oy]at m;let⟨z,E⟩:=h;simp only[bJ,aN]at E;refine .inr (.inr (.inr (.inr (.inl ?_))));grind [qlO]
    simp_all
   .rename_i es ns e he R hT;split at h;.rename_i m;simp only[ne,oy]at m;let⟨z,E⟩:=h;simp only[bJ,aN]at E;refine .inr (.inr (.inr (.inr (.inr ?_))));grind [qmK]
    simp_all
   simp_all
  simp_all
 .rename_i T t lo ps a r;split at h
  .rename_i d p q;have H:=ni h;clear h;let⟨w,h⟩:=H;rw[gW,bY]at h;split at h
   .rename_i es e he hT;split at h;.rename_i m;simp only[ne,vbh,oy]at m;let⟨z,E⟩:=h;simp only[bJ,aN]at E;refine .inr (.inr (.inr (.inr (.inr ?_))));grind [qmK]
    simp_all
   simp_all
  simp_all
 .exact .inl (HU h)
def yV{o:M}{id:Nat}{c b:az->Prop}{st:az}(a:∀st,c st->b st)(h:Ly P GE A o id c st):Ly P GE A o id b st:=by
 rcases h with h|h|h|h|h|h;.exact .inl (qd5 a h)
 rotate_left 2;.exact .inr (.inr (.inr (.inl (qg5 a h))))
 .exact .inr (.inr (.inr (.inr (.inl (qjx a h)))))
 .exact .inr (.inr (.inr (.inr (.inr (qjR a h)))))
 rotate_left
 .refine .inr (.inr (.inl ?_));unfold qd3 at *;split at h;.grind
  .grind
  .grind
  omega
 .refine .inr (.inl ?_);unfold Wk at *;split at h;.grind
  .grind
  .grind
  .grind
  .grind
  omega
def w9{t:List It->az->Prop}:∀(a:List M)(c id:Nat)(sc:List It)(st:az),PQ P GE A ops t a c id sc st->cK P GE A ops (λst=>∃sc,t sc st) a id st
 |[],_,_,sc,st,h=>⟨sc,h⟩
 | o :: a,c,id,sc,st,h => by
  simp only[PQ]at h
  have m:∀sc st,Uo P GE A o id sc st (λb d=>PQ P GE A ops t a (c+1) (id+if aD o.op then 1 else 0) b d)->Ly P GE A o id (cK P GE A ops (λst=>∃sc,t sc st) a (id+if aD o.op then 1 else 0)) st:=
   λsc st s=>yV (λd i=>by let⟨b,i⟩:=i;exact w9 a _ _ b d i) (Xa s)
  unfold cK;split at h;.grind
  .rename_i j p r;let⟨x,i,e⟩:=Ns h;simp only[r,i];rcases e with⟨rfl,b,e⟩|⟨hne,b,e⟩;.grind
   .refine⟨λq=>absurd q hne,λ_=>?_⟩;simp only[Bn]at e;exact w9 a _ _ b _ e
end
end Go.Proofs.YtankopenjcbeeaaGreatDoor
