/- PROVED: a part of the proof. Conditions: none. -/
import Derived.Test.YtbaamopmfmpfaaaGreatDoorPkC3
import Derived.Shelf.SlicesE.Clone
import Derived.Test.YtbaamopmfmpfaaaGreatDoorPkC7
import Derived.Test.YtbaamopmfmpfaaaGreatDoorChecked
noncomputable section
namespace Go.Proofs.YtbaamopmfmpfaaaGreatDoor
open Go Go.Shelf Go.RowKit Go.Lib
variable{P:Program}{ρ:Ren}
set_option maxHeartbeats 2000000 in
set_option maxRecDepth 100000 in
theorem PT(L:SlLaysE0.n41 P ρ)(i0:TypeInfo)(z:Value)(hi:P.info? (ρ.t 23)=some i0)(hz0:i0.zero=some z)(hzs:z.cells.size=i0.size)(hsz:0<i0.size)
  (z23:∀w,(Go.sizeOf (ρ.t 23)).run P w=.ok i0.size w) (ad:Addr) (c:Nat) (w:World):
  Calls P (ρ.f 41) #[.slice (some ad) 0 c] w fun r w'=>∃v',r=.returned v'/\w'.ownsRow w.heap.size (ρ.t 23) i0.size v' 0 []/\Below w.heap.size w w':=by
 have mixed:=L.mixed;have t4:=L.t4;have a4:=L.a4;have z4:=L.z4;have v4:=L.v4;have t22:=L.t22;have a22:=L.a22;have z22:=L.z22;have v22:=L.v22
 have q22:∀(w:World) (a:Option Addr) (n c n' c':Nat),(binOp .eql (ρ.t 22) (.slice a n c) (.slice none n' c')).run P w=.ok (.bool a.isNone) w:=fun w a n c n' c'=>Lib.run_eql_slice_nil w _ _ a n c n' c' L.t22
 have u22:∀w,Sem.run P (underlying (ρ.t 22)) w=.ok (TypeDesc.slice (ρ.t 23)) w:=run_underlying t22
 obtain⟨_,_,FG⟩:=L.f41
 go_enter FG,SlBodyN.n41_ntmps ρ
 go_wp2_with (at_builtin;refine wpList_append_own _ rfl _ _ (ρ.t 22) rfl w.heap.size (ρ.t 23) i0 z i0.size i0.bytes t22 hi hz0 rfl rfl hzs hsz _ _ _ rfl (World.ownsRow_made w #[] 0 (vah _) (vaO _) (by simp)) ad 0 c [] rfl (by simp) (by simp) (by simp) (by simp) (by simp) (by simp) ?_)
 intro v' w1 hown hgrow _
 go_wp2
 go_ret
 exact⟨v',rfl,by simpa using hown,((Below.refl _ w).alloc (vah _) _).grown hgrow (by simp) (by intro k hk;simp[Value.ownBlock]at hk;omega)⟩
theorem T3(L:SlLaysE0.n41 P ρ)(i0:TypeInfo)(z:Value)(hi:P.info? (ρ.t 23)=some i0)(hz0:i0.zero=some z)(hzs:z.cells.size=i0.size)(hsz:0<i0.size)(hby:i0.bytes<=65536)
  (hcall:∀vs w,(callFunc (ρ.f 41) vs).run P w=.ok (.enter (ρ.f 41) vs) w):lI P (ρ.f 41) (ρ.t 23):=by
 have hc:P.cellsOf (ρ.t 23)=i0.size:=by simp[Program.cellsOf,hi]
 have z23:∀w,(Go.sizeOf (ρ.t 23)).run P w=.ok i0.size w:=fun w=>by rw[<-hc];exact run_sizeOf w hi
 refine⟨hcall,fun w x n news hx hl h1 hn=>?_⟩
 rw[hc]at hl ⊢
 rcases hx with⟨rfl,rfl⟩|⟨a,c,rfl,hcell⟩
 ·have hnews:news=[]:=vas (by simpa using hl)
  subst hnews
  refine(AnyE.slices_Clone_nil L 0 0 w).mono fun r w' hr=>?_
  obtain⟨rfl,rfl⟩:=hr
  exact⟨_,rfl,World.ownsRow_nil _ _ _ _,Below.refl _ _⟩
 ·by_cases h0:n=0
  ·subst h0
   have hnews:news=[]:=vas (by simpa using hl)
   subst hnews
   exact PT L i0 z hi hz0 hzs hsz z23 a c w
  ·have hpos:0<news.length:=by rw[hl];exact vcR (Nat.pos_of_ne_zero h0) hsz
   have hsp:a.spot=none:=by
    have hk:=hcell 0 _ (vab hpos)
    unfold Addr.add at hk
    simp only[if_true]at hk
    unfold World.cell? at hk
    split at hk
    ·split at hk
     ·cases hk
     ·rename_i hs;simpa using hs
    ·cases hk
   obtain⟨b,off,sp⟩:=a
   simp only at hsp
   subst hsp
   refine(AnyE.slices_Clone L i0 z i0.size i0.bytes hi hz0 rfl rfl hzs hsz z23 b off n c news w hl (by unfold maxLen;unfold ee at hn;omega) ?_ (fun j u hj=>by rw[<-Addr.add_lit];exact hcell j u hj) h1).mono fun r w' hr=>?_
   ·have:n * i0.bytes<=1073741824 * 65536:=vca (by unfold ee at hn;omega) hby
    omega
   ·obtain⟨v',k1,k2,_,k3⟩:=hr
    exact⟨v',k1,k2,k3⟩
theorem BI(L:SlLaysE0.n41 P ρ){f:FuncId}{e:TypeId}(hf:ρ.f 41=f)(he:ρ.t 23=e)(hq:(P.info? e).any (fun i=>(i.zero.any fun z=>z.cells.size==i.size)&&decide (0<i.size)&&decide (i.bytes<=65536))=true)
  (hcall:∀vs w,(callFunc f vs).run P w=.ok (.enter f vs) w):lI P f e:=by
 subst hf;subst he
 cases hi:P.info? (ρ.t 23)with
 |none=>rw[hi]at hq;cases hq
 | some i0 =>
  rw[hi]at hq
  simp only[Option.any_some,vag,vam]at hq
  obtain⟨⟨h1,h2⟩,h3⟩:=hq
  cases hz:i0.zero with
  |none=>rw[hz]at h1;cases h1
  |some z=>
   rw[hz]at h1
   simp only[Option.any_some,va1]at h1
   exact T3 L i0 z hi hz h1 h2 h3 hcall
end Go.Proofs.YtbaamopmfmpfaaaGreatDoor
namespace Go.Proofs.YtbaamopmfmpfaaaGreatDoor
open Go
def wy{α:Type}(c:α->List PVal)(l:List α):List PVal:=(l.map c).flatten
def lP{α:Type}(l:List α):Option (List α):=if l.length<=ee then some l else none
def qae{α:Type}(l:List α)(i:Int)(x:α):Option (List α):=if 0<=i/\i.toNat<l.length then some (l.set i.toNat x)else none
abbrev GS(P:Program)(e:TypeId)(i:Int):Nat:=0+i.toNat * P.cellsOf e
section
variable{P:Program}{GE:List (Nat×List PVal)}{T e:TypeId}{α:Type}{c:α->List PVal}
theorem Ha{l r:List α}(h:lP l=some r):l.length<=ee/\r=l:=by
 unfold lP at h
 split at h
 ·rename_i hl;cases h;exact⟨hl,rfl⟩
 ·cases h
theorem qF.mapOk(s:qF P T e c)(l:List α):∀x∈l.map c,x.length=P.cellsOf e/\∀q∈x,q.one=true:=fun x hx=>by
 obtain⟨y,_,rfl⟩:=vap.1 hx
 exact⟨s.hc y,s.ho y⟩
theorem qF.cloneCC(s:qF P T e c){f:FuncId}(hC:lI P f e){l r:List α}(h:lP l=some r):CC P GE f [sl c l] (sl c r) [(0,e)]:=by
 obtain⟨hl,rfl⟩:=Ha h
 exact CC.clone hC ⟨aq s.cl r,trivial⟩ s.hp (s.mapOk r) (by simpa using hl)
theorem qF.cloneR(s:qF P T e c){f:FuncId}(hC:lI P f e){l r:List α}(h:lP l=some r):lI P f e/\(0<P.cellsOf e/\(∀x∈l.map c,x.length=P.cellsOf e/\∀q∈x,q.one=true)/\(l.map c).length<=ee)/\(r.length=(l.map c).length/\wy c r=(l.map c).flatten):=by
 obtain⟨hl,rfl⟩:=Ha h
 exact⟨hC,⟨s.hp,s.mapOk r,by simpa using hl⟩,by simp,rfl⟩
theorem qF.lnR(s:qF P T e c)(b off n:Nat):∀H,Bb P T (.bsl b off n) H=some (.int .i64 (n:Int)):=fun H=>by
 unfold Bb;rw[s.hu]
theorem qF.flat_len(s:qF P T e c)(l:List α):(wy c l).length=l.length * P.cellsOf e:=by
 unfold wy
 rw[Go.Proofs.YtbaamopmfmpfaaaGreatDoor.flat_len (sz:=P.cellsOf e) (fun x hx=>(s.mapOk l x hx).1)]
 simp
theorem Gj(hc:∀x,(c x).length=P.cellsOf e):∀{l:List α} {i:Nat} {x:α},l[i]? =some x->wy c l=(wy c l).take (i * P.cellsOf e)++c x++(wy c l).drop (i * P.cellsOf e+P.cellsOf e)/\∀y,wy c (l.set i y)=(wy c l).take (i * P.cellsOf e)++c y++(wy c l).drop (i * P.cellsOf e+P.cellsOf e)
 |[],i,x,h=>by simp at h
 |z::l,0,x,h=>by
  simp at h;subst h
  have e1:wy c (z::l)=c z++wy c l:=by simp[wy]
  have e2:∀y,wy c ((z::l).set 0 y)=c y++wy c l:=fun y=>by simp[wy]
  rw[e1]
  simp only[e2,vct,vaK,List.take_zero,vaD]
  rw[<-hc z,List.drop_left]
  exact⟨rfl,fun _=>rfl⟩
 | z :: l,i + 1,x,h => by
  obtain⟨h1,h2⟩:=Gj hc (l:=l) (i:=i) (x:=x) (by simpa using h)
  have e1:wy c (z::l)=c z++wy c l:=by simp[wy]
  have e2:∀y,wy c ((z::l).set (i+1) y)=c z++wy c (l.set i y):=fun y=>by simp[wy]
  have hz:=hc z
  have t1:(c z++wy c l).take ((i+1) * P.cellsOf e)=c z++(wy c l).take (i * P.cellsOf e):=by
   rw[List.take_append,va8,vbF,hz,vbx (by omega),Nat.add_sub_cancel]
  have t2:(c z++wy c l).drop ((i+1) * P.cellsOf e+P.cellsOf e)=(wy c l).drop (i * P.cellsOf e+P.cellsOf e):=by
   rw[vcP,va8,vbF,hz,vbO (by omega),vaD]
   congr 1;omega
  rw[e1,t1,t2]
  refine⟨?_,fun y=>?_⟩
  ·conv=>lhs;rw[h1]
   simp only[vbe]
  ·rw[e2,h2];simp only[vbe]
theorem qF.ldR(s:qF P T e c){l:List α}{i:Int}{x:α}{p:PVal}(hl:∀r,aU P e (c x++r)=some p)(h:cR l i=some x):aU P e ((wy c l).drop (GS P e i))=some p:=by
 obtain⟨h0,h1⟩:=Kn h
 obtain⟨h2,_⟩:=Gj (P:=P) (e:=e) s.hc h1
 have hlen:=s.flat_len l
 have hlt:=am h1
 have hle:i.toNat * P.cellsOf e<=l.length * P.cellsOf e:=vaY _ (vcv hlt)
 rw[GS,vaK]
 have:(wy c l).drop (i.toNat * P.cellsOf e)=c x++(wy c l).drop (i.toNat * P.cellsOf e+P.cellsOf e):=by
  conv=>lhs;rw[h2]
  rw[vbe,vcP,vbO (by simp;omega),vaD]
  have:((wy c l).take (i.toNat * P.cellsOf e)).length=i.toNat * P.cellsOf e:=by simp;omega
  rw[this,vby,va2]
 rw[this];exact hl _
theorem Xb{l r:List α}{i:Int}{x:α}(h:qae l i x=some r):0<=i/\i.toNat<l.length/\r=l.set i.toNat x:=by
 unfold qae at h
 split at h
 ·rename_i hh;cases h;exact⟨hh.1,hh.2,rfl⟩
 ·cases h
theorem qF.stR(s:qF P T e c){l r:List α}{i:Int}{x:α}{v:PVal}(hv:bO v=some (c x))(h:qae l i x=some r):dE P e (.bptr 0 (GS P e i)) v [.cells (wy c l) []]=some [.cells (wy c r) []]:=by
 obtain⟨h0,h1,rfl⟩:=Xb h
 obtain⟨_,h2⟩:=Gj (P:=P) (e:=e) s.hc (vab h1)
 have hlen:=s.flat_len l
 have hle:i.toNat * P.cellsOf e+P.cellsOf e<=l.length * P.cellsOf e:=by
  have:=vaY (P.cellsOf e) h1
  rw[Nat.succ_mul]at this;exact this
 unfold dE
 simp only[hv,List.getElem?_cons_zero,GS,vaK]
 rw[vak ⟨s.hc x,s.hi,by rw[s.hc x];omega,vaw.2 (s.ho x)⟩,h2,s.hc x]
 simp
end
def PS(_:List It)(F:Prop):Prop:=F
section
variable{sc:List It}{F X Y:Prop}
theorem en(h:F):PS [] F:=h
theorem sv{o:Option PVal}{p:PVal}(h:o=some p)(r:PS sc F):PS (.v p::sc) (o=some p/\F):=⟨h,r⟩
theorem cz{o:List aG->Option PVal}{p:PVal}(h:∀H,o H=some p)(r:PS sc F):PS (.v p::sc) ((∀H,o H=some p)/\F):=⟨h,r⟩
theorem sx{o:Option (List PVal)}{l:List PVal}(h:o=some l)(r:PS sc F):PS (.x l::sc) (o=some l/\F):=⟨h,r⟩
theorem se{o:Option (List PVal)}{l:List PVal}(h:o=some l)(r:PS sc F):PS (.e l::sc) (o=some l/\F):=⟨h,r⟩
theorem sg(n:Nat){x b:Bool}(h:x=b)(r:PS sc F):PS (.g n b::sc) (x=b/\F):=⟨h,r⟩
theorem ss(r:PS sc F):PS (.s::sc) F:=r
theorem W6{o:Option (List PVal)}{l:List PVal}(h:o=some l)(r:PS sc F):PS (.s::sc) (o=some l/\F):=⟨h,r⟩
theorem bT{P:Program}{GE:List (Nat×List PVal)}{g:FuncId}{vs:List PVal}{p:PVal}{ro:List (Nat×TypeId)}(h:CC P GE g vs p ro)(r:PS sc F):PS (.c p ro::sc) (CC P GE g vs p ro/\F):=⟨h,r⟩
theorem sb{P:Program}{T:TypeId}{ps:List (Nat×PVal)}{p:PVal}{L:List (Nat×TypeId)}(h:cW P T ps=some p)(h':qV P T ps L)(r:PS sc F):PS (.b p L::sc) (cW P T ps=some p/\qV P T ps L/\F):=⟨h,h',r⟩
theorem sy{l vs:List PVal}(h:l=vs)(r:PS sc F):PS (.y vs::sc) (l=vs/\F):=⟨h,r⟩
theorem Yw{o:Option (List PVal)}{vs:List PVal}(h:o=some vs)(r:PS sc F):PS (.y vs::sc) (o=some vs/\F):=⟨h,r⟩
theorem sz{o:Option PVal}{l:List PVal}(h:o=some (.agg l))(r:PS sc F):PS (.z l::sc) (o=some (.agg l)/\F):=⟨h,r⟩
theorem qX(an:List Nat)(r:PS sc F):PS (.dr an::sc) F:=r
theorem nD(n:Nat)(r:PS sc F):PS (.pa n::sc) F:=r
theorem di{P:Program}{GE:List (Nat×List PVal)}{m:Nat}{c:Code}{e:Exit}{s0 s1:az}(h:aT P GE m c (EX e s1) s0)(r:PS sc F):PS (.pc s0 e s1::sc) ((s0.tmps=s0.tmps/\s0.boxes=s0.boxes/\true=true)/\aT P GE m c (EX e s1) s0/\F):=⟨fr s0,h,r⟩
theorem qce(i:It)(r:PS sc F):PS (i::sc) F:=r
theorem si(i:It)(h:X)(r:PS sc F):PS (i::sc) (X/\F):=⟨h,r⟩
theorem sf(h:X)(r:PS sc F):PS sc (X/\F):=⟨h,r⟩
theorem qdw{o:Option (List aG)}{B:aG}(h:o=some [B])(r:PS sc F):PS (.w 0 B::sc) (o=some [B]/\F):=⟨h,r⟩
theorem qeb{o:Option (List (PVal×PVal))}{m:List (PVal×PVal)}(h:o=some m)(r:PS sc F):PS (.w 0 (.map m)::sc) (o=some m/\F):=⟨h,r⟩
theorem qdv(i:Nat)(e:TypeId){n k:Nat}{cs fs:List PVal}(h:X/\Y/\(n=k/\cs=fs))(r:PS sc F):PS (.ar i e n cs::sc) (X/\Y/\(n=k/\cs=fs)/\F):=⟨h.1,h.2.1,h.2.2,r⟩
theorem qbH(i:Nat)(es:List (List PVal))(lv rk:List Nat)(h:X)(h':Y){Z:Prop}(h'':Z)(r:PS sc F):PS (.fz i es lv rk::sc) (X/\Y/\Z/\F):=⟨h,h',h'',r⟩
end
section
variable{P:Program}{GE:List (Nat×List PVal)}{A:List Nat}{m:Nat}
theorem lU(hf:P.follows .mixedOrders=true){c:Code}{e0:Exit}{st0 st:az}{sc:List It}{F:Prop}(h:PS sc F)(he:F=xx P GE A m c sc st (FN e0 st0)):aT P GE m c (EX e0 st0) st:=piece hf sc (Eq.mp he h)
theorem qbu(hf:P.follows .mixedOrders=true){σ X:Type}{S:σ->az}{ex:X->Exit}{so:X->az}{c:Code}{s:σ}{st:az}{sc:List It}{F:Prop}(h:PS sc F)(he:F=xx P GE A m c sc st (FN .normal (S s))):aT P GE m c (LQ S ex so (.inl s)) st:=mN hf sc (Eq.mp he h)
theorem qbx(hf:P.follows .mixedOrders=true){σ X:Type}{S:σ->az}{ex:X->Exit}{so:X->az}{c:Code}{x:X}{st:az}{sc:List It}{F:Prop}(hn:ex x≠.normal)(h:PS sc F)(he:F=xx P GE A m c sc st (FN (ex x) (so x))):aT P GE m c (LQ S ex so (.inr x)) st:=qcR hf sc hn (Eq.mp he h)
theorem C.evp(hf:P.follows .mixedOrders=true){f:FuncId}{fn:Func}{c:Code}{args:List PVal}{r:PVal}{ro:List (Nat×TypeId)}
  (hcall:∀vs w,(callFunc f vs).run P w=.ok (.enter f vs) w) (hfn:P.funcs[f]? =some fn) (hb:fn.body=some c) (hcl:ig 0 args) {sc:List It} {F:Prop} (h:PS sc F)
  (he:F=xx P GE A 0 c sc ⟨args++List.replicate (fn.ntmps - args.length) .undef,[],[]⟩ (FR P fn.results.toList r ro)):CC P GE f args r ro:=C.ev hf hcall hfn hb hcl sc (Eq.mp he h)
theorem C.evGp(hf:P.follows .mixedOrders=true){f:FuncId}{fn:Func}{c:Code}{args:List PVal}{oa:List ((Nat×Nat)×TypeId)}{H:List aG}{r:PVal}{ro:List (Nat×TypeId)}{H':List aG}
  (hm:decide (m % 1000=H.length)&&decide (m≠0)&&decide (H'.length=H.length)=true) (hcall:∀vs w,(callFunc f vs).run P w=.ok (.enter f vs) w) (hfn:P.funcs[f]? =some fn) (hb:fn.body=some c) {sc:List It} {F:Prop} (h:PS sc F)
  (he:F=xx P GE A m c sc ⟨args++List.replicate (fn.ntmps - args.length) .undef,H,oa⟩ (qaM P fn.results.toList r ro H')):C P GE f args oa H r ro H':=C.evG hf hm hcall hfn hb sc (Eq.mp he h)
end
section
variable{P:Program}{GE:List (Nat×List PVal)}{A:List Nat}{m:Nat}
theorem dS(hf:P.follows .mixedOrders=true){σ X:Type}{S:σ->az}{ex:X->Exit}{so:X->az}{c:Code}{s:σ}{st:az}{sc:List It}{F:Prop}(h:PS sc F)(he:F=xx P GE A m c sc st (qaL m .normal (S s))):aT P GE m c (LQ S ex so (.inl s)) st:=qbv hf sc (Eq.mp he h)
theorem Gx(hf:P.follows .mixedOrders=true){σ X:Type}{S:σ->az}{ex:X->Exit}{so:X->az}{c:Code}{x:X}{st:az}{sc:List It}{F:Prop}(hn:ex x≠.normal)(h:PS sc F)(he:F=xx P GE A m c sc st (qaL m (ex x) (so x))):aT P GE m c (LQ S ex so (.inr x)) st:=qby hf sc hn (Eq.mp he h)
end
def tm(n:Nat):Nat->List (Nat×PVal)->List PVal
 |k,[]=>List.replicate (n - k) .undef
 |k,x::l=>List.replicate (x.1 - k) .undef++x.2::tm n (x.1+1) l
abbrev aY(n:Nat)(l:List (Nat×PVal))(H:List aG)(o:List ((Nat×Nat)×TypeId)):az:=⟨tm n 0 l,H,o⟩
def ZM(n:Nat):List (Nat×PVal)->Prop
 |[]=>True
 |x::l=>x.2.cl n/\ZM n l
theorem Od{n:Nat}{l:List PVal}(h:ig n l):∀k,ig n (List.replicate k .undef++l)
 |0=>h
 |k+1=>by rw[List.replicate_succ,vaF];exact⟨trivial,Od h k⟩
theorem eg{n N:Nat}:∀{l:List (Nat×PVal)} {k:Nat},ZM n l->ig n (tm N k l)
 |[],k,_=>by unfold tm;have:=Od (n:=n) (l:=[]) trivial (N - k);rwa[va6]at this
 |x::l,k,h=>by unfold tm;exact Od (l:=x.2::tm N (x.1+1) l) (by simp only[ig];exact⟨h.1,eg h.2⟩) _
def bits:Nat->Nat->List Bool->List Bool
 |0,_,l=>l
 |k+1,n,l=>if n<=1 then l else bits k (n / 2) ((n % 2==1)::l)
def cA(c:Code)(n:Nat):Code:=fI c (bits 100 n [])
section
variable{X Y:Type}
def oG(F:(X->Option Y)->X->Option Y)(x:X):Option Y:=qbr F XI x
theorem ZI:18446744073709551616<XI:=by unfold XI;omega
theorem cU{F:(X->Option Y)->X->Option Y}{M:X->Y->Prop}(hF:∀rec:X->Option Y,(∀x r,rec x=some r->M x r)->∀x r,F rec x=some r->M x r){x:X}{r:Y}(h:oG F x=some r):M x r:=by
 have key:∀n x r,qbr F n x=some r->M x r:=by
  intro n
  induction n with
  |zero=>intro x r h;cases h
  |succ n ih=>intro x r h;exact hF _ ih x r h
 exact key _ x r h
theorem kf{F:(X->Option Y)->X->Option Y}(μ:X->Nat)(Q:X->Prop)(s:X->Y)(h:∀(R:X->Option Y) x,Q x->(∀y,μ y<μ x->Q y->R y=some (s y))->F R x=some (s x))(x:X)(hx:Q x)(hm:μ x<XI):oG F x=some (s x):=by
 have key:∀n x,μ x<n->Q x->qbr F n x=some (s x):=by
  intro n
  induction n with
  |zero=>intro x hx;omega
  |succ n ih=>intro x hx hq;exact h _ x hq fun y hy hqy=>ih y (by omega) hqy
 exact key _ x hm hx
end
def Vc{α:Type}(n:Nat)(l:List α)(i:Int):Option α:=if 0<=i/\i.toNat<n then l[i.toNat]? else none
def Y2{α:Type}(n:Nat)(l:List α):Option (List α):=if n=l.length then some l else none
theorem XW{α:Type}{n:Nat}{l:List α}{i:Int}{x:α}(h:Vc n l i=some x):cR l i=some x:=by
 unfold Vc at h
 split at h
 ·rename_i hh;unfold cR;rw[vak hh.1];exact h
 ·cases h
theorem Kh{α:Type}{n:Nat}{l r:List α}(h:Y2 n l=some r):n=l.length/\r=l:=by
 unfold Y2 at h
 split at h
 ·cases h;exact⟨by assumption,rfl⟩
 ·cases h
section
variable{P:Program}{GE:List (Nat×List PVal)}{T e:TypeId}{α:Type}{c:α->List PVal}
theorem qF.iaN(s:qF P T e c)(b:Nat){n:Nat}{l:List α}{i:Int}{k:IntKind}{x:α}(h:Vc n l i=some x):kQ P T (.bsl b 0 n) (.int k i)=some (.bptr b (GS P e i)):=by
 unfold Vc at h
 split at h
 ·rename_i hh
  unfold kQ
  rw[s.hu]
  simp only
  rw[vak ⟨hh.1,by omega,s.hi⟩]
 ·cases h
theorem qF.ldN(s:qF P T e c){n:Nat}{l:List α}{i:Int}{x:α}{p:PVal}(hl:∀r,aU P e (c x++r)=some p)(h:Vc n l i=some x):aU P e ((wy c l).drop (GS P e i))=some p:=s.ldR hl (XW h)
theorem qF.fz1(s:qF P T e c){m b:Nat}(hb:decide (m % 1000<=b)=true)(l:List α):(m % 1000<=b)/\∃sz,0<sz/\∀x∈l.map c,x.length=sz:=⟨vaC hb,_,s.hp,fun x hx=>(s.mapOk l x hx).1⟩
theorem qF.fz2(s:qF P T e c)(b:Nat)(l:List α):Ix b (l.map c):=yD b _ (Oc fun p hp=>by obtain⟨x,_,rfl⟩:=vap.1 hp;exact s.cl x)
theorem qcM(c:α->List PVal){n:Nat}{l r:List α}(h:Y2 n l=some r):wy c l=(r.map c).flatten:=by rw[(Kh h).2];rfl
theorem qcN(c:α->List PVal){n:Nat}{l r:List α}(h:Y2 n l=some r):n=(r.map c).length:=by rw[(Kh h).2,vaL];exact(Kh h).1
theorem qdm{m b:Nat}(hb:decide (m % 1000<=b)=true)(l:List PVal)(hl:decide (l.length≠0)=true):(m % 1000<=b)/\∃sz,0<sz/\∀x∈[l],x.length=sz:=⟨vaC hb,l.length,by have:=vaC hl;omega,fun x hx=>by rw[va4.1 hx]⟩
theorem qdn(b:Nat){l:List PVal}(h:ig 0 l):Ix b [l]:=yD b _ ⟨h,trivial⟩
theorem qdo{l r:List PVal}(h:r=l):l=[r].flatten:=by rw[h];simp
theorem Vd(b:Nat){p:PVal}(h:p.cl 0):p.no b:=Qo b p h
end
theorem qcb{α:Type}{c:α->List PVal}(n:Nat)(h:∀x,ig 0 (c x)):∀(l:List α),ig n (wy c l)
 |[]=>trivial
 |x::l=>by
  have e:wy c (x::l)=c x++wy c l:=by simp[wy]
  rw[e]
  exact pC.2 ⟨oA (h x),qcb n h l⟩
theorem eF(e:Exit)(s:az):PS [] (e=e/\s.tmps=s.tmps/\s.boxes=s.boxes/\true=true):=⟨rfl,fr s⟩
theorem zn(m:Nat)(e:Exit)(s:az)(h4:decide (m % 1000<=s.boxes.length)=true)(h5:ig s.boxes.length s.tmps)(h6:Ob s.boxes.length s.boxes):PS [] (e=e/\s.tmps=s.tmps/\s.boxes=s.boxes/\true=true/\decide (m % 1000<=s.boxes.length)=true/\ig s.boxes.length s.tmps/\Ob s.boxes.length s.boxes):=⟨rfl,qd3 m s h4 h5 h6⟩
open Go Go.Proofs.Tryz
set_option linter.unusedVariables false
set_option maxRecDepth 100000
noncomputable abbrev Pg:=Tryz.prog
theorem mixed:Pg.follows .mixedOrders=true:=by kernel_rfl
structure dh where
 Name:ag
 Sort_:ag
deriving DecidableEq
def bE(x:dh):List PVal:=[.str x.Name,.str x.Sort_]
theorem IR(x:dh):bE x=[.str x.Name,.str x.Sort_]:=rfl
theorem lu(x:dh):ig 0 (bE x):=(aI trivial (aI trivial trivial))
abbrev Xd(x:dh):PVal:=.agg (bE x)
theorem Qf(x:dh):(bE x).length=2:=by rw[IR];rfl
theorem WC(x:dh):bO (Xd x)=some (bE x):=rfl
theorem WE(x:dh):bO (.agg (bE x))=some [.str x.Name,.str x.Sort_]:=by rw[IR];rfl
theorem Wx(x:dh):∀q∈bE x,q.one=true:=by
 intro q hq
 rw[IR]at hq
 simp only[vaA,vaJ,or_false]at hq
 rcases hq with rfl|rfl<;>rfl
theorem VL:Pg.cellsOf 102=2:=by kernel_rfl
theorem X1(x:dh):aU Pg 102 (bE x)=some (.agg (bE x)):=by
 have:=kR (P:=Pg) (t:=102) (l:=bE x) (r:=[]) (by kernel_rfl) (VL.trans (Qf x).symm)
 rwa[va6]at this
theorem PN(x0:ag)(x1:ag):cW Pg 102 [(0,.str x0),(1,.str x1)]=some (.agg (bE (⟨x0,x1⟩:dh))):=by
 kernel_rfl
theorem wc(x:dh):aA Pg 102 (.eptr (bE x)) 0=some (.eptr ((bE x).drop 0)):=by kernel_rfl
theorem AZ(x:dh):aU Pg 9 ((bE x).drop 0)=some (.str x.Name):=by kernel_rfl
inductive aa where
 |mk (Op:Int) (Name:ag) (N:Int) (Kids:(List aa))
def aa.Op:aa->Int
 |⟨x,_,_,_⟩=>x
def aa.Name:aa->ag
 |⟨_,x,_,_⟩=>x
def aa.N:aa->Int
 |⟨_,_,x,_⟩=>x
def aa.Kids:aa->(List aa)
 |⟨_,_,_,x⟩=>x
mutual
def ac:aa->List PVal
 |⟨x0,x1,x2,x3⟩=>[.int .i64 x0,.str x1,.int .i64 x2,.slice (u3 x3)]
def u3:List aa->List (List PVal)
 |[]=>[]
 |x::r=>ac x::u3 r
end
theorem Ks:∀(l:List aa),u3 l=l.map ac
 |[]=>by simp[u3]
 |x::r=>by simp[u3,Ks r]
mutual
theorem ah:∀(x:aa),ig 0 (ac x)
 |⟨x0,x1,x2,x3⟩=>by rw[ac];exact(aI trivial (aI trivial (aI trivial (aI (MH x3) trivial))))
theorem MH:∀(l:List aa),sE 0 (u3 l)
 |[]=>by simp[u3,sE]
 |x::r=>by rw[u3];exact⟨ah x,MH r⟩
end
theorem aF:∀(x:aa),ac x=[.int .i64 x.Op,.str x.Name,.int .i64 x.N,sl ac x.Kids]
 |⟨x0,x1,x2,x3⟩=>by
  simp only[ac,Ks]
  rfl
abbrev fe(x:aa):PVal:=.agg (ac x)
theorem Gp(x:aa):(ac x).length=4:=by rw[aF];rfl
theorem cr(x:aa):bO (.agg (ac x))=some (ac x):=rfl
theorem dl(x:aa):bO (fe x)=some (ac x):=rfl
theorem dn(x:aa):bO (.agg (ac x))=some [.int .i64 x.Op,.str x.Name,.int .i64 x.N,sl ac x.Kids]:=by rw[aF];rfl
theorem UE(x:aa):∀q∈ac x,q.one=true:=by
 intro q hq
 rw[aF]at hq
 simp only[vaA,vaJ,or_false]at hq
 rcases hq with rfl|rfl|rfl|rfl<;>rfl
theorem XL:Pg.cellsOf 36=4:=by kernel_rfl
theorem be(x:aa):aU Pg 36 (ac x)=some (.agg (ac x)):=by
 have:=kR (P:=Pg) (t:=36) (l:=ac x) (r:=[]) (by kernel_rfl) (XL.trans (Gp x).symm)
 rwa[va6]at this
theorem cm(x:aa)(r:List PVal):aU Pg 36 ([.int .i64 x.Op,.str x.Name,.int .i64 x.N,sl ac x.Kids]++r)=some (.agg (ac x)):=by
 rw[<-aF];exact kR (by kernel_rfl) (XL.trans (Gp x).symm)
theorem e8(x:aa):PVal.agg [.int .i64 x.Op,.str x.Name,.int .i64 x.N,sl ac x.Kids]=.agg (ac x):=by rw[aF]
theorem tH:cW Pg 36 []=some (.agg (ac (⟨0,([]:ag),0,([]:List aa)⟩:aa))):=by
 simp only[aF]
 kernel_rfl
theorem tF:qV Pg 36 [] [(3,36)]:=by
 exact⟨[.int .i64 0,.str ([]:ag),.int .i64 0,.val gw],by kernel_rfl,(aI rfl trivial)⟩
theorem ou(x0:Int)(x1:ag):cW Pg 36 [(0,.int .i64 x0),(1,.str x1)]=some (.agg (ac (⟨x0,x1,0,([]:List aa)⟩:aa))):=by
 simp only[aF]
 kernel_rfl
theorem oq(x0:Int)(x1:ag):qV Pg 36 [(0,.int .i64 x0),(1,.str x1)] [(3,36)]:=by
 exact⟨[.int .i64 x0,.str x1,.int .i64 0,.val gw],by kernel_rfl,(aI rfl trivial)⟩
theorem AJ(x0:Int)(x1:ag)(x2:Int):cW Pg 36 [(0,.int .i64 x0),(1,.str x1),(2,.int .i64 x2)]=some (.agg (ac (⟨x0,x1,x2,([]:List aa)⟩:aa))):=by
 simp only[aF]
 kernel_rfl
theorem AH(x0:Int)(x1:ag)(x2:Int):qV Pg 36 [(0,.int .i64 x0),(1,.str x1),(2,.int .i64 x2)] [(3,36)]:=by
 exact⟨[.int .i64 x0,.str x1,.int .i64 x2,.val gw],by kernel_rfl,(aI rfl trivial)⟩
theorem ym(x0:Int)(x2:Int):cW Pg 36 [(0,.int .i64 x0),(2,.int .i64 x2)]=some (.agg (ac (⟨x0,([]:ag),x2,([]:List aa)⟩:aa))):=by
 simp only[aF]
 kernel_rfl
theorem yk(x0:Int)(x2:Int):qV Pg 36 [(0,.int .i64 x0),(2,.int .i64 x2)] [(3,36)]:=by
 exact⟨[.int .i64 x0,.str ([]:ag),.int .i64 x2,.val gw],by kernel_rfl,(aI rfl trivial)⟩
theorem EA(x0:Int)(x3:(List aa)):cW Pg 36 [(0,.int .i64 x0),(3,sl ac x3)]=some (.agg (ac (⟨x0,([]:ag),0,x3⟩:aa))):=by
 simp only[aF]
 kernel_rfl
theorem JV(x0:Int):cW Pg 36 [(0,.int .i64 x0)]=some (.agg (ac (⟨x0,([]:ag),0,([]:List aa)⟩:aa))):=by
 simp only[aF]
 kernel_rfl
theorem JT(x0:Int):qV Pg 36 [(0,.int .i64 x0)] [(3,36)]:=by
 exact⟨[.int .i64 x0,.str ([]:ag),.int .i64 0,.val gw],by kernel_rfl,(aI rfl trivial)⟩
theorem bC(x:aa):aA Pg 36 (.eptr (ac x)) 0=some (.eptr ((ac x).drop 0)):=by rw[aF];kernel_rfl
theorem cC(x:aa):aA Pg 36 (.eptr (ac x)) 1=some (.eptr ((ac x).drop 1)):=by rw[aF];kernel_rfl
theorem de(x:aa):aA Pg 36 (.eptr (ac x)) 2=some (.eptr ((ac x).drop 2)):=by rw[aF];kernel_rfl
theorem bq(x:aa):aA Pg 36 (.eptr (ac x)) 3=some (.eptr ((ac x).drop 3)):=by rw[aF];kernel_rfl
theorem bD(x:aa):aU Pg 33 ((ac x).drop 0)=some (.int .i64 x.Op):=by rw[aF];kernel_rfl
theorem cN(x:aa):aU Pg 9 ((ac x).drop 1)=some (.str x.Name):=by rw[aF];kernel_rfl
theorem dz(x:aa):aU Pg 3 ((ac x).drop 2)=some (.int .i64 x.N):=by rw[aF];kernel_rfl
theorem bu(x:aa):aU Pg 34 ((ac x).drop 3)=some (sl ac x.Kids):=by rw[aF];kernel_rfl
inductive ae where
 |mk (Op:Int) (Name:ag) (Args:(List ae)) (Names:(List ag)) (Pred:aa) (Preds:(List aa))
def ae.Op:ae->Int
 |⟨x,_,_,_,_,_⟩=>x
def ae.Name:ae->ag
 |⟨_,x,_,_,_,_⟩=>x
def ae.Args:ae->(List ae)
 |⟨_,_,x,_,_,_⟩=>x
def ae.Names:ae->(List ag)
 |⟨_,_,_,x,_,_⟩=>x
def ae.Pred:ae->aa
 |⟨_,_,_,_,x,_⟩=>x
def ae.Preds:ae->(List aa)
 |⟨_,_,_,_,_,x⟩=>x
mutual
def af:ae->List PVal
 |⟨x0,x1,x2,x3,x4,x5⟩=>[.int .i64 x0,.str x1,.slice (u4 x2),sl cS x3]++(ac x4++([sl ac x5]))
def u4:List ae->List (List PVal)
 |[]=>[]
 |x::r=>af x::u4 r
end
theorem Kt:∀(l:List ae),u4 l=l.map af
 |[]=>by simp[u4]
 |x::r=>by simp[u4,Kt r]
mutual
theorem av:∀(x:ae),ig 0 (af x)
 |⟨x0,x1,x2,x3,x4,x5⟩=>by rw[af];exact pC.2 (aI ((aI trivial (aI trivial (aI (MI x2) (aI (aq gG x3) trivial))))) (pC.2 (aI (ah x4) ((aI (aq ah x5) trivial)))))
theorem MI:∀(l:List ae),sE 0 (u4 l)
 |[]=>by simp[u4,sE]
 |x::r=>by rw[u4];exact⟨av x,MI r⟩
end
theorem bk:∀(x:ae),af x=[.int .i64 x.Op,.str x.Name,sl af x.Args,sl cS x.Names,.int .i64 x.Pred.Op,.str x.Pred.Name,.int .i64 x.Pred.N,sl ac x.Pred.Kids,sl ac x.Preds]
 |⟨x0,x1,x2,x3,x4,x5⟩=>by
  simp only[af,Kt,aF,vaF,vaD]
  rfl
abbrev lE(x:ae):PVal:=.agg (af x)
theorem BN(x:ae):(af x).length=9:=by rw[bk];rfl
theorem cF(x:ae):bO (.agg (af x))=some (af x):=rfl
theorem gm(x:ae):bO (lE x)=some (af x):=rfl
theorem iT(x:ae):bO (.agg (af x))=some [.int .i64 x.Op,.str x.Name,sl af x.Args,sl cS x.Names,.int .i64 x.Pred.Op,.str x.Pred.Name,.int .i64 x.Pred.N,sl ac x.Pred.Kids,sl ac x.Preds]:=by rw[bk];rfl
theorem UG(x:ae):∀q∈af x,q.one=true:=by
 intro q hq
 rw[bk]at hq
 simp only[vaA,vaJ,or_false]at hq
 rcases hq with rfl|rfl|rfl|rfl|rfl|rfl|rfl|rfl|rfl<;>rfl
theorem VM:Pg.cellsOf 38=9:=by kernel_rfl
theorem bw(x:ae):aU Pg 38 (af x)=some (.agg (af x)):=by
 have:=kR (P:=Pg) (t:=38) (l:=af x) (r:=[]) (by kernel_rfl) (VM.trans (BN x).symm)
 rwa[va6]at this
theorem dj(x:ae)(r:List PVal):aU Pg 38 ([.int .i64 x.Op,.str x.Name,sl af x.Args,sl cS x.Names,.int .i64 x.Pred.Op,.str x.Pred.Name,.int .i64 x.Pred.N,sl ac x.Pred.Kids,sl ac x.Preds]++r)=some (.agg (af x)):=by
 rw[<-bk];exact kR (by kernel_rfl) (VM.trans (BN x).symm)
theorem pV(x:ae):PVal.agg [.int .i64 x.Op,.str x.Name,sl af x.Args,sl cS x.Names,.int .i64 x.Pred.Op,.str x.Pred.Name,.int .i64 x.Pred.N,sl ac x.Pred.Kids,sl ac x.Preds]=.agg (af x):=by rw[bk]
theorem N8(x0:Int)(x1:ag):cW Pg 38 [(0,.int .i64 x0),(1,.str x1)]=some (.agg (af (⟨x0,x1,([]:List ae),([]:List ag),(⟨0,([]:ag),0,([]:List aa)⟩:aa),([]:List aa)⟩:ae))):=by
 simp only[bk]
 kernel_rfl
theorem N5(x0:Int)(x1:ag):qV Pg 38 [(0,.int .i64 x0),(1,.str x1)] [(2,38),(3,9),(7,36),(8,36)]:=by
 exact⟨[.int .i64 x0,.str x1,.val gw,.val gw,.int .i64 0,.str ([]:ag),.int .i64 0,.val gw,.val gw],by kernel_rfl,(aI rfl (aI rfl (aI rfl (aI rfl trivial))))⟩
theorem Dn(x0:Int)(x1:ag)(x3:(List ag))(x4:aa)(x5:(List aa)):cW Pg 38 [(0,.int .i64 x0),(1,.str x1),(3,sl cS x3),(4,.agg (ac x4)),(5,sl ac x5)]=some (.agg (af (⟨x0,x1,([]:List ae),x3,x4,x5⟩:ae))):=by
 simp only[bk,aF]
 kernel_rfl
theorem Dl(x0:Int)(x1:ag)(x3:(List ag))(x4:aa)(x5:(List aa)):qV Pg 38 [(0,.int .i64 x0),(1,.str x1),(3,sl cS x3),(4,.agg (ac x4)),(5,sl ac x5)] [(2,38)]:=by
 simp only[aF]
 exact⟨[.int .i64 x0,.str x1,.val gw,sl cS x3,.int .i64 x4.Op,.str x4.Name,.int .i64 x4.N,sl ac x4.Kids,sl ac x5],by kernel_rfl,(aI rfl trivial)⟩
theorem AK(x0:Int)(x3:(List ag))(x2:(List ae)):cW Pg 38 [(0,.int .i64 x0),(3,sl cS x3),(2,sl af x2)]=some (.agg (af (⟨x0,([]:ag),x2,x3,(⟨0,([]:ag),0,([]:List aa)⟩:aa),([]:List aa)⟩:ae))):=by
 simp only[bk]
 kernel_rfl
theorem AI(x0:Int)(x3:(List ag))(x2:(List ae)):qV Pg 38 [(0,.int .i64 x0),(3,sl cS x3),(2,sl af x2)] [(7,36),(8,36)]:=by
 exact⟨[.int .i64 x0,.str ([]:ag),sl af x2,sl cS x3,.int .i64 0,.str ([]:ag),.int .i64 0,.val gw,.val gw],by kernel_rfl,(aI rfl (aI rfl trivial))⟩
theorem N9(x0:Int)(x4:aa):cW Pg 38 [(0,.int .i64 x0),(4,.agg (ac x4))]=some (.agg (af (⟨x0,([]:ag),([]:List ae),([]:List ag),x4,([]:List aa)⟩:ae))):=by
 simp only[bk,aF]
 kernel_rfl
theorem N6(x0:Int)(x4:aa):qV Pg 38 [(0,.int .i64 x0),(4,.agg (ac x4))] [(2,38),(3,9),(8,36)]:=by
 simp only[aF]
 exact⟨[.int .i64 x0,.str ([]:ag),.val gw,.val gw,.int .i64 x4.Op,.str x4.Name,.int .i64 x4.N,sl ac x4.Kids,.val gw],by kernel_rfl,(aI rfl (aI rfl (aI rfl trivial)))⟩
theorem Rx(x0:Int):cW Pg 38 [(0,.int .i64 x0)]=some (.agg (af (⟨x0,([]:ag),([]:List ae),([]:List ag),(⟨0,([]:ag),0,([]:List aa)⟩:aa),([]:List aa)⟩:ae))):=by
 simp only[bk]
 kernel_rfl
theorem Rt(x0:Int):qV Pg 38 [(0,.int .i64 x0)] [(2,38),(3,9),(7,36),(8,36)]:=by
 exact⟨[.int .i64 x0,.str ([]:ag),.val gw,.val gw,.int .i64 0,.str ([]:ag),.int .i64 0,.val gw,.val gw],by kernel_rfl,(aI rfl (aI rfl (aI rfl (aI rfl trivial))))⟩
theorem zg(x0:Int)(x1:ag)(b3 n3:Nat)(x4:aa)(x5:(List aa)):cW Pg 38 [(0,.int .i64 x0),(1,.str x1),(3,.bsl b3 0 n3),(4,.agg (ac x4)),(5,sl ac x5)]=some (.agg [.int .i64 x0,.str x1,sl af ([]:List ae),.bsl b3 0 n3,.int .i64 x4.Op,.str x4.Name,.int .i64 x4.N,sl ac x4.Kids,sl ac x5]):=by
 simp only[aF]
 kernel_rfl
theorem ze(x0:Int)(x1:ag)(b3 n3:Nat)(x4:aa)(x5:(List aa)):qV Pg 38 [(0,.int .i64 x0),(1,.str x1),(3,.bsl b3 0 n3),(4,.agg (ac x4)),(5,sl ac x5)] [(2,38)]:=by
 simp only[aF]
 exact⟨[.int .i64 x0,.str x1,.val gw,.bsl b3 0 n3,.int .i64 x4.Op,.str x4.Name,.int .i64 x4.N,sl ac x4.Kids,sl ac x5],by kernel_rfl,(aI rfl trivial)⟩
theorem aK(x:ae):aA Pg 38 (.eptr (af x)) 0=some (.eptr ((af x).drop 0)):=by rw[bk];kernel_rfl
theorem df(x:ae):aA Pg 38 (.eptr (af x)) 1=some (.eptr ((af x).drop 1)):=by rw[bk];kernel_rfl
theorem aW(x:ae):aA Pg 38 (.eptr (af x)) 2=some (.eptr ((af x).drop 2)):=by rw[bk];kernel_rfl
theorem bh(x:ae):aA Pg 38 (.eptr (af x)) 3=some (.eptr ((af x).drop 3)):=by rw[bk];kernel_rfl
theorem d8(x:ae):aA Pg 38 (.eptr (af x)) 4=some (.eptr ((af x).drop 4)):=by rw[bk];kernel_rfl
theorem dJ(x:ae):aA Pg 38 (.eptr (af x)) 5=some (.eptr ((af x).drop 8)):=by rw[bk];kernel_rfl
theorem aL(x:ae):aU Pg 30 ((af x).drop 0)=some (.int .i64 x.Op):=by rw[bk];kernel_rfl
theorem dA(x:ae):aU Pg 9 ((af x).drop 1)=some (.str x.Name):=by rw[bk];kernel_rfl
theorem aX(x:ae):aU Pg 31 ((af x).drop 2)=some (sl af x.Args):=by rw[bk];kernel_rfl
theorem bj(x:ae):aU Pg 32 ((af x).drop 3)=some (sl cS x.Names):=by rw[bk];kernel_rfl
theorem d9(x:ae):aU Pg 36 ((af x).drop 4)=some (.agg (ac x.Pred)):=by
 rw[bk,aF];kernel_rfl
theorem dM(x:ae):aU Pg 34 ((af x).drop 8)=some (sl ac x.Preds):=by rw[bk];kernel_rfl
theorem Uq(x:ae)(r:List PVal):aU Pg 38 (af x++r)=some (.agg (af x)):=kR (by kernel_rfl) (VM.trans (BN x).symm)
structure iu where
 Name:ag
 Names:(List ag)
 Fields:(List ae)
def ef(x:iu):List PVal:=[.str x.Name,sl cS x.Names,sl af x.Fields]
theorem Om(x:iu):ef x=[.str x.Name,sl cS x.Names,sl af x.Fields]:=rfl
theorem EC(x:iu):ig 0 (ef x):=(aI trivial (aI (aq gG x.Names) (aI (aq av x.Fields) trivial)))
theorem Wj(x:iu):(ef x).length=3:=by rw[Om];rfl
theorem Wv(x:iu):∀q∈ef x,q.one=true:=by
 intro q hq
 rw[Om]at hq
 simp only[vaA,vaJ,or_false]at hq
 rcases hq with rfl|rfl|rfl<;>rfl
theorem qbh:Pg.cellsOf 73=3:=by kernel_rfl
theorem On(x:iu):aA Pg 73 (.eptr (ef x)) 1=some (.eptr ((ef x).drop 1)):=by kernel_rfl
theorem Oo(x:iu):aA Pg 73 (.eptr (ef x)) 2=some (.eptr ((ef x).drop 2)):=by kernel_rfl
theorem OK(x:iu):aU Pg 32 ((ef x).drop 1)=some (sl cS x.Names):=by kernel_rfl
theorem OL(x:iu):aU Pg 31 ((ef x).drop 2)=some (sl af x.Fields):=by kernel_rfl
structure eS where
 Name:ag
 Vars:(List ag)
 Preds:(List dh)
 Cons:(List iu)
def co(x:eS):List PVal:=[.str x.Name,sl cS x.Vars,sl bE x.Preds,sl ef x.Cons]
theorem tO(x:eS):co x=[.str x.Name,sl cS x.Vars,sl bE x.Preds,sl ef x.Cons]:=rfl
theorem wO(x:eS):ig 0 (co x):=(aI trivial (aI (aq gG x.Vars) (aI (aq lu x.Preds) (aI (aq EC x.Cons) trivial))))
theorem Gn(x:eS):(co x).length=4:=by rw[tO];rfl
theorem Gz(x:eS):bO (.agg (co x))=some [.str x.Name,sl cS x.Vars,sl bE x.Preds,sl ef x.Cons]:=by rw[tO];rfl
theorem UB(x:eS):∀q∈co x,q.one=true:=by
 intro q hq
 rw[tO]at hq
 simp only[vaA,vaJ,or_false]at hq
 rcases hq with rfl|rfl|rfl|rfl<;>rfl
theorem XN:Pg.cellsOf 71=4:=by kernel_rfl
theorem Wl(x:eS):aU Pg 71 (co x)=some (.agg (co x)):=by
 have:=kR (P:=Pg) (t:=71) (l:=co x) (r:=[]) (by kernel_rfl) (XN.trans (Gn x).symm)
 rwa[va6]at this
theorem Ur(x:eS)(r:List PVal):aU Pg 71 ([.str x.Name,sl cS x.Vars,sl bE x.Preds,sl ef x.Cons]++r)=some (.agg (co x)):=by
 rw[<-tO];exact kR (by kernel_rfl) (XN.trans (Gn x).symm)
theorem Nk(x:eS):PVal.agg [.str x.Name,sl cS x.Vars,sl bE x.Preds,sl ef x.Cons]=.agg (co x):=by rw[tO]
theorem Rv:cW Pg 71 []=some (.agg (co (⟨([]:ag),([]:List ag),([]:List dh),([]:List iu)⟩:eS))):=by
 kernel_rfl
theorem Rq:qV Pg 71 [] [(1,9),(2,102),(3,73)]:=by
 exact⟨[.str ([]:ag),.val gw,.val gw,.val gw],by kernel_rfl,(aI rfl (aI rfl (aI rfl trivial)))⟩
theorem LU(x:eS):aA Pg 71 (.eptr (co x)) 0=some (.eptr ((co x).drop 0)):=by kernel_rfl
theorem LV(x:eS):aA Pg 71 (.eptr (co x)) 1=some (.eptr ((co x).drop 1)):=by kernel_rfl
theorem LW(x:eS):aA Pg 71 (.eptr (co x)) 2=some (.eptr ((co x).drop 2)):=by kernel_rfl
theorem v8(x:eS):aA Pg 71 (.eptr (co x)) 3=some (.eptr ((co x).drop 3)):=by kernel_rfl
theorem OM(x:eS):aU Pg 9 ((co x).drop 0)=some (.str x.Name):=by kernel_rfl
theorem Ma(x:eS):aU Pg 32 ((co x).drop 1)=some (sl cS x.Vars):=by kernel_rfl
theorem Mb(x:eS):aU Pg 60 ((co x).drop 2)=some (sl bE x.Preds):=by kernel_rfl
theorem wk(x:eS):aU Pg 69 ((co x).drop 3)=some (sl ef x.Cons):=by kernel_rfl
structure qz where
 Name:ag
 Type_:ae
def dF(x:qz):List PVal:=[.str x.Name]++(af x.Type_)
theorem pE(x:qz):dF x=[.str x.Name,.int .i64 x.Type_.Op,.str x.Type_.Name,sl af x.Type_.Args,sl cS x.Type_.Names,.int .i64 x.Type_.Pred.Op,.str x.Type_.Pred.Name,.int .i64 x.Type_.Pred.N,sl ac x.Type_.Pred.Kids,sl ac x.Type_.Preds]:=by
 unfold dF
 simp only[bk,vaF,vaD]
theorem JY(x:qz):ig 0 (dF x):=by rw[pE];exact(aI trivial (aI trivial (aI trivial (aI (aq av x.Type_.Args) (aI (aq gG x.Type_.Names) (aI trivial (aI trivial (aI trivial (aI (aq ah x.Type_.Pred.Kids) (aI (aq ah x.Type_.Preds) trivial))))))))))
theorem Qd(x:qz):(dF x).length=10:=by rw[pE];rfl
theorem Qq(x:qz):∀q∈dF x,q.one=true:=by
 intro q hq
 rw[pE]at hq
 simp only[vaA,vaJ,or_false]at hq
 rcases hq with rfl|rfl|rfl|rfl|rfl|rfl|rfl|rfl|rfl|rfl<;>rfl
theorem qbj:Pg.cellsOf 79=10:=by kernel_rfl
theorem Is(x:qz):aA Pg 79 (.eptr (dF x)) 1=some (.eptr ((dF x).drop 1)):=by rw[pE];kernel_rfl
theorem Iw(x:qz):aU Pg 38 ((dF x).drop 1)=some (.agg (af x.Type_)):=by
 rw[pE,bk];kernel_rfl
structure pd where
 Name:ag
 Var:ag
 Methods:(List qz)
def eP(x:pd):List PVal:=[.str x.Name,.str x.Var,sl dF x.Methods]
theorem Gh(x:pd):eP x=[.str x.Name,.str x.Var,sl dF x.Methods]:=rfl
theorem Gf(x:pd):ig 0 (eP x):=(aI trivial (aI trivial (aI (aq JY x.Methods) trivial)))
theorem R3(x:pd):(eP x).length=3:=by rw[Gh];rfl
theorem Sj(x:pd):∀q∈eP x,q.one=true:=by
 intro q hq
 rw[Gh]at hq
 simp only[vaA,vaJ,or_false]at hq
 rcases hq with rfl|rfl|rfl<;>rfl
theorem qbi:Pg.cellsOf 77=3:=by kernel_rfl
theorem AU(x:pd):aA Pg 77 (.eptr (eP x)) 2=some (.eptr ((eP x).drop 2)):=by kernel_rfl
theorem AX(x:pd):aU Pg 75 ((eP x).drop 2)=some (sl dF x.Methods):=by kernel_rfl
structure Bu where
 Class:ag
 Var:ag
deriving DecidableEq
def gE(x:Bu):List PVal:=[.str x.Class,.str x.Var]
theorem Kb(x:Bu):gE x=[.str x.Class,.str x.Var]:=rfl
theorem JZ(x:Bu):ig 0 (gE x):=(aI trivial (aI trivial trivial))
theorem Uo(x:Bu):(gE x).length=2:=by rw[Kb];rfl
theorem UD(x:Bu):∀q∈gE x,q.one=true:=by
 intro q hq
 rw[Kb]at hq
 simp only[vaA,vaJ,or_false]at hq
 rcases hq with rfl|rfl<;>rfl
theorem YT:Pg.cellsOf 247=2:=by kernel_rfl
structure nF where
 Name:ag
 Type_:ae
def dv(x:nF):List PVal:=[.str x.Name]++(af x.Type_)
theorem nK(x:nF):dv x=[.str x.Name,.int .i64 x.Type_.Op,.str x.Type_.Name,sl af x.Type_.Args,sl cS x.Type_.Names,.int .i64 x.Type_.Pred.Op,.str x.Type_.Pred.Name,.int .i64 x.Type_.Pred.N,sl ac x.Type_.Pred.Kids,sl ac x.Type_.Preds]:=by
 unfold dv
 simp only[bk,vaF,vaD]
theorem Gg(x:nF):ig 0 (dv x):=by rw[nK];exact(aI trivial (aI trivial (aI trivial (aI (aq av x.Type_.Args) (aI (aq gG x.Type_.Names) (aI trivial (aI trivial (aI trivial (aI (aq ah x.Type_.Pred.Kids) (aI (aq ah x.Type_.Preds) trivial))))))))))
theorem R7(x:nF):(dv x).length=10:=by rw[nK];rfl
theorem Sk(x:nF):∀q∈dv x,q.one=true:=by
 intro q hq
 rw[nK]at hq
 simp only[vaA,vaJ,or_false]at hq
 rcases hq with rfl|rfl|rfl|rfl|rfl|rfl|rfl|rfl|rfl|rfl<;>rfl
theorem YQ:Pg.cellsOf 125=10:=by kernel_rfl
theorem y2(x:nF):aA Pg 125 (.eptr (dv x)) 0=some (.eptr ((dv x).drop 0)):=by rw[nK];kernel_rfl
theorem y3(x:nF):aA Pg 125 (.eptr (dv x)) 1=some (.eptr ((dv x).drop 1)):=by rw[nK];kernel_rfl
theorem CS(x:nF):aU Pg 9 ((dv x).drop 0)=some (.str x.Name):=by rw[nK];kernel_rfl
theorem AY(x:nF):aU Pg 38 ((dv x).drop 1)=some (.agg (af x.Type_)):=by
 rw[nK,bk];kernel_rfl
mutual
inductive bL where
 |mk (Op:Int) (Name:ag) (N:Int) (Kids:(List bL)) (Params:(List nF)) (Alts:(List rf)) (Types:(List ae))
inductive rf where
 |mk (Con:ag) (Names:(List ag)) (Body:bL)
end
def bL.Op:bL->Int
 |⟨x,_,_,_,_,_,_⟩=>x
def bL.Name:bL->ag
 |⟨_,x,_,_,_,_,_⟩=>x
def bL.N:bL->Int
 |⟨_,_,x,_,_,_,_⟩=>x
def bL.Kids:bL->(List bL)
 |⟨_,_,_,x,_,_,_⟩=>x
def bL.Params:bL->(List nF)
 |⟨_,_,_,_,x,_,_⟩=>x
def bL.Alts:bL->(List rf)
 |⟨_,_,_,_,_,x,_⟩=>x
def bL.Types:bL->(List ae)
 |⟨_,_,_,_,_,_,x⟩=>x
def rf.Con:rf->ag
 |⟨x,_,_⟩=>x
def rf.Names:rf->(List ag)
 |⟨_,x,_⟩=>x
def rf.Body:rf->bL
 |⟨_,_,x⟩=>x
mutual
def aP:bL->List PVal
 |⟨x0,x1,x2,x3,x4,x5,x6⟩=>[.int .i64 x0,.str x1,.int .i64 x2,.slice (uZ x3),sl dv x4,.slice (AW x5),sl af x6]
def eI:rf->List PVal
 |⟨x0,x1,x2⟩=>[.str x0,sl cS x1]++(aP x2)
def uZ:List bL->List (List PVal)
 |[]=>[]
 |x::r=>aP x::uZ r
def AW:List rf->List (List PVal)
 |[]=>[]
 |x::r=>eI x::AW r
end
theorem Kr:∀(l:List bL),uZ l=l.map aP
 |[]=>by simp[uZ]
 |x::r=>by simp[uZ,Kr r]
theorem MW:∀(l:List rf),AW l=l.map eI
 |[]=>by simp[AW]
 |x::r=>by simp[AW,MW r]
mutual
theorem wP:∀(x:bL),ig 0 (aP x)
 |⟨x0,x1,x2,x3,x4,x5,x6⟩=>by rw[aP];exact(aI trivial (aI trivial (aI trivial (aI (MG x3) (aI (aq Gg x4) (aI (PR x5) (aI (aq av x6) trivial)))))))
theorem Oe:∀(x:rf),ig 0 (eI x)
 |⟨x0,x1,x2⟩=>by rw[eI];exact pC.2 (aI ((aI trivial (aI (aq gG x1) trivial))) (wP x2))
theorem MG:∀(l:List bL),sE 0 (uZ l)
 |[]=>by simp[uZ,sE]
 |x::r=>by rw[uZ];exact⟨wP x,MG r⟩
theorem PR:∀(l:List rf),sE 0 (AW l)
 |[]=>by simp[AW,sE]
 |x::r=>by rw[AW];exact⟨Oe x,PR r⟩
end
theorem dC:∀(x:bL),aP x=[.int .i64 x.Op,.str x.Name,.int .i64 x.N,sl aP x.Kids,sl dv x.Params,sl eI x.Alts,sl af x.Types]
 |⟨x0,x1,x2,x3,x4,x5,x6⟩=>by
  simp only[aP,Kr,MW]
  rfl
theorem MX(x:bL):(aP x).length=7:=by rw[dC];rfl
theorem Qw(x:bL):bO (.agg (aP x))=some (aP x):=rfl
theorem UC(x:bL):∀q∈aP x,q.one=true:=by
 intro q hq
 rw[dC]at hq
 simp only[vaA,vaJ,or_false]at hq
 rcases hq with rfl|rfl|rfl|rfl|rfl|rfl|rfl<;>rfl
theorem ZO:Pg.cellsOf 97=7:=by kernel_rfl
theorem YR:Pg.cellsOf 127=9:=by kernel_rfl
theorem Qj(x:bL):aU Pg 97 (aP x)=some (.agg (aP x)):=by
 have:=kR (P:=Pg) (t:=97) (l:=aP x) (r:=[]) (by kernel_rfl) (ZO.trans (MX x).symm)
 rwa[va6]at this
theorem Rw(x6:(List ae)):cW Pg 97 [(6,sl af x6)]=some (.agg (aP (⟨0,([]:ag),0,([]:List bL),([]:List nF),([]:List rf),x6⟩:bL))):=by
 simp only[dC]
 kernel_rfl
theorem Rr(x6:(List ae)):qV Pg 97 [(6,sl af x6)] [(3,97),(4,125),(5,127)]:=by
 exact⟨[.int .i64 0,.str ([]:ag),.int .i64 0,.val gw,.val gw,.val gw,sl af x6],by kernel_rfl,(aI rfl (aI rfl (aI rfl trivial)))⟩
theorem CO(x:bL):aA Pg 97 (.eptr (aP x)) 1=some (.eptr ((aP x).drop 1)):=by rw[dC];kernel_rfl
theorem qo(x:bL):aA Pg 97 (.eptr (aP x)) 3=some (.eptr ((aP x).drop 3)):=by rw[dC];kernel_rfl
theorem jZ(x:bL):aA Pg 97 (.eptr (aP x)) 4=some (.eptr ((aP x).drop 4)):=by rw[dC];kernel_rfl
theorem ik(x:bL):aA Pg 97 (.eptr (aP x)) 5=some (.eptr ((aP x).drop 5)):=by rw[dC];kernel_rfl
theorem CP(x:bL):aA Pg 97 (.eptr (aP x)) 6=some (.eptr ((aP x).drop 6)):=by rw[dC];kernel_rfl
theorem ET(x:bL):aU Pg 9 ((aP x).drop 1)=some (.str x.Name):=by rw[dC];kernel_rfl
theorem qr(x:bL):aU Pg 93 ((aP x).drop 3)=some (sl aP x.Kids):=by rw[dC];kernel_rfl
theorem j0(x:bL):aU Pg 94 ((aP x).drop 4)=some (sl dv x.Params):=by rw[dC];kernel_rfl
theorem il(x:bL):aU Pg 95 ((aP x).drop 5)=some (sl eI x.Alts):=by rw[dC];kernel_rfl
theorem CR(x:bL):aU Pg 31 ((aP x).drop 6)=some (sl af x.Types):=by rw[dC];kernel_rfl
theorem qm:∀(x:rf),eI x=[.str x.Con,sl cS x.Names,.int .i64 x.Body.Op,.str x.Body.Name,.int .i64 x.Body.N,sl aP x.Body.Kids,sl dv x.Body.Params,sl eI x.Body.Alts,sl af x.Body.Types]
 |⟨x0,x1,x2⟩=>by
  simp only[eI,dC,vaF,vaD]
  rfl
theorem Wi(x:rf):(eI x).length=9:=by rw[qm];rfl
theorem Wu(x:rf):∀q∈eI x,q.one=true:=by
 intro q hq
 rw[qm]at hq
 simp only[vaA,vaJ,or_false]at hq
 rcases hq with rfl|rfl|rfl|rfl|rfl|rfl|rfl|rfl|rfl<;>rfl
theorem LP(x:rf):aA Pg 127 (.eptr (eI x)) 0=some (.eptr ((eI x).drop 0)):=by rw[qm];kernel_rfl
theorem CL(x:rf):aA Pg 127 (.eptr (eI x)) 1=some (.eptr ((eI x).drop 1)):=by rw[qm];kernel_rfl
theorem CM(x:rf):aA Pg 127 (.eptr (eI x)) 2=some (.eptr ((eI x).drop 2)):=by rw[qm];kernel_rfl
theorem Qg(x:rf):aU Pg 9 ((eI x).drop 0)=some (.str x.Con):=by rw[qm];kernel_rfl
theorem EQ(x:rf):aU Pg 32 ((eI x).drop 1)=some (sl cS x.Names):=by rw[qm];kernel_rfl
theorem ER(x:rf):aU Pg 97 ((eI x).drop 2)=some (.agg (aP x.Body)):=by
 rw[qm,dC];kernel_rfl
structure Mp where
 Name:ag
 Sort_:ag
deriving DecidableEq
def nr(x:Mp):List PVal:=[.str x.Name,.str x.Sort_]
theorem Ol(x:Mp):nr x=[.str x.Name,.str x.Sort_]:=rfl
theorem SP(x:Mp):ig 0 (nr x):=(aI trivial (aI trivial trivial))
theorem Wh(x:Mp):(nr x).length=2:=by rw[Ol];rfl
theorem Wt(x:Mp):∀q∈nr x,q.one=true:=by
 intro q hq
 rw[Ol]at hq
 simp only[vaA,vaJ,or_false]at hq
 rcases hq with rfl|rfl<;>rfl
theorem YU:Pg.cellsOf 248=2:=by kernel_rfl
structure kY where
 Name:ag
 Vars:(List dh)
 Hyp:aa
 Goal:aa
def cD(x:kY):List PVal:=[.str x.Name,sl bE x.Vars]++(ac x.Hyp++(ac x.Goal))
theorem jY(x:kY):cD x=[.str x.Name,sl bE x.Vars,.int .i64 x.Hyp.Op,.str x.Hyp.Name,.int .i64 x.Hyp.N,sl ac x.Hyp.Kids,.int .i64 x.Goal.Op,.str x.Goal.Name,.int .i64 x.Goal.N,sl ac x.Goal.Kids]:=by
 unfold cD
 simp only[aF,vaF,vaD]
theorem ME(x:kY):ig 0 (cD x):=by rw[jY];exact(aI trivial (aI (aq lu x.Vars) (aI trivial (aI trivial (aI trivial (aI (aq ah x.Hyp.Kids) (aI trivial (aI trivial (aI trivial (aI (aq ah x.Goal.Kids) trivial))))))))))
theorem R2(x:kY):(cD x).length=10:=by rw[jY];rfl
theorem Si(x:kY):∀q∈cD x,q.one=true:=by
 intro q hq
 rw[jY]at hq
 simp only[vaA,vaJ,or_false]at hq
 rcases hq with rfl|rfl|rfl|rfl|rfl|rfl|rfl|rfl|rfl|rfl<;>rfl
theorem YP:Pg.cellsOf 124=10:=by kernel_rfl
theorem Io(x:kY):aA Pg 124 (.eptr (cD x)) 1=some (.eptr ((cD x).drop 1)):=by rw[jY];kernel_rfl
theorem Ip(x:kY):aA Pg 124 (.eptr (cD x)) 2=some (.eptr ((cD x).drop 2)):=by rw[jY];kernel_rfl
theorem Iq(x:kY):aA Pg 124 (.eptr (cD x)) 3=some (.eptr ((cD x).drop 6)):=by rw[jY];kernel_rfl
theorem Kv(x:kY):aU Pg 60 ((cD x).drop 1)=some (sl bE x.Vars):=by rw[jY];kernel_rfl
theorem Kw(x:kY):aU Pg 36 ((cD x).drop 2)=some (.agg (ac x.Hyp)):=by
 rw[jY,aF];kernel_rfl
theorem Kx(x:kY):aU Pg 36 ((cD x).drop 6)=some (.agg (ac x.Goal)):=by
 rw[jY,aF];kernel_rfl
structure U4 where
 Vars:(List ag)
 Needs:(List Bu)
 Abs:(List Mp)
 Bounds:(List kY)
 Type_:ae
 Metric:(List aa)
def yn(x:U4):List PVal:=[sl cS x.Vars,sl gE x.Needs,sl nr x.Abs,sl cD x.Bounds]++(af x.Type_++([sl ac x.Metric]))
theorem EG(x:U4):yn x=[sl cS x.Vars,sl gE x.Needs,sl nr x.Abs,sl cD x.Bounds,.int .i64 x.Type_.Op,.str x.Type_.Name,sl af x.Type_.Args,sl cS x.Type_.Names,.int .i64 x.Type_.Pred.Op,.str x.Type_.Pred.Name,.int .i64 x.Type_.Pred.N,sl ac x.Type_.Pred.Kids,sl ac x.Type_.Preds,sl ac x.Metric]:=by
 unfold yn
 simp only[bk,vaF,vaD]
theorem WD(x:U4):bO (.agg (yn x))=some [sl cS x.Vars,sl gE x.Needs,sl nr x.Abs,sl cD x.Bounds,.int .i64 x.Type_.Op,.str x.Type_.Name,sl af x.Type_.Args,sl cS x.Type_.Names,.int .i64 x.Type_.Pred.Op,.str x.Type_.Pred.Name,.int .i64 x.Type_.Pred.N,sl ac x.Type_.Pred.Kids,sl ac x.Type_.Preds,sl ac x.Metric]:=by rw[EG];rfl
structure pj where
 Name:ag
 Params:(List ag)
 Body:bL
 Mode:Int
 Typed:Bool
 Sig:U4
def cT(x:pj):List PVal:=[.str x.Name,sl cS x.Params]++(aP x.Body++([.int .i64 x.Mode,.bool x.Typed]++(yn x.Sig)))
theorem mW(x:pj):cT x=[.str x.Name,sl cS x.Params,.int .i64 x.Body.Op,.str x.Body.Name,.int .i64 x.Body.N,sl aP x.Body.Kids,sl dv x.Body.Params,sl eI x.Body.Alts,sl af x.Body.Types,.int .i64 x.Mode,.bool x.Typed,sl cS x.Sig.Vars,sl gE x.Sig.Needs,sl nr x.Sig.Abs,sl cD x.Sig.Bounds,.int .i64 x.Sig.Type_.Op,.str x.Sig.Type_.Name,sl af x.Sig.Type_.Args,sl cS x.Sig.Type_.Names,.int .i64 x.Sig.Type_.Pred.Op,.str x.Sig.Type_.Pred.Name,.int .i64 x.Sig.Type_.Pred.N,sl ac x.Sig.Type_.Pred.Kids,sl ac x.Sig.Type_.Preds,sl ac x.Sig.Metric]:=by
 unfold cT
 simp only[dC,EG,vaF,vaD]
theorem BH(x:pj):ig 0 (cT x):=by rw[mW];exact(aI trivial (aI (aq gG x.Params) (aI trivial (aI trivial (aI trivial (aI (aq wP x.Body.Kids) (aI (aq Gg x.Body.Params) (aI (aq Oe x.Body.Alts) (aI (aq av x.Body.Types) (aI trivial (aI trivial (aI (aq gG x.Sig.Vars) (aI (aq JZ x.Sig.Needs) (aI (aq SP x.Sig.Abs) (aI (aq ME x.Sig.Bounds) (aI trivial (aI trivial (aI (aq av x.Sig.Type_.Args) (aI (aq gG x.Sig.Type_.Names) (aI trivial (aI trivial (aI trivial (aI (aq ah x.Sig.Type_.Pred.Kids) (aI (aq ah x.Sig.Type_.Preds) (aI (aq ah x.Sig.Metric) trivial)))))))))))))))))))))))))
theorem Wk(x:pj):(cT x).length=25:=by rw[mW];rfl
theorem Ww(x:pj):∀q∈cT x,q.one=true:=by
 intro q hq
 rw[mW]at hq
 simp only[vaA,vaJ,or_false]at hq
 rcases hq with rfl|rfl|rfl|rfl|rfl|rfl|rfl|rfl|rfl|rfl|rfl|rfl|rfl|rfl|rfl|rfl|rfl|rfl|rfl|rfl|rfl|rfl|rfl|rfl|rfl<;>rfl
theorem YO:Pg.cellsOf 122=25:=by kernel_rfl
theorem LX(x:pj):aA Pg 122 (.eptr (cT x)) 0=some (.eptr ((cT x).drop 0)):=by rw[mW];kernel_rfl
theorem LY(x:pj):aA Pg 122 (.eptr (cT x)) 1=some (.eptr ((cT x).drop 1)):=by rw[mW];kernel_rfl
theorem LZ(x:pj):aA Pg 122 (.eptr (cT x)) 2=some (.eptr ((cT x).drop 2)):=by rw[mW];kernel_rfl
theorem L0(x:pj):aA Pg 122 (.eptr (cT x)) 5=some (.eptr ((cT x).drop 11)):=by rw[mW];kernel_rfl
theorem Qh(x:pj):aU Pg 9 ((cT x).drop 0)=some (.str x.Name):=by rw[mW];kernel_rfl
theorem ON(x:pj):aU Pg 32 ((cT x).drop 1)=some (sl cS x.Params):=by rw[mW];kernel_rfl
theorem Kz(x:pj):aU Pg 120 ((cT x).drop 11)=some (.agg (yn x.Sig)):=by
 rw[mW,EG];kernel_rfl
theorem OO(x:pj):aU Pg 97 ((cT x).drop 2)=some (.agg (aP x.Body)):=by
 rw[mW,dC];kernel_rfl
structure dI where
 Class:ag
 Type_:ae
 Needs:(List Bu)
 Defs:(List pj)
def bP(x:dI):List PVal:=[.str x.Class]++(af x.Type_++([sl gE x.Needs,sl cT x.Defs]))
theorem fb(x:dI):bP x=[.str x.Class,.int .i64 x.Type_.Op,.str x.Type_.Name,sl af x.Type_.Args,sl cS x.Type_.Names,.int .i64 x.Type_.Pred.Op,.str x.Type_.Pred.Name,.int .i64 x.Type_.Pred.N,sl ac x.Type_.Pred.Kids,sl ac x.Type_.Preds,sl gE x.Needs,sl cT x.Defs]:=by
 unfold bP
 simp only[bk,vaF,vaD]
theorem yo(x:dI):ig 0 (bP x):=by rw[fb];exact(aI trivial (aI trivial (aI trivial (aI (aq av x.Type_.Args) (aI (aq gG x.Type_.Names) (aI trivial (aI trivial (aI trivial (aI (aq ah x.Type_.Pred.Kids) (aI (aq ah x.Type_.Preds) (aI (aq JZ x.Needs) (aI (aq BH x.Defs) trivial))))))))))))
theorem L6(x:dI):(bP x).length=12:=by rw[fb];rfl
theorem Mf(x:dI):∀q∈bP x,q.one=true:=by
 intro q hq
 rw[fb]at hq
 simp only[vaA,vaJ,or_false]at hq
 rcases hq with rfl|rfl|rfl|rfl|rfl|rfl|rfl|rfl|rfl|rfl|rfl|rfl<;>rfl
theorem qbk:Pg.cellsOf 82=12:=by kernel_rfl
theorem EH(x:dI):aA Pg 82 (.eptr (bP x)) 1=some (.eptr ((bP x).drop 1)):=by rw[fb];kernel_rfl
theorem EI(x:dI):aA Pg 82 (.eptr (bP x)) 2=some (.eptr ((bP x).drop 10)):=by rw[fb];kernel_rfl
theorem EJ(x:dI):aA Pg 82 (.eptr (bP x)) 3=some (.eptr ((bP x).drop 11)):=by rw[fb];kernel_rfl
theorem EU(x:dI):aU Pg 38 ((bP x).drop 1)=some (.agg (af x.Type_)):=by
 rw[fb,bk];kernel_rfl
theorem Dz(x:dI):aU Pg 80 ((bP x).drop 10)=some (sl gE x.Needs):=by rw[fb];kernel_rfl
theorem DA(x:dI):aU Pg 27 ((bP x).drop 11)=some (sl cT x.Defs):=by rw[fb];kernel_rfl
structure y9 where
 Con:ag
 Names:(List ag)
 Body:aa
def fa(x:y9):List PVal:=[.str x.Con,sl cS x.Names]++(ac x.Body)
theorem qP(x:y9):fa x=[.str x.Con,sl cS x.Names,.int .i64 x.Body.Op,.str x.Body.Name,.int .i64 x.Body.N,sl ac x.Body.Kids]:=by
 unfold fa
 simp only[aF,vaF,vaD]
theorem PQ(x:y9):ig 0 (fa x):=by rw[qP];exact(aI trivial (aI (aq gG x.Names) (aI trivial (aI trivial (aI trivial (aI (aq ah x.Body.Kids) trivial))))))
theorem Un(x:y9):(fa x).length=6:=by rw[qP];rfl
theorem Uz(x:y9):∀q∈fa x,q.one=true:=by
 intro q hq
 rw[qP]at hq
 simp only[vaA,vaJ,or_false]at hq
 rcases hq with rfl|rfl|rfl|rfl|rfl|rfl<;>rfl
theorem qbm:Pg.cellsOf 88=6:=by kernel_rfl
theorem LR(x:y9):aA Pg 88 (.eptr (fa x)) 1=some (.eptr ((fa x).drop 1)):=by rw[qP];kernel_rfl
theorem LS(x:y9):aA Pg 88 (.eptr (fa x)) 2=some (.eptr ((fa x).drop 2)):=by rw[qP];kernel_rfl
theorem L7(x:y9):aU Pg 32 ((fa x).drop 1)=some (sl cS x.Names):=by rw[qP];kernel_rfl
theorem L8(x:y9):aU Pg 36 ((fa x).drop 2)=some (.agg (ac x.Body)):=by
 rw[qP,aF];kernel_rfl
structure f0 where
 Name:ag
 Data:ag
 Result:ag
 Cases:(List y9)
 Inv:aa
def cG(x:f0):List PVal:=[.str x.Name,.str x.Data,.str x.Result,sl fa x.Cases]++(ac x.Inv)
theorem i8(x:f0):cG x=[.str x.Name,.str x.Data,.str x.Result,sl fa x.Cases,.int .i64 x.Inv.Op,.str x.Inv.Name,.int .i64 x.Inv.N,sl ac x.Inv.Kids]:=by
 unfold cG
 simp only[aF,vaF,vaD]
theorem AN(x:f0):ig 0 (cG x):=by rw[i8];exact(aI trivial (aI trivial (aI trivial (aI (aq PQ x.Cases) (aI trivial (aI trivial (aI trivial (aI (aq ah x.Inv.Kids) trivial))))))))
theorem OJ(x:f0):(cG x).length=8:=by rw[i8];rfl
theorem OU(x:f0):∀q∈cG x,q.one=true:=by
 intro q hq
 rw[i8]at hq
 simp only[vaA,vaJ,or_false]at hq
 rcases hq with rfl|rfl|rfl|rfl|rfl|rfl|rfl|rfl<;>rfl
theorem qbl:Pg.cellsOf 86=8:=by kernel_rfl
theorem pF(x:f0):aA Pg 86 (.eptr (cG x)) 3=some (.eptr ((cG x).drop 3)):=by rw[i8];kernel_rfl
theorem Gi(x:f0):aA Pg 86 (.eptr (cG x)) 4=some (.eptr ((cG x).drop 4)):=by rw[i8];kernel_rfl
theorem pG(x:f0):aU Pg 84 ((cG x).drop 3)=some (sl fa x.Cases):=by rw[i8];kernel_rfl
theorem Gr(x:f0):aU Pg 36 ((cG x).drop 4)=some (.agg (ac x.Inv)):=by
 rw[i8,aF];kernel_rfl
structure rY where
 Name:ag
 Vars:(List dh)
 Body:aa
def eM(x:rY):List PVal:=[.str x.Name,sl bE x.Vars]++(ac x.Body)
theorem qQ(x:rY):eM x=[.str x.Name,sl bE x.Vars,.int .i64 x.Body.Op,.str x.Body.Name,.int .i64 x.Body.N,sl ac x.Body.Kids]:=by
 unfold eM
 simp only[aF,vaF,vaD]
theorem J0(x:rY):ig 0 (eM x):=by rw[qQ];exact(aI trivial (aI (aq lu x.Vars) (aI trivial (aI trivial (aI trivial (aI (aq ah x.Body.Kids) trivial))))))
theorem Up(x:rY):(eM x).length=6:=by rw[qQ];rfl
theorem UF(x:rY):∀q∈eM x,q.one=true:=by
 intro q hq
 rw[qQ]at hq
 simp only[vaA,vaJ,or_false]at hq
 rcases hq with rfl|rfl|rfl|rfl|rfl|rfl<;>rfl
theorem qbn:Pg.cellsOf 90=6:=by kernel_rfl
theorem L1(x:rY):aA Pg 90 (.eptr (eM x)) 1=some (.eptr ((eM x).drop 1)):=by rw[qQ];kernel_rfl
theorem L2(x:rY):aA Pg 90 (.eptr (eM x)) 2=some (.eptr ((eM x).drop 2)):=by rw[qQ];kernel_rfl
theorem Mc(x:rY):aU Pg 60 ((eM x).drop 1)=some (sl bE x.Vars):=by rw[qQ];kernel_rfl
theorem Md(x:rY):aU Pg 36 ((eM x).drop 2)=some (.agg (ac x.Body)):=by
 rw[qQ,aF];kernel_rfl
structure aQ where
 Datas:(List eS)
 Classes:(List pd)
 Instances:(List dI)
 Measures:(List f0)
 Quals:(List rY)
 Defs:(List pj)
def aC(x:aQ):List PVal:=[sl co x.Datas,sl eP x.Classes,sl bP x.Instances,sl cG x.Measures,sl eM x.Quals,sl cT x.Defs]
theorem tP(x:aQ):aC x=[sl co x.Datas,sl eP x.Classes,sl bP x.Instances,sl cG x.Measures,sl eM x.Quals,sl cT x.Defs]:=rfl
theorem eW(x:aQ):ig 0 (aC x):=(aI (aq wO x.Datas) (aI (aq Gf x.Classes) (aI (aq yo x.Instances) (aI (aq AN x.Measures) (aI (aq J0 x.Quals) (aI (aq BH x.Defs) trivial))))))
theorem Qe(x:aQ):(aC x).length=6:=by rw[tP];rfl
theorem tX(x:aQ):bO (.agg (aC x))=some (aC x):=rfl
theorem qcJ:Pg.cellsOf 29=6:=by kernel_rfl
theorem DB(x:aQ):aU Pg 29 (aC x)=some (.agg (aC x)):=by
 have:=kR (P:=Pg) (t:=29) (l:=aC x) (r:=[]) (by kernel_rfl) (qcJ.trans (Qe x).symm)
 rwa[va6]at this
theorem yl:cW Pg 29 []=some (.agg (aC (⟨([]:List eS),([]:List pd),([]:List dI),([]:List f0),([]:List rY),([]:List pj)⟩:aQ))):=by
 kernel_rfl
theorem yj:qV Pg 29 [] [(0,71),(1,77),(2,82),(3,86),(4,90),(5,122)]:=by
 exact⟨[.val gw,.val gw,.val gw,.val gw,.val gw,.val gw],by kernel_rfl,(aI rfl (aI rfl (aI rfl (aI rfl (aI rfl (aI rfl trivial))))))⟩
theorem dw(x:aQ):aA Pg 29 (.eptr (aC x)) 0=some (.eptr ((aC x).drop 0)):=by kernel_rfl
theorem mX(x:aQ):aA Pg 29 (.eptr (aC x)) 1=some (.eptr ((aC x).drop 1)):=by kernel_rfl
theorem jr(x:aQ):aA Pg 29 (.eptr (aC x)) 2=some (.eptr ((aC x).drop 2)):=by kernel_rfl
theorem gQ(x:aQ):aA Pg 29 (.eptr (aC x)) 3=some (.eptr ((aC x).drop 3)):=by kernel_rfl
theorem mY(x:aQ):aA Pg 29 (.eptr (aC x)) 4=some (.eptr ((aC x).drop 4)):=by kernel_rfl
theorem y0(x:aQ):aA Pg 29 (.eptr (aC x)) 5=some (.eptr ((aC x).drop 5)):=by kernel_rfl
theorem dy(x:aQ):aU Pg 22 ((aC x).drop 0)=some (sl co x.Datas):=by kernel_rfl
theorem nc(x:aQ):aU Pg 23 ((aC x).drop 1)=some (sl eP x.Classes):=by kernel_rfl
theorem jx(x:aQ):aU Pg 24 ((aC x).drop 2)=some (sl bP x.Instances):=by kernel_rfl
theorem gR(x:aQ):aU Pg 25 ((aC x).drop 3)=some (sl cG x.Measures):=by kernel_rfl
theorem nf(x:aQ):aU Pg 26 ((aC x).drop 4)=some (sl eM x.Quals):=by kernel_rfl
theorem y5(x:aQ):aU Pg 27 ((aC x).drop 5)=some (sl cT x.Defs):=by kernel_rfl
structure aD where
 A:ae
 B:ae
 Tag:Int
def ay(x:aD):List PVal:=af x.A++(af x.B++([.int .i64 x.Tag]))
theorem bX(x:aD):ay x=[.int .i64 x.A.Op,.str x.A.Name,sl af x.A.Args,sl cS x.A.Names,.int .i64 x.A.Pred.Op,.str x.A.Pred.Name,.int .i64 x.A.Pred.N,sl ac x.A.Pred.Kids,sl ac x.A.Preds,.int .i64 x.B.Op,.str x.B.Name,sl af x.B.Args,sl cS x.B.Names,.int .i64 x.B.Pred.Op,.str x.B.Pred.Name,.int .i64 x.B.Pred.N,sl ac x.B.Pred.Kids,sl ac x.B.Preds,.int .i64 x.Tag]:=by
 unfold ay
 simp only[bk,vaF,vaD]
theorem bU(x:aD):ig 0 (ay x):=by rw[bX];exact(aI trivial (aI trivial (aI (aq av x.A.Args) (aI (aq gG x.A.Names) (aI trivial (aI trivial (aI trivial (aI (aq ah x.A.Pred.Kids) (aI (aq ah x.A.Preds) (aI trivial (aI trivial (aI (aq av x.B.Args) (aI (aq gG x.B.Names) (aI trivial (aI trivial (aI trivial (aI (aq ah x.B.Pred.Kids) (aI (aq ah x.B.Preds) (aI trivial trivial)))))))))))))))))))
theorem ur(x:aD):(ay x).length=19:=by rw[bX];rfl
theorem mP(x:aD):bO (.agg (ay x))=some (ay x):=rfl
theorem qcK:Pg.cellsOf 40=19:=by kernel_rfl
theorem wl(x:aD):aU Pg 40 (ay x)=some (.agg (ay x)):=by
 have:=kR (P:=Pg) (t:=40) (l:=ay x) (r:=[]) (by kernel_rfl) (qcK.trans (ur x).symm)
 rwa[va6]at this
theorem fm(x:aD):aA Pg 40 (.eptr (ay x)) 0=some (.eptr ((ay x).drop 0)):=by rw[bX];kernel_rfl
theorem fo(x:aD):aA Pg 40 (.eptr (ay x)) 1=some (.eptr ((ay x).drop 9)):=by rw[bX];kernel_rfl
theorem ja(x:aD):aA Pg 40 (.eptr (ay x)) 2=some (.eptr ((ay x).drop 18)):=by rw[bX];kernel_rfl
theorem ft(x:aD):aU Pg 38 ((ay x).drop 0)=some (.agg (af x.A)):=by
 rw[bX,bk];kernel_rfl
theorem jc(x:aD):aU Pg 3 ((ay x).drop 18)=some (.int .i64 x.Tag):=by rw[bX];kernel_rfl
theorem fu(x:aD):aU Pg 38 ((ay x).drop 9)=some (.agg (af x.B)):=by
 rw[bX,bk];kernel_rfl
inductive ak where
 |mk (Op:Int) (Name:ag) (Sort_:ag) (Pred:aa) (Tag:Int) (Kids:(List ak))
def ak.Op:ak->Int
 |⟨x,_,_,_,_,_⟩=>x
def ak.Name:ak->ag
 |⟨_,x,_,_,_,_⟩=>x
def ak.Sort_:ak->ag
 |⟨_,_,x,_,_,_⟩=>x
def ak.Pred:ak->aa
 |⟨_,_,_,x,_,_⟩=>x
def ak.Tag:ak->Int
 |⟨_,_,_,_,x,_⟩=>x
def ak.Kids:ak->(List ak)
 |⟨_,_,_,_,_,x⟩=>x
mutual
def ax:ak->List PVal
 |⟨x0,x1,x2,x3,x4,x5⟩=>[.int .i64 x0,.str x1,.str x2]++(ac x3++([.int .i64 x4,.slice (uY x5)]))
def uY:List ak->List (List PVal)
 |[]=>[]
 |x::r=>ax x::uY r
end
theorem Kq:∀(l:List ak),uY l=l.map ax
 |[]=>by simp[uY]
 |x::r=>by simp[uY,Kq r]
mutual
theorem bA:∀(x:ak),ig 0 (ax x)
 |⟨x0,x1,x2,x3,x4,x5⟩=>by rw[ax];exact pC.2 (aI ((aI trivial (aI trivial (aI trivial trivial)))) (pC.2 (aI (ah x3) ((aI trivial (aI (MF x5) trivial))))))
theorem MF:∀(l:List ak),sE 0 (uY l)
 |[]=>by simp[uY,sE]
 |x::r=>by rw[uY];exact⟨bA x,MF r⟩
end
theorem cE:∀(x:ak),ax x=[.int .i64 x.Op,.str x.Name,.str x.Sort_,.int .i64 x.Pred.Op,.str x.Pred.Name,.int .i64 x.Pred.N,sl ac x.Pred.Kids,.int .i64 x.Tag,sl ax x.Kids]
 |⟨x0,x1,x2,x3,x4,x5⟩=>by
  simp only[ax,Kq,aF,vaF,vaD]
  rfl
abbrev vq(x:ak):PVal:=.agg (ax x)
theorem Gm(x:ak):(ax x).length=9:=by rw[cE];rfl
theorem xf(x:ak):bO (.agg (ax x))=some (ax x):=rfl
theorem pM(x:ak):bO (vq x)=some (ax x):=rfl
theorem dG(x:ak):bO (.agg (ax x))=some [.int .i64 x.Op,.str x.Name,.str x.Sort_,.int .i64 x.Pred.Op,.str x.Pred.Name,.int .i64 x.Pred.N,sl ac x.Pred.Kids,.int .i64 x.Tag,sl ax x.Kids]:=by rw[cE];rfl
theorem UA(x:ak):∀q∈ax x,q.one=true:=by
 intro q hq
 rw[cE]at hq
 simp only[vaA,vaJ,or_false]at hq
 rcases hq with rfl|rfl|rfl|rfl|rfl|rfl|rfl|rfl|rfl<;>rfl
theorem XM:Pg.cellsOf 50=9:=by kernel_rfl
theorem oJ(x:ak):aU Pg 50 (ax x)=some (.agg (ax x)):=by
 have:=kR (P:=Pg) (t:=50) (l:=ax x) (r:=[]) (by kernel_rfl) (XM.trans (Gm x).symm)
 rwa[va6]at this
theorem j1(x:ak)(r:List PVal):aU Pg 50 ([.int .i64 x.Op,.str x.Name,.str x.Sort_,.int .i64 x.Pred.Op,.str x.Pred.Name,.int .i64 x.Pred.N,sl ac x.Pred.Kids,.int .i64 x.Tag,sl ax x.Kids]++r)=some (.agg (ax x)):=by
 rw[<-cE];exact kR (by kernel_rfl) (XM.trans (Gm x).symm)
theorem e7(x:ak):PVal.agg [.int .i64 x.Op,.str x.Name,.str x.Sort_,.int .i64 x.Pred.Op,.str x.Pred.Name,.int .i64 x.Pred.N,sl ac x.Pred.Kids,.int .i64 x.Tag,sl ax x.Kids]=.agg (ax x):=by rw[cE]
theorem Ru:cW Pg 50 []=some (.agg (ax (⟨0,([]:ag),([]:ag),(⟨0,([]:ag),0,([]:List aa)⟩:aa),0,([]:List ak)⟩:ak))):=by
 simp only[cE]
 kernel_rfl
theorem Rp:qV Pg 50 [] [(6,36),(8,50)]:=by
 exact⟨[.int .i64 0,.str ([]:ag),.str ([]:ag),.int .i64 0,.str ([]:ag),.int .i64 0,.val gw,.int .i64 0,.val gw],by kernel_rfl,(aI rfl (aI rfl trivial))⟩
theorem tG(x0:Int)(x1:ag)(x2:ag)(x3:aa)(x5:(List ak)):cW Pg 50 [(0,.int .i64 x0),(1,.str x1),(2,.str x2),(3,.agg (ac x3)),(5,sl ax x5)]=some (.agg (ax (⟨x0,x1,x2,x3,0,x5⟩:ak))):=by
 simp only[cE,aF]
 kernel_rfl
theorem JU(x0:Int)(x3:aa)(x4:Int):cW Pg 50 [(0,.int .i64 x0),(3,.agg (ac x3)),(4,.int .i64 x4)]=some (.agg (ax (⟨x0,([]:ag),([]:ag),x3,x4,([]:List ak)⟩:ak))):=by
 simp only[cE,aF]
 kernel_rfl
theorem JS(x0:Int)(x3:aa)(x4:Int):qV Pg 50 [(0,.int .i64 x0),(3,.agg (ac x3)),(4,.int .i64 x4)] [(8,50)]:=by
 simp only[aF]
 exact⟨[.int .i64 x0,.str ([]:ag),.str ([]:ag),.int .i64 x3.Op,.str x3.Name,.int .i64 x3.N,sl ac x3.Kids,.int .i64 x4,.val gw],by kernel_rfl,(aI rfl trivial)⟩
theorem Dm(x0:Int):cW Pg 50 [(0,.int .i64 x0)]=some (.agg (ax (⟨x0,([]:ag),([]:ag),(⟨0,([]:ag),0,([]:List aa)⟩:aa),0,([]:List ak)⟩:ak))):=by
 simp only[cE]
 kernel_rfl
theorem Dk(x0:Int):qV Pg 50 [(0,.int .i64 x0)] [(6,36),(8,50)]:=by
 exact⟨[.int .i64 x0,.str ([]:ag),.str ([]:ag),.int .i64 0,.str ([]:ag),.int .i64 0,.val gw,.int .i64 0,.val gw],by kernel_rfl,(aI rfl (aI rfl trivial))⟩
theorem v6(x:ak):aA Pg 50 (.eptr (ax x)) 0=some (.eptr ((ax x).drop 0)):=by rw[cE];kernel_rfl
theorem mJ(x:ak):aA Pg 50 (.eptr (ax x)) 1=some (.eptr ((ax x).drop 1)):=by rw[cE];kernel_rfl
theorem LT(x:ak):aA Pg 50 (.eptr (ax x)) 2=some (.eptr ((ax x).drop 2)):=by rw[cE];kernel_rfl
theorem v7(x:ak):aA Pg 50 (.eptr (ax x)) 3=some (.eptr ((ax x).drop 3)):=by rw[cE];kernel_rfl
theorem CN(x:ak):aA Pg 50 (.eptr (ax x)) 4=some (.eptr ((ax x).drop 7)):=by rw[cE];kernel_rfl
theorem qn(x:ak):aA Pg 50 (.eptr (ax x)) 5=some (.eptr ((ax x).drop 8)):=by rw[cE];kernel_rfl
theorem RN(x:ak):KK Pg 50 (.agg (ax x)) 5=some (sl ax x.Kids):=by rw[cE];kernel_rfl
theorem wh(x:ak):aU Pg 46 ((ax x).drop 0)=some (.int .i64 x.Op):=by rw[cE];kernel_rfl
theorem oI(x:ak):aU Pg 9 ((ax x).drop 1)=some (.str x.Name):=by rw[cE];kernel_rfl
theorem L9(x:ak):aU Pg 47 ((ax x).drop 2)=some (.str x.Sort_):=by rw[cE];kernel_rfl
theorem wj(x:ak):aU Pg 36 ((ax x).drop 3)=some (.agg (ac x.Pred)):=by
 rw[cE,aF];kernel_rfl
theorem ES(x:ak):aU Pg 3 ((ax x).drop 7)=some (.int .i64 x.Tag):=by rw[cE];kernel_rfl
theorem qq(x:ak):aU Pg 48 ((ax x).drop 8)=some (sl ax x.Kids):=by rw[cE];kernel_rfl
structure aO where
 m:aQ
 tag:Int
def aM(x:aO):List PVal:=aC x.m++([.int .i64 x.tag])
theorem ej(x:aO):aM x=[sl co x.m.Datas,sl eP x.m.Classes,sl bP x.m.Instances,sl cG x.m.Measures,sl eM x.m.Quals,sl cT x.m.Defs,.int .i64 x.tag]:=by
 unfold aM
 simp only[tP,vaF,vaD]
theorem cK(x:aO):ig 0 (aM x):=by rw[ej];exact(aI (aq wO x.m.Datas) (aI (aq Gf x.m.Classes) (aI (aq yo x.m.Instances) (aI (aq AN x.m.Measures) (aI (aq J0 x.m.Quals) (aI (aq BH x.m.Defs) (aI trivial trivial)))))))
theorem Dy(x:aO):(aM x).length=7:=by rw[ej];rfl
theorem g8(x:aO):bO (.agg (aM x))=some (aM x):=rfl
theorem qbc:Pg.cellsOf 105=7:=by kernel_rfl
theorem eo(x:aO):aU Pg 105 (aM x)=some (.agg (aM x)):=by
 have:=kR (P:=Pg) (t:=105) (l:=aM x) (r:=[]) (by kernel_rfl) (qbc.trans (Dy x).symm)
 rwa[va6]at this
theorem zf(x0:aQ)(x1:Int):cW Pg 105 [(0,.agg (aC x0)),(1,.int .i64 x1)]=some (.agg (aM (⟨x0,x1⟩:aO))):=by
 simp only[ej,tP]
 kernel_rfl
theorem wU(x:aO):aA Pg 105 (.eptr (aM x)) 0=some (.eptr ((aM x).drop 0)):=by rw[ej];kernel_rfl
theorem wV(x:aO):aA Pg 105 (.eptr (aM x)) 1=some (.eptr ((aM x).drop 6)):=by rw[ej];kernel_rfl
theorem yA(x:aO):aU Pg 29 ((aM x).drop 0)=some (.agg (aC x.m)):=by
 rw[ej,tP];kernel_rfl
theorem zo(x:aO):aU Pg 3 ((aM x).drop 6)=some (.int .i64 x.tag):=by rw[ej];kernel_rfl
structure ai where
 names:(List ag)
 by_:(List aa)
def aw(x:ai):List PVal:=[sl cS x.names,sl ac x.by_]
theorem cy(x:ai):aw x=[sl cS x.names,sl ac x.by_]:=rfl
theorem bm(x:ai):ig 0 (aw x):=(aI (aq gG x.names) (aI (aq ah x.by_) trivial))
theorem mM(x:ai):(aw x).length=2:=by rw[cy];rfl
theorem dm(x:ai):bO (.agg (aw x))=some (aw x):=rfl
theorem fc(x:ai):bO (.agg (aw x))=some [sl cS x.names,sl ac x.by_]:=by rw[cy];rfl
theorem YS:Pg.cellsOf 173=2:=by kernel_rfl
theorem ch(x:ai):aU Pg 173 (aw x)=some (.agg (aw x)):=by
 have:=kR (P:=Pg) (t:=173) (l:=aw x) (r:=[]) (by kernel_rfl) (YS.trans (mM x).symm)
 rwa[va6]at this
theorem cp(x:ai)(r:List PVal):aU Pg 173 ([sl cS x.names,sl ac x.by_]++r)=some (.agg (aw x)):=by
 rw[<-cy];exact kR (by kernel_rfl) (YS.trans (mM x).symm)
theorem mT(x:ai):PVal.agg [sl cS x.names,sl ac x.by_]=.agg (aw x):=by rw[cy]
theorem sD(x0:(List ag))(x1:(List aa)):cW Pg 173 [(0,sl cS x0),(1,sl ac x1)]=some (.agg (aw (⟨x0,x1⟩:ai))):=by
 kernel_rfl
theorem jb(x:ai):aA Pg 173 (.eptr (aw x)) 0=some (.eptr ((aw x).drop 0)):=by kernel_rfl
theorem fp(x:ai):aA Pg 173 (.eptr (aw x)) 1=some (.eptr ((aw x).drop 1)):=by kernel_rfl
theorem jv(x:ai):aU Pg 32 ((aw x).drop 0)=some (sl cS x.names):=by kernel_rfl
theorem fK(x:ai):aU Pg 34 ((aw x).drop 1)=some (sl ac x.by_):=by kernel_rfl
structure aE where
 Vars:(List dh)
 Hyps:(List aa)
 Head:aa
 Tag:Int
def aN(x:aE):List PVal:=[sl bE x.Vars,sl ac x.Hyps]++(ac x.Head++([.int .i64 x.Tag]))
theorem eX(x:aE):aN x=[sl bE x.Vars,sl ac x.Hyps,.int .i64 x.Head.Op,.str x.Head.Name,.int .i64 x.Head.N,sl ac x.Head.Kids,.int .i64 x.Tag]:=by
 unfold aN
 simp only[aF,vaF,vaD]
theorem eV(x:aE):ig 0 (aN x):=by rw[eX];exact(aI (aq lu x.Vars) (aI (aq ah x.Hyps) (aI trivial (aI trivial (aI trivial (aI (aq ah x.Head.Kids) (aI trivial trivial)))))))
abbrev Nu(x:aE):PVal:=.agg (aN x)
theorem Hk(x:aE):(aN x).length=7:=by rw[eX];rfl
theorem Qv(x:aE):bO (Nu x)=some (aN x):=rfl
theorem A3(x:aE):bO (.agg (aN x))=some [sl bE x.Vars,sl ac x.Hyps,.int .i64 x.Head.Op,.str x.Head.Name,.int .i64 x.Head.N,sl ac x.Head.Kids,.int .i64 x.Tag]:=by rw[eX];rfl
theorem Qp(x:aE):∀q∈aN x,q.one=true:=by
 intro q hq
 rw[eX]at hq
 simp only[vaA,vaJ,or_false]at hq
 rcases hq with rfl|rfl|rfl|rfl|rfl|rfl|rfl<;>rfl
theorem ZN:Pg.cellsOf 62=7:=by kernel_rfl
theorem Hl(x:aE)(r:List PVal):aU Pg 62 ([sl bE x.Vars,sl ac x.Hyps,.int .i64 x.Head.Op,.str x.Head.Name,.int .i64 x.Head.N,sl ac x.Head.Kids,.int .i64 x.Tag]++r)=some (.agg (aN x)):=by
 rw[<-eX];exact kR (by kernel_rfl) (ZN.trans (Hk x).symm)
theorem N7:cW Pg 62 []=some (.agg (aN (⟨([]:List dh),([]:List aa),(⟨0,([]:ag),0,([]:List aa)⟩:aa),0⟩:aE))):=by
 simp only[eX]
 kernel_rfl
theorem N4:qV Pg 62 [] [(0,102),(1,36),(5,36)]:=by
 exact⟨[.val gw,.val gw,.int .i64 0,.str ([]:ag),.int .i64 0,.val gw,.int .i64 0],by kernel_rfl,(aI rfl (aI rfl (aI rfl trivial)))⟩
theorem Gd(x0:(List dh))(x2:aa)(x3:Int):cW Pg 62 [(0,sl bE x0),(2,.agg (ac x2)),(3,.int .i64 x3)]=some (.agg (aN (⟨x0,([]:List aa),x2,x3⟩:aE))):=by
 simp only[eX,aF]
 kernel_rfl
theorem Gc(x0:(List dh))(x2:aa)(x3:Int):qV Pg 62 [(0,sl bE x0),(2,.agg (ac x2)),(3,.int .i64 x3)] [(1,36)]:=by
 simp only[aF]
 exact⟨[sl bE x0,.val gw,.int .i64 x2.Op,.str x2.Name,.int .i64 x2.N,sl ac x2.Kids,.int .i64 x3],by kernel_rfl,(aI rfl trivial)⟩
theorem jq(x:aE):aA Pg 62 (.eptr (aN x)) 0=some (.eptr ((aN x).drop 0)):=by rw[eX];kernel_rfl
theorem yZ(x:aE):aA Pg 62 (.eptr (aN x)) 2=some (.eptr ((aN x).drop 2)):=by rw[eX];kernel_rfl
theorem Ir(x:aE):aA Pg 62 (.eptr (aN x)) 3=some (.eptr ((aN x).drop 6)):=by rw[eX];kernel_rfl
theorem jw(x:aE):aU Pg 60 ((aN x).drop 0)=some (sl bE x.Vars):=by rw[eX];kernel_rfl
theorem y4(x:aE):aU Pg 36 ((aN x).drop 2)=some (.agg (ac x.Head)):=by
 rw[eX,aF];kernel_rfl
theorem Ky(x:aE):aU Pg 3 ((aN x).drop 6)=some (.int .i64 x.Tag):=by rw[eX];kernel_rfl
theorem K4:qF Pg 22 71 co:=⟨underlying22,fun x=>(Gn x).trans XN.symm,by kernel_rfl,by rw[XN];decide,by kernel_rfl,vaC (by kernel_rfl),UB,wO⟩
theorem Yo:qF Pg 23 77 eP:=⟨underlying23,fun x=>(R3 x).trans qbi.symm,by kernel_rfl,by rw[qbi];decide,by kernel_rfl,vaC (by kernel_rfl),Sj,Gf⟩
theorem W3:qF Pg 24 82 bP:=⟨underlying24,fun x=>(L6 x).trans qbk.symm,by kernel_rfl,by rw[qbk];decide,by kernel_rfl,vaC (by kernel_rfl),Mf,yo⟩
theorem UZ:qF Pg 25 86 cG:=⟨underlying25,fun x=>(OJ x).trans qbl.symm,by kernel_rfl,by rw[qbl];decide,by kernel_rfl,vaC (by kernel_rfl),OU,AN⟩
theorem Yp:qF Pg 26 90 eM:=⟨underlying26,fun x=>(Up x).trans qbn.symm,by kernel_rfl,by rw[qbn];decide,by kernel_rfl,vaC (by kernel_rfl),UF,J0⟩
theorem Sw:qF Pg 27 122 cT:=⟨underlying27,fun x=>(Wk x).trans YO.symm,by kernel_rfl,by rw[YO];decide,by kernel_rfl,vaC (by kernel_rfl),Ww,BH⟩
theorem cX:qF Pg 31 38 af:=⟨underlying31,fun x=>(BN x).trans VM.symm,by kernel_rfl,by rw[VM];decide,by kernel_rfl,vaC (by kernel_rfl),UG,av⟩
theorem qdk:Pg.cellsOf 9=1:=by kernel_rfl
theorem bJ:qF Pg 32 9 cS:=⟨underlying32,fun _=>qdk.symm,by kernel_rfl,by rw[qdk];decide,by kernel_rfl,vaC (by kernel_rfl),qcQ,gG⟩
theorem ck:qF Pg 34 36 ac:=⟨underlying34,fun x=>(Gp x).trans XL.symm,by kernel_rfl,by rw[XL];decide,by kernel_rfl,vaC (by kernel_rfl),UE,ah⟩
theorem wt:qF Pg 48 50 ax:=⟨underlying48,fun x=>(Gm x).trans XM.symm,by kernel_rfl,by rw[XM];decide,by kernel_rfl,vaC (by kernel_rfl),UA,bA⟩
theorem IG:qF Pg 57 62 aN:=⟨underlying57,fun x=>(Hk x).trans ZN.symm,by kernel_rfl,by rw[ZN];decide,by kernel_rfl,vaC (by kernel_rfl),Qp,eV⟩
theorem GT:qF Pg 60 102 bE:=⟨underlying60,fun x=>(Qf x).trans VL.symm,by kernel_rfl,by rw[VL];decide,by kernel_rfl,vaC (by kernel_rfl),Wx,lu⟩
theorem Z4:qF Pg 69 73 ef:=⟨underlying69,fun x=>(Wj x).trans qbh.symm,by kernel_rfl,by rw[qbh];decide,by kernel_rfl,vaC (by kernel_rfl),Wv,EC⟩
theorem qbF:qF Pg 75 79 dF:=⟨underlying75,fun x=>(Qd x).trans qbj.symm,by kernel_rfl,by rw[qbj];decide,by kernel_rfl,vaC (by kernel_rfl),Qq,JY⟩
theorem qbG:qF Pg 80 247 gE:=⟨underlying80,fun x=>(Uo x).trans YT.symm,by kernel_rfl,by rw[YT];decide,by kernel_rfl,vaC (by kernel_rfl),UD,JZ⟩
theorem Z5:qF Pg 84 88 fa:=⟨underlying84,fun x=>(Un x).trans qbm.symm,by kernel_rfl,by rw[qbm];decide,by kernel_rfl,vaC (by kernel_rfl),Uz,PQ⟩
theorem Yq:qF Pg 93 97 aP:=⟨underlying93,fun x=>(MX x).trans ZO.symm,by kernel_rfl,by rw[ZO];decide,by kernel_rfl,vaC (by kernel_rfl),UC,wP⟩
theorem U0:qF Pg 94 125 dv:=⟨underlying94,fun x=>(R7 x).trans YQ.symm,by kernel_rfl,by rw[YQ];decide,by kernel_rfl,vaC (by kernel_rfl),Sk,Gg⟩
theorem Sx:qF Pg 95 127 eI:=⟨underlying95,fun x=>(Wi x).trans YR.symm,by kernel_rfl,by rw[YR];decide,by kernel_rfl,vaC (by kernel_rfl),Wu,Oe⟩
theorem qbE:qF Pg 117 248 nr:=⟨underlying117,fun x=>(Wh x).trans YU.symm,by kernel_rfl,by rw[YU];decide,by kernel_rfl,vaC (by kernel_rfl),Wt,SP⟩
theorem Tv:qF Pg 118 124 cD:=⟨underlying118,fun x=>(R2 x).trans YP.symm,by kernel_rfl,by rw[YP];decide,by kernel_rfl,vaC (by kernel_rfl),Si,ME⟩
theorem qdj:Pg.cellsOf 5=1:=by kernel_rfl
theorem Mo:(Pg.underlying 9).any Za=true:=by kernel_rfl
theorem qdE:GL Pg 4=some (PVal.bool false):=by kernel_rfl
theorem lC:jC Pg 36=some [.int .i64 0,.str ([]:ag),.int .i64 0,sl ac ([]:List aa)]:=by kernel_rfl
theorem Bn:jC Pg 38=some [.int .i64 0,.str ([]:ag),sl af ([]:List ae),sl cS ([]:List ag),.int .i64 0,.str ([]:ag),.int .i64 0,sl ac ([]:List aa),sl ac ([]:List aa)]:=by kernel_rfl
theorem zq:jC Pg 50=some [.int .i64 0,.str ([]:ag),.str ([]:ag),.int .i64 0,.str ([]:ag),.int .i64 0,sl ac ([]:List aa),.int .i64 0,sl ax ([]:List ak)]:=by kernel_rfl
theorem Yl:jC Pg 71=some [.str ([]:ag),sl cS ([]:List ag),sl bE ([]:List dh),sl ef ([]:List iu)]:=by kernel_rfl
theorem qbz:jC Pg 102=some [.str ([]:ag),.str ([]:ag)]:=by kernel_rfl
theorem qbA:jC Pg 120=some [sl cS ([]:List ag),sl gE ([]:List Bu),sl nr ([]:List Mp),sl cD ([]:List kY),.int .i64 0,.str ([]:ag),sl af ([]:List ae),sl cS ([]:List ag),.int .i64 0,.str ([]:ag),.int .i64 0,sl ac ([]:List aa),sl ac ([]:List aa),sl ac ([]:List aa)]:=by kernel_rfl
theorem Ni:jC Pg 173=some [sl cS ([]:List ag),sl ac ([]:List aa)]:=by kernel_rfl
def jt:List Int:=[1,10,100,1000,10000,100000,1000000,10000000,100000000,1000000000,10000000000,100000000000,1000000000000,10000000000000,100000000000000,1000000000000000,10000000000000000,100000000000000000,1000000000000000000,10000000000000000000]
theorem qbe:Pg.cellsOf 197=20:=by kernel_rfl
theorem qbd:Pg.cellsOf 185=1:=by kernel_rfl
def xa:List Int:=[0,1,28,2,29,14,24,3,30,22,20,15,25,17,4,8,31,27,13,23,21,19,16,7,26,12,18,6,11,5,10,9]
theorem qbf:Pg.cellsOf 205=32:=by kernel_rfl
def xc:List Int:=[0,1,56,2,57,49,28,3,61,58,42,50,38,29,17,4,62,47,59,36,45,43,51,22,53,39,33,30,24,18,12,5,63,55,48,27,60,41,37,16,46,35,44,21,52,32,23,11,54,26,40,15,34,20,31,10,25,14,19,9,13,8,7,6]
theorem qbg:Pg.cellsOf 206=64:=by kernel_rfl
def GE:List (Nat×List PVal):=[(0,jt.map (PVal.int .u64)),(1,xa.map (PVal.int .u8)),(2,xc.map (PVal.int .u8))]
theorem cw(A:List Nat){m:Nat}{c:Code}{sc:List It}{F:Prop}{e0:Exit}{st0 st:az}(h:PS sc F)(he:F=xx Pg GE A m c sc st (FN e0 st0)):aT Pg GE m c (EX e0 st0) st:=lU mixed h he
theorem rU(A:List Nat){m:Nat}{c:Code}{sc:List It}{F:Prop}{σ X:Type}{S:σ->az}{ex:X->Exit}{so:X->az}{s:σ}{st:az}(h:PS sc F)(he:F=xx Pg GE A m c sc st (FN .normal (S s))):aT Pg GE m c (LQ S ex so (.inl s)) st:=qbu mixed h he
theorem i7(A:List Nat){m:Nat}{c:Code}{sc:List It}{F:Prop}{σ X:Type}{S:σ->az}{ex:X->Exit}{so:X->az}{x:X}{st:az}(hn:ex x≠.normal)(h:PS sc F)(he:F=xx Pg GE A m c sc st (FN (ex x) (so x))):aT Pg GE m c (LQ S ex so (.inr x)) st:=qbx mixed hn h he
theorem cn(A:List Nat){f:FuncId}{fn:Func}{c:Code}{args:List PVal}{r:PVal}{ro:List (Nat×TypeId)}(hcall:∀vs w,(callFunc f vs).run Pg w=.ok (.enter f vs) w)(hfn:Pg.funcs[f]? =some fn)(hb:fn.body=some c)(hcl:ig 0 args){sc:List It}{F:Prop}(h:PS sc F)(he:F=xx Pg GE A 0 c sc ⟨args++List.replicate (fn.ntmps - args.length) .undef,[],[]⟩ (FR Pg fn.results.toList r ro)):CC Pg GE f args r ro:=C.evp mixed hcall hfn hb hcl h he
abbrev waA:=List ag
abbrev waB:=List aa
abbrev waC:=List ae
abbrev waD:=List ak
abbrev waE:=List aE
abbrev waF:=List dh
abbrev waG:=List iu
end Go.Proofs.YtbaamopmfmpfaaaGreatDoor
