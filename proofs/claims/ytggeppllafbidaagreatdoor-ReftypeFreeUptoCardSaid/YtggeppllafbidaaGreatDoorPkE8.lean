/- PROVED: a part of the proof. Conditions: none. -/
import Derived.Test.YtggeppllafbidaaGreatDoorPkE7
import Derived.Test.YtggeppllafbidaaGreatDoorChecked
import Derived.RangeFuncRecord
import Derived.RangeFuncSeq
import Derived.Test.YtggeppllafbidaaGreatDoorProg
import Derived.Ground.SlgnProg
import Derived.Shelf.Lays
import Derived.Shelf.LaysM
import Derived.Shelf.SlGeneric
import Derived.Shelf.SlLaysE0
noncomputable section
namespace Go.Proofs.YtggeppllafbidaaGreatDoor
open Go
def PS(_:List It)(F:Prop):Prop:=F
section
variable{sc:List It}{F X Y:Prop}
theorem en(h:F):PS [] F:=h
theorem sv{o:Option PVal}{p:PVal}(h:o=some p)(r:PS sc F):PS (.v p::sc) (o=some p/\F):=⟨h,r⟩
theorem cf{o:List aC->Option PVal}{p:PVal}(h:∀H,o H=some p)(r:PS sc F):PS (.v p::sc) ((∀H,o H=some p)/\F):=⟨h,r⟩
theorem sx{o:Option (List PVal)}{l:List PVal}(h:o=some l)(r:PS sc F):PS (.x l::sc) (o=some l/\F):=⟨h,r⟩
theorem se{o:Option (List PVal)}{l:List PVal}(h:o=some l)(r:PS sc F):PS (.e l::sc) (o=some l/\F):=⟨h,r⟩
theorem sg(n:Nat){x b:Bool}(h:x=b)(r:PS sc F):PS (.g n b::sc) (x=b/\F):=⟨h,r⟩
theorem ss(r:PS sc F):PS (.s::sc) F:=r
theorem SE{o:Option (List PVal)}{l:List PVal}(h:o=some l)(r:PS sc F):PS (.s::sc) (o=some l/\F):=⟨h,r⟩
theorem aX{P:Program}{GE:List (Nat×List PVal)}{g:FuncId}{vs:List PVal}{p:PVal}{ro:List (Nat×TypeId)}(h:CC P GE g vs p ro)(r:PS sc F):PS (.c p ro::sc) (CC P GE g vs p ro/\F):=⟨h,r⟩
theorem sb{P:Program}{T:TypeId}{ps:List (Nat×PVal)}{p:PVal}{L:List (Nat×TypeId)}(h:dm P T ps=some p)(h':sX P T ps L)(r:PS sc F):PS (.b p L::sc) (dm P T ps=some p/\sX P T ps L/\F):=⟨h,h',r⟩
theorem sy{l vs:List PVal}(h:l=vs)(r:PS sc F):PS (.y vs::sc) (l=vs/\F):=⟨h,r⟩
theorem Ri{o:Option (List PVal)}{vs:List PVal}(h:o=some vs)(r:PS sc F):PS (.y vs::sc) (o=some vs/\F):=⟨h,r⟩
theorem sz{o:Option PVal}{l:List PVal}(h:o=some (.agg l))(r:PS sc F):PS (.z l::sc) (o=some (.agg l)/\F):=⟨h,r⟩
theorem ze(an:List Nat)(r:PS sc F):PS (.dr an::sc) F:=r
theorem iO(n:Nat)(r:PS sc F):PS (.pa n::sc) F:=r
theorem ct{P:Program}{GE:List (Nat×List PVal)}{m:Nat}{c:Code}{e:Exit}{s0 s1:ax}(h:aL P GE m c (EX e s1) s0)(r:PS sc F):PS (.pc s0 e s1::sc) ((s0.tmps=s0.tmps/\s0.boxes=s0.boxes/\true=true)/\aL P GE m c (EX e s1) s0/\F):=⟨fr s0,h,r⟩
theorem VW(i:It)(r:PS sc F):PS (i::sc) F:=r
theorem sf(h:X)(r:PS sc F):PS sc (X/\F):=⟨h,r⟩
theorem WQ{o:Option (List aC)}{B:aC}(h:o=some [B])(r:PS sc F):PS (.w 0 B::sc) (o=some [B]/\F):=⟨h,r⟩
theorem VX{o:Option (List (PVal×PVal))}{m:List (PVal×PVal)}(h:o=some m)(r:PS sc F):PS (.w 0 (.map m)::sc) (o=some m/\F):=⟨h,r⟩
theorem WP(i:Nat)(e:TypeId){n k:Nat}{cs fs:List PVal}(h:X/\Y/\(n=k/\cs=fs))(r:PS sc F):PS (.ar i e n cs::sc) (X/\Y/\(n=k/\cs=fs)/\F):=⟨h.1,h.2.1,h.2.2,r⟩
theorem Va(i:Nat)(es:List (List PVal))(lv rk:List Nat)(h:X)(h':Y){Z:Prop}(h'':Z)(r:PS sc F):PS (.fz i es lv rk::sc) (X/\Y/\Z/\F):=⟨h,h',h'',r⟩
end
section
variable{P:Program}{GE:List (Nat×List PVal)}{A:List Nat}{m:Nat}
theorem dH(hf:P.follows .mixedOrders=true){c:Code}{e0:Exit}{st0 st:ax}{sc:List It}{F:Prop}(h:PS sc F)(he:F=tk P GE A m c sc st (FN e0 st0)):aL P GE m c (EX e0 st0) st:=piece hf sc (Eq.mp he h)
theorem T6(hf:P.follows .mixedOrders=true){σ X:Type}{S:σ->ax}{ex:X->Exit}{so:X->ax}{c:Code}{s:σ}{st:ax}{sc:List It}{F:Prop}(h:PS sc F)(he:F=tk P GE A m c sc st (FN .normal (S s))):aL P GE m c (LQ S ex so (.inl s)) st:=jS hf sc (Eq.mp he h)
theorem T9(hf:P.follows .mixedOrders=true){σ X:Type}{S:σ->ax}{ex:X->Exit}{so:X->ax}{c:Code}{x:X}{st:ax}{sc:List It}{F:Prop}(hn:ex x≠.normal)(h:PS sc F)(he:F=tk P GE A m c sc st (FN (ex x) (so x))):aL P GE m c (LQ S ex so (.inr x)) st:=U5 hf sc hn (Eq.mp he h)
theorem C.evp(hf:P.follows .mixedOrders=true){f:FuncId}{fn:Func}{c:Code}{args:List PVal}{r:PVal}{ro:List (Nat×TypeId)}
  (hcall:∀vs w,(callFunc f vs).run P w=.ok (.enter f vs) w) (hfn:P.funcs[f]? =some fn) (hb:fn.body=some c) (hcl:i8 0 args) {sc:List It} {F:Prop} (h:PS sc F)
  (he:F=tk P GE A 0 c sc ⟨args++List.replicate (fn.ntmps - args.length) .undef,[],[]⟩ (FR P fn.results.toList r ro)):CC P GE f args r ro:=C.ev hf hcall hfn hb hcl sc (Eq.mp he h)
end
section
variable{P:Program}{GE:List (Nat×List PVal)}{A:List Nat}{m:Nat}
theorem cJ(hf:P.follows .mixedOrders=true){σ X:Type}{S:σ->ax}{ex:X->Exit}{so:X->ax}{c:Code}{s:σ}{st:ax}{sc:List It}{F:Prop}(h:PS sc F)(he:F=tk P GE A m c sc st (Tk m .normal (S s))):aL P GE m c (LQ S ex so (.inl s)) st:=T7 hf sc (Eq.mp he h)
theorem oM(hf:P.follows .mixedOrders=true){σ X:Type}{S:σ->ax}{ex:X->Exit}{so:X->ax}{c:Code}{x:X}{st:ax}{sc:List It}{F:Prop}(hn:ex x≠.normal)(h:PS sc F)(he:F=tk P GE A m c sc st (Tk m (ex x) (so x))):aL P GE m c (LQ S ex so (.inr x)) st:=Ua hf sc hn (Eq.mp he h)
end
def tm(n:Nat):Nat->List (Nat×PVal)->List PVal
 |k,[]=>List.replicate (n - k) .undef
 |k,x::l=>List.replicate (x.1 - k) .undef++x.2::tm n (x.1+1) l
abbrev aP(n:Nat)(l:List (Nat×PVal))(H:List aC)(o:List ((Nat×Nat)×TypeId)):ax:=⟨tm n 0 l,H,o⟩
def Sp(n:Nat):List (Nat×PVal)->Prop
 |[]=>True
 |x::l=>x.2.cl n/\Sp n l
theorem I1{n:Nat}{l:List PVal}(h:i8 n l):∀k,i8 n (List.replicate k .undef++l)
 |0=>h
 |k+1=>by rw[List.replicate_succ,vbu];exact⟨trivial,I1 h k⟩
theorem cG{n N:Nat}:∀{l:List (Nat×PVal)} {k:Nat},Sp n l->i8 n (tm N k l)
 |[],k,_=>by unfold tm;have:=I1 (n:=n) (l:=[]) trivial (N - k);rwa[vbm]at this
 |x::l,k,h=>by unfold tm;exact I1 (l:=x.2::tm N (x.1+1) l) (by simp only[i8];exact⟨h.1,cG h.2⟩) _
def bits:Nat->Nat->List Bool->List Bool
 |0,_,l=>l
 |k+1,n,l=>if n<=1 then l else bits k (n / 2) ((n % 2==1)::l)
def cA(c:Code)(n:Nat):Code:=cX c (bits 100 n [])
section
variable{X Y:Type}
def lH(F:(X->Option Y)->X->Option Y)(x:X):Option Y:=T0 F QD x
theorem Sl:18446744073709551616<QD:=by unfold QD;omega
theorem cC{F:(X->Option Y)->X->Option Y}{M:X->Y->Prop}(hF:∀rec:X->Option Y,(∀x r,rec x=some r->M x r)->∀x r,F rec x=some r->M x r){x:X}{r:Y}(h:lH F x=some r):M x r:=by
 have key:∀n x r,T0 F n x=some r->M x r:=by
  intro n
  induction n with
  |zero=>intro x r h;cases h
  |succ n ih=>intro x r h;exact hF _ ih x r h
 exact key _ x r h
theorem nH{F:(X->Option Y)->X->Option Y}(μ:X->Nat)(Q:X->Prop)(s:X->Y)(h:∀(R:X->Option Y) x,Q x->(∀y,μ y<μ x->Q y->R y=some (s y))->F R x=some (s x))(x:X)(hx:Q x)(hm:μ x<QD):lH F x=some (s x):=by
 have key:∀n x,μ x<n->Q x->T0 F n x=some (s x):=by
  intro n
  induction n with
  |zero=>intro x hx;omega
  |succ n ih=>intro x hx hq;exact h _ x hq fun y hy hqy=>ih y (by omega) hqy
 exact key _ x hm hx
end
def P9{α:Type}(n:Nat)(l:List α)(i:Int):Option α:=if 0<=i/\i.toNat<n then l[i.toNat]? else none
def S0{α:Type}(n:Nat)(l:List α):Option (List α):=if n=l.length then some l else none
theorem QS{α:Type}{n:Nat}{l:List α}{i:Int}{x:α}(h:P9 n l i=some x):dT l i=some x:=by
 unfold P9 at h
 split at h
 ·rename_i hh;unfold dT;rw[vap hh.1];exact h
 ·cases h
theorem Fg{α:Type}{n:Nat}{l r:List α}(h:S0 n l=some r):n=l.length/\r=l:=by
 unfold S0 at h
 split at h
 ·cases h;exact⟨by assumption,rfl⟩
 ·cases h
section
variable{P:Program}{GE:List (Nat×List PVal)}{T e:TypeId}{α:Type}{c:α->List PVal}
theorem wM.iaN(s:wM P T e c)(b:Nat){n:Nat}{l:List α}{i:Int}{k:IntKind}{x:α}(h:P9 n l i=some x):iJ P T (.bsl b 0 n) (.int k i)=some (.bptr b (Ca P e i)):=by
 unfold P9 at h
 split at h
 ·rename_i hh
  unfold iJ
  rw[s.hu]
  simp only
  rw[vap ⟨hh.1,by omega,s.hi⟩]
 ·cases h
theorem wM.ldN(s:wM P T e c){n:Nat}{l:List α}{i:Int}{x:α}{p:PVal}(hl:∀r,cw P e (c x++r)=some p)(h:P9 n l i=some x):cw P e ((rE c l).drop (Ca P e i))=some p:=s.ldR hl (QS h)
theorem wM.fz1(s:wM P T e c){m b:Nat}(hb:decide (m % 1000<=b)=true)(l:List α):(m % 1000<=b)/\∃sz,0<sz/\∀x∈l.map c,x.length=sz:=⟨vbr hb,_,s.hp,fun x hx=>(s.mapOk l x hx).1⟩
theorem wM.fz2(s:wM P T e c)(b:Nat)(l:List α):Dz b (l.map c):=sU b _ (I0 fun p hp=>by obtain⟨x,_,rfl⟩:=vai.1 hp;exact s.cl x)
theorem WC(c:α->List PVal){n:Nat}{l r:List α}(h:S0 n l=some r):rE c l=(r.map c).flatten:=by rw[(Fg h).2];rfl
theorem WD(c:α->List PVal){n:Nat}{l r:List α}(h:S0 n l=some r):n=(r.map c).length:=by rw[(Fg h).2,vaU];exact(Fg h).1
theorem VL{m b:Nat}(hb:decide (m % 1000<=b)=true)(l:List PVal)(hl:decide (l.length≠0)=true):(m % 1000<=b)/\∃sz,0<sz/\∀x∈[l],x.length=sz:=⟨vbr hb,l.length,by have:=vbr hl;omega,fun x hx=>by rw[vaJ.1 hx]⟩
theorem VM(b:Nat){l:List PVal}(h:i8 0 l):Dz b [l]:=sU b _ ⟨h,trivial⟩
theorem VN{l r:List PVal}(h:r=l):l=[r].flatten:=by rw[h];simp
theorem Ol(b:Nat){p:PVal}(h:p.cl 0):p.no b:=KE b p h
end
theorem Un{α:Type}{c:α->List PVal}(n:Nat)(h:∀x,i8 0 (c x)):∀(l:List α),i8 n (rE c l)
 |[]=>trivial
 |x::l=>by
  have e:rE c (x::l)=c x++rE c l:=by simp[rE]
  rw[e]
  exact yF.2 ⟨yG (h x),Un n h l⟩
theorem eF(e:Exit)(s:ax):PS [] (e=e/\s.tmps=s.tmps/\s.boxes=s.boxes/\true=true):=⟨rfl,fr s⟩
theorem pq(m:Nat)(e:Exit)(s:ax)(h4:decide (m % 1000<=s.boxes.length)=true)(h5:i8 s.boxes.length s.tmps)(h6:LE s.boxes.length s.boxes):PS [] (e=e/\s.tmps=s.tmps/\s.boxes=s.boxes/\true=true/\decide (m % 1000<=s.boxes.length)=true/\i8 s.boxes.length s.tmps/\LE s.boxes.length s.boxes):=⟨rfl,WB m s h4 h5 h6⟩
open Go Go.Proofs.Tryz
set_option linter.unusedVariables false
set_option maxRecDepth 100000
noncomputable abbrev Pg:=Tryz.prog
theorem mixed:Pg.follows .mixedOrders=true:=by kernel_rfl
inductive aa where
 |mk (Op:Int) (Name:ag) (N:Int) (Kids:(List aa))
def aa.Op:aa->Int
 |⟨x,_,_,_⟩=>x
def aa.Name:aa->ag
 |⟨_,x,_,_⟩=>x
def aa.N:aa->Int
 |⟨_,_,x,_⟩=>x
def aa.Kids:aa->(List aa)
 |⟨_,_,_,x⟩=>x
mutual
def ac:aa->List PVal
 |⟨x0,x1,x2,x3⟩=>[.int .i64 x0,.str x1,.int .i64 x2,.slice (pS x3)]
def pS:List aa->List (List PVal)
 |[]=>[]
 |x::r=>ac x::pS r
end
theorem Fs:∀(l:List aa),pS l=l.map ac
 |[]=>by simp[pS]
 |x::r=>by simp[pS,Fs r]
mutual
theorem ah:∀(x:aa),i8 0 (ac x)
 |⟨x0,x1,x2,x3⟩=>by rw[ac];exact(aI trivial (aI trivial (aI trivial (aI (HL x3) trivial))))
theorem HL:∀(l:List aa),tR 0 (pS l)
 |[]=>by simp[pS,tR]
 |x::r=>by rw[pS];exact⟨ah x,HL r⟩
end
theorem aQ:∀(x:aa),ac x=[.int .i64 x.Op,.str x.Name,.int .i64 x.N,sl ac x.Kids]
 |⟨x0,x1,x2,x3⟩=>by
  simp only[ac,Fs]
  rfl
abbrev cu(x:aa):PVal:=.agg (ac x)
theorem BA(x:aa):(ac x).length=4:=by rw[aQ];rfl
theorem bJ(x:aa):cp (.agg (ac x))=some (ac x):=rfl
theorem bK(x:aa):cp (cu x)=some (ac x):=rfl
theorem cb(x:aa):cp (.agg (ac x))=some [.int .i64 x.Op,.str x.Name,.int .i64 x.N,sl ac x.Kids]:=by rw[aQ];rfl
theorem NV(x:aa):∀q∈ac x,q.one=true:=by
 intro q hq
 rw[aQ]at hq
 simp only[vaD,vbv,or_false]at hq
 rcases hq with rfl|rfl|rfl|rfl<;>rfl
theorem QH:Pg.cellsOf 28=4:=by kernel_rfl
theorem aM(x:aa):cw Pg 28 (ac x)=some (.agg (ac x)):=by
 have:=BX (P:=Pg) (t:=28) (l:=ac x) (r:=[]) (by kernel_rfl) (QH.trans (BA x).symm)
 rwa[vbm]at this
theorem bj(x:aa)(r:List PVal):cw Pg 28 ([.int .i64 x.Op,.str x.Name,.int .i64 x.N,sl ac x.Kids]++r)=some (.agg (ac x)):=by
 rw[<-aQ];exact BX (by kernel_rfl) (QH.trans (BA x).symm)
theorem dw(x:aa):PVal.agg [.int .i64 x.Op,.str x.Name,.int .i64 x.N,sl ac x.Kids]=.agg (ac x):=by rw[aQ]
theorem oC:dm Pg 28 []=some (.agg (ac (⟨0,([]:ag),0,([]:List aa)⟩:aa))):=by
 simp only[aQ]
 kernel_rfl
theorem oA:sX Pg 28 [] [(3,28)]:=by
 exact⟨[.int .i64 0,.str ([]:ag),.int .i64 0,.val mH],by kernel_rfl,(aI rfl trivial)⟩
theorem nD(x0:Int)(x1:ag):dm Pg 28 [(0,.int .i64 x0),(1,.str x1)]=some (.agg (ac (⟨x0,x1,0,([]:List aa)⟩:aa))):=by
 simp only[aQ]
 kernel_rfl
theorem nA(x0:Int)(x1:ag):sX Pg 28 [(0,.int .i64 x0),(1,.str x1)] [(3,28)]:=by
 exact⟨[.int .i64 x0,.str x1,.int .i64 0,.val mH],by kernel_rfl,(aI rfl trivial)⟩
theorem oB(x0:Int)(x1:ag)(x2:Int):dm Pg 28 [(0,.int .i64 x0),(1,.str x1),(2,.int .i64 x2)]=some (.agg (ac (⟨x0,x1,x2,([]:List aa)⟩:aa))):=by
 simp only[aQ]
 kernel_rfl
theorem oz(x0:Int)(x1:ag)(x2:Int):sX Pg 28 [(0,.int .i64 x0),(1,.str x1),(2,.int .i64 x2)] [(3,28)]:=by
 exact⟨[.int .i64 x0,.str x1,.int .i64 x2,.val mH],by kernel_rfl,(aI rfl trivial)⟩
theorem nE(x0:Int)(x2:Int):dm Pg 28 [(0,.int .i64 x0),(2,.int .i64 x2)]=some (.agg (ac (⟨x0,([]:ag),x2,([]:List aa)⟩:aa))):=by
 simp only[aQ]
 kernel_rfl
theorem nB(x0:Int)(x2:Int):sX Pg 28 [(0,.int .i64 x0),(2,.int .i64 x2)] [(3,28)]:=by
 exact⟨[.int .i64 x0,.str ([]:ag),.int .i64 x2,.val mH],by kernel_rfl,(aI rfl trivial)⟩
theorem nF(x0:Int)(x3:(List aa)):dm Pg 28 [(0,.int .i64 x0),(3,sl ac x3)]=some (.agg (ac (⟨x0,([]:ag),0,x3⟩:aa))):=by
 simp only[aQ]
 kernel_rfl
theorem Lx(x0:Int):dm Pg 28 [(0,.int .i64 x0)]=some (.agg (ac (⟨x0,([]:ag),0,([]:List aa)⟩:aa))):=by
 simp only[aQ]
 kernel_rfl
theorem Lv(x0:Int):sX Pg 28 [(0,.int .i64 x0)] [(3,28)]:=by
 exact⟨[.int .i64 x0,.str ([]:ag),.int .i64 0,.val mH],by kernel_rfl,(aI rfl trivial)⟩
theorem aD(x:aa):cH Pg 28 (.eptr (ac x)) 0=some (.eptr ((ac x).drop 0)):=by rw[aQ];kernel_rfl
theorem bp(x:aa):cH Pg 28 (.eptr (ac x)) 1=some (.eptr ((ac x).drop 1)):=by rw[aQ];kernel_rfl
theorem bu(x:aa):cH Pg 28 (.eptr (ac x)) 2=some (.eptr ((ac x).drop 2)):=by rw[aQ];kernel_rfl
theorem aG(x:aa):cH Pg 28 (.eptr (ac x)) 3=some (.eptr ((ac x).drop 3)):=by rw[aQ];kernel_rfl
theorem aE(x:aa):cw Pg 25 ((ac x).drop 0)=some (.int .i64 x.Op):=by rw[aQ];kernel_rfl
theorem bH(x:aa):cw Pg 9 ((ac x).drop 1)=some (.str x.Name):=by rw[aQ];kernel_rfl
theorem bI(x:aa):cw Pg 3 ((ac x).drop 2)=some (.int .i64 x.N):=by rw[aQ];kernel_rfl
theorem aH(x:aa):cw Pg 26 ((ac x).drop 3)=some (sl ac x.Kids):=by rw[aQ];kernel_rfl
inductive ae where
 |mk (Op:Int) (Name:ag) (Args:(List ae)) (Names:(List ag)) (Pred:aa) (Preds:(List aa))
def ae.Op:ae->Int
 |⟨x,_,_,_,_,_⟩=>x
def ae.Name:ae->ag
 |⟨_,x,_,_,_,_⟩=>x
def ae.Args:ae->(List ae)
 |⟨_,_,x,_,_,_⟩=>x
def ae.Names:ae->(List ag)
 |⟨_,_,_,x,_,_⟩=>x
def ae.Pred:ae->aa
 |⟨_,_,_,_,x,_⟩=>x
def ae.Preds:ae->(List aa)
 |⟨_,_,_,_,_,x⟩=>x
mutual
def af:ae->List PVal
 |⟨x0,x1,x2,x3,x4,x5⟩=>[.int .i64 x0,.str x1,.slice (pT x2),sl cS x3]++(ac x4++([sl ac x5]))
def pT:List ae->List (List PVal)
 |[]=>[]
 |x::r=>af x::pT r
end
theorem Ft:∀(l:List ae),pT l=l.map af
 |[]=>by simp[pT]
 |x::r=>by simp[pT,Ft r]
mutual
theorem al:∀(x:ae),i8 0 (af x)
 |⟨x0,x1,x2,x3,x4,x5⟩=>by rw[af];exact yF.2 (aI ((aI trivial (aI trivial (aI (HM x2) (aI (aw ie x3) trivial))))) (yF.2 (aI (ah x4) ((aI (aw ah x5) trivial)))))
theorem HM:∀(l:List ae),tR 0 (pT l)
 |[]=>by simp[pT,tR]
 |x::r=>by rw[pT];exact⟨al x,HM r⟩
end
theorem aU:∀(x:ae),af x=[.int .i64 x.Op,.str x.Name,sl af x.Args,sl cS x.Names,.int .i64 x.Pred.Op,.str x.Pred.Name,.int .i64 x.Pred.N,sl ac x.Pred.Kids,sl ac x.Preds]
 |⟨x0,x1,x2,x3,x4,x5⟩=>by
  simp only[af,Ft,aQ,vbu,va1]
  rfl
abbrev wJ(x:ae):PVal:=.agg (af x)
theorem BB(x:ae):(af x).length=9:=by rw[aU];rfl
theorem bR(x:ae):cp (.agg (af x))=some (af x):=rfl
theorem ri(x:ae):cp (wJ x)=some (af x):=rfl
theorem cQ(x:ae):cp (.agg (af x))=some [.int .i64 x.Op,.str x.Name,sl af x.Args,sl cS x.Names,.int .i64 x.Pred.Op,.str x.Pred.Name,.int .i64 x.Pred.N,sl ac x.Pred.Kids,sl ac x.Preds]:=by rw[aU];rfl
theorem NW(x:ae):∀q∈af x,q.one=true:=by
 intro q hq
 rw[aU]at hq
 simp only[vaD,vbv,or_false]at hq
 rcases hq with rfl|rfl|rfl|rfl|rfl|rfl|rfl|rfl|rfl<;>rfl
theorem QI:Pg.cellsOf 30=9:=by kernel_rfl
theorem aV(x:ae):cw Pg 30 (af x)=some (.agg (af x)):=by
 have:=BX (P:=Pg) (t:=30) (l:=af x) (r:=[]) (by kernel_rfl) (QI.trans (BB x).symm)
 rwa[vbm]at this
theorem bw(x:ae)(r:List PVal):cw Pg 30 ([.int .i64 x.Op,.str x.Name,sl af x.Args,sl cS x.Names,.int .i64 x.Pred.Op,.str x.Pred.Name,.int .i64 x.Pred.N,sl ac x.Pred.Kids,sl ac x.Preds]++r)=some (.agg (af x)):=by
 rw[<-aU];exact BX (by kernel_rfl) (QI.trans (BB x).symm)
theorem dy(x:ae):PVal.agg [.int .i64 x.Op,.str x.Name,sl af x.Args,sl cS x.Names,.int .i64 x.Pred.Op,.str x.Pred.Name,.int .i64 x.Pred.N,sl ac x.Pred.Kids,sl ac x.Preds]=.agg (af x):=by rw[aU]
theorem Ly:dm Pg 30 []=some (.agg (af (⟨0,([]:ag),([]:List ae),([]:List ag),(⟨0,([]:ag),0,([]:List aa)⟩:aa),([]:List aa)⟩:ae))):=by
 simp only[aU]
 kernel_rfl
theorem Lw:sX Pg 30 [] [(2,30),(3,9),(7,28),(8,28)]:=by
 exact⟨[.int .i64 0,.str ([]:ag),.val mH,.val mH,.int .i64 0,.str ([]:ag),.int .i64 0,.val mH,.val mH],by kernel_rfl,(aI rfl (aI rfl (aI rfl (aI rfl trivial))))⟩
theorem Bt(x0:Int)(x1:ag)(x3:(List ag))(x4:aa):dm Pg 30 [(0,.int .i64 x0),(1,.str x1),(3,sl cS x3),(4,.agg (ac x4))]=some (.agg (af (⟨x0,x1,([]:List ae),x3,x4,([]:List aa)⟩:ae))):=by
 simp only[aU,aQ]
 kernel_rfl
theorem Br(x0:Int)(x1:ag)(x3:(List ag))(x4:aa):sX Pg 30 [(0,.int .i64 x0),(1,.str x1),(3,sl cS x3),(4,.agg (ac x4))] [(2,30),(8,28)]:=by
 simp only[aQ]
 exact⟨[.int .i64 x0,.str x1,.val mH,sl cS x3,.int .i64 x4.Op,.str x4.Name,.int .i64 x4.N,sl ac x4.Kids,.val mH],by kernel_rfl,(aI rfl (aI rfl trivial))⟩
theorem yE(x0:Int)(x1:ag)(x3:(List ag))(x4:aa)(x5:(List aa)):dm Pg 30 [(0,.int .i64 x0),(1,.str x1),(3,sl cS x3),(4,.agg (ac x4)),(5,sl ac x5)]=some (.agg (af (⟨x0,x1,([]:List ae),x3,x4,x5⟩:ae))):=by
 simp only[aU,aQ]
 kernel_rfl
theorem yD(x0:Int)(x1:ag)(x3:(List ag))(x4:aa)(x5:(List aa)):sX Pg 30 [(0,.int .i64 x0),(1,.str x1),(3,sl cS x3),(4,.agg (ac x4)),(5,sl ac x5)] [(2,30)]:=by
 simp only[aQ]
 exact⟨[.int .i64 x0,.str x1,.val mH,sl cS x3,.int .i64 x4.Op,.str x4.Name,.int .i64 x4.N,sl ac x4.Kids,sl ac x5],by kernel_rfl,(aI rfl trivial)⟩
theorem E4(x0:Int)(x3:(List ag))(x2:(List ae)):dm Pg 30 [(0,.int .i64 x0),(3,sl cS x3),(2,sl af x2)]=some (.agg (af (⟨x0,([]:ag),x2,x3,(⟨0,([]:ag),0,([]:List aa)⟩:aa),([]:List aa)⟩:ae))):=by
 simp only[aU]
 kernel_rfl
theorem E3(x0:Int)(x3:(List ag))(x2:(List ae)):sX Pg 30 [(0,.int .i64 x0),(3,sl cS x3),(2,sl af x2)] [(7,28),(8,28)]:=by
 exact⟨[.int .i64 x0,.str ([]:ag),sl af x2,sl cS x3,.int .i64 0,.str ([]:ag),.int .i64 0,.val mH,.val mH],by kernel_rfl,(aI rfl (aI rfl trivial))⟩
theorem IY(x0:Int)(x4:aa):dm Pg 30 [(0,.int .i64 x0),(4,.agg (ac x4))]=some (.agg (af (⟨x0,([]:ag),([]:List ae),([]:List ag),x4,([]:List aa)⟩:ae))):=by
 simp only[aU,aQ]
 kernel_rfl
theorem IX(x0:Int)(x4:aa):sX Pg 30 [(0,.int .i64 x0),(4,.agg (ac x4))] [(2,30),(3,9),(8,28)]:=by
 simp only[aQ]
 exact⟨[.int .i64 x0,.str ([]:ag),.val mH,.val mH,.int .i64 x4.Op,.str x4.Name,.int .i64 x4.N,sl ac x4.Kids,.val mH],by kernel_rfl,(aI rfl (aI rfl (aI rfl trivial)))⟩
theorem tQ(x0:Int)(x1:ag)(b3 n3:Nat)(x4:aa)(x5:(List aa)):dm Pg 30 [(0,.int .i64 x0),(1,.str x1),(3,.bsl b3 0 n3),(4,.agg (ac x4)),(5,sl ac x5)]=some (.agg [.int .i64 x0,.str x1,sl af ([]:List ae),.bsl b3 0 n3,.int .i64 x4.Op,.str x4.Name,.int .i64 x4.N,sl ac x4.Kids,sl ac x5]):=by
 simp only[aQ]
 kernel_rfl
theorem tP(x0:Int)(x1:ag)(b3 n3:Nat)(x4:aa)(x5:(List aa)):sX Pg 30 [(0,.int .i64 x0),(1,.str x1),(3,.bsl b3 0 n3),(4,.agg (ac x4)),(5,sl ac x5)] [(2,30)]:=by
 simp only[aQ]
 exact⟨[.int .i64 x0,.str x1,.val mH,.bsl b3 0 n3,.int .i64 x4.Op,.str x4.Name,.int .i64 x4.N,sl ac x4.Kids,sl ac x5],by kernel_rfl,(aI rfl trivial)⟩
theorem aq(x:ae):cH Pg 30 (.eptr (af x)) 0=some (.eptr ((af x).drop 0)):=by rw[aU];kernel_rfl
theorem ch(x:ae):cH Pg 30 (.eptr (af x)) 1=some (.eptr ((af x).drop 1)):=by rw[aU];kernel_rfl
theorem aA(x:ae):cH Pg 30 (.eptr (af x)) 2=some (.eptr ((af x).drop 2)):=by rw[aU];kernel_rfl
theorem aN(x:ae):cH Pg 30 (.eptr (af x)) 3=some (.eptr ((af x).drop 3)):=by rw[aU];kernel_rfl
theorem bZ(x:ae):cH Pg 30 (.eptr (af x)) 4=some (.eptr ((af x).drop 4)):=by rw[aU];kernel_rfl
theorem bF(x:ae):cH Pg 30 (.eptr (af x)) 5=some (.eptr ((af x).drop 8)):=by rw[aU];kernel_rfl
theorem au(x:ae):cw Pg 22 ((af x).drop 0)=some (.int .i64 x.Op):=by rw[aU];kernel_rfl
theorem cn(x:ae):cw Pg 9 ((af x).drop 1)=some (.str x.Name):=by rw[aU];kernel_rfl
theorem aB(x:ae):cw Pg 23 ((af x).drop 2)=some (sl af x.Args):=by rw[aU];kernel_rfl
theorem aO(x:ae):cw Pg 24 ((af x).drop 3)=some (sl cS x.Names):=by rw[aU];kernel_rfl
theorem b6(x:ae):cw Pg 28 ((af x).drop 4)=some (.agg (ac x.Pred)):=by
 rw[aU,aQ];kernel_rfl
theorem bG(x:ae):cw Pg 26 ((af x).drop 8)=some (sl ac x.Preds):=by rw[aU];kernel_rfl
structure ai where
 names:(List ag)
 by_:(List aa)
def am(x:ai):List PVal:=[sl cS x.names,sl ac x.by_]
theorem bX(x:ai):am x=[sl cS x.names,sl ac x.by_]:=rfl
theorem aT(x:ai):i8 0 (am x):=(aI (aw ie x.names) (aI (aw ah x.by_) trivial))
theorem jP(x:ai):(am x).length=2:=by rw[bX];rfl
theorem cE(x:ai):cp (.agg (am x))=some (am x):=rfl
theorem cU(x:ai):cp (.agg (am x))=some [sl cS x.names,sl ac x.by_]:=by rw[bX];rfl
theorem TW:Pg.cellsOf 71=2:=by kernel_rfl
theorem bY(x:ai):cw Pg 71 (am x)=some (.agg (am x)):=by
 have:=BX (P:=Pg) (t:=71) (l:=am x) (r:=[]) (by kernel_rfl) (TW.trans (jP x).symm)
 rwa[vbm]at this
theorem bM(x:ai)(r:List PVal):cw Pg 71 ([sl cS x.names,sl ac x.by_]++r)=some (.agg (am x)):=by
 rw[<-bX];exact BX (by kernel_rfl) (TW.trans (jP x).symm)
theorem jY(x:ai):PVal.agg [sl cS x.names,sl ac x.by_]=.agg (am x):=by rw[bX]
theorem pp:dm Pg 71 []=some (.agg (am (⟨([]:List ag),([]:List aa)⟩:ai))):=by
 kernel_rfl
theorem po:sX Pg 71 [] [(0,9),(1,28)]:=by
 exact⟨[.val mH,.val mH],by kernel_rfl,(aI rfl (aI rfl trivial))⟩
theorem nC(x0:(List ag))(x1:(List aa)):dm Pg 71 [(0,sl cS x0),(1,sl ac x1)]=some (.agg (am (⟨x0,x1⟩:ai))):=by
 kernel_rfl
theorem gj(x:ai):cH Pg 71 (.eptr (am x)) 0=some (.eptr ((am x).drop 0)):=by kernel_rfl
theorem ed(x:ai):cH Pg 71 (.eptr (am x)) 1=some (.eptr ((am x).drop 1)):=by kernel_rfl
theorem gn(x:ai):cw Pg 24 ((am x).drop 0)=some (sl cS x.names):=by kernel_rfl
theorem ee(x:ai):cw Pg 26 ((am x).drop 1)=some (sl ac x.by_):=by kernel_rfl
theorem cO:wM Pg 23 30 af:=⟨underlying23,fun x=>(BB x).trans QI.symm,by kernel_rfl,by rw[QI];decide,by kernel_rfl,vbr (by kernel_rfl),NW,al⟩
theorem Uo:Pg.cellsOf 9=1:=by kernel_rfl
theorem bh:wM Pg 24 9 cS:=⟨underlying24,fun _=>Uo.symm,by kernel_rfl,by rw[Uo];decide,by kernel_rfl,vbr (by kernel_rfl),U4,ie⟩
theorem aZ:wM Pg 26 28 ac:=⟨underlying26,fun x=>(BA x).trans QH.symm,by kernel_rfl,by rw[QH];decide,by kernel_rfl,vbr (by kernel_rfl),NV,ah⟩
theorem VJ:Pg.cellsOf 5=1:=by kernel_rfl
theorem Cb:(Pg.underlying 9).any PV=true:=by kernel_rfl
theorem Vl:B4 Pg 4=some (PVal.bool false):=by kernel_rfl
theorem fY:ja Pg 28=some [.int .i64 0,.str ([]:ag),.int .i64 0,sl ac ([]:List aa)]:=by kernel_rfl
theorem jc:ja Pg 30=some [.int .i64 0,.str ([]:ag),sl af ([]:List ae),sl cS ([]:List ag),.int .i64 0,.str ([]:ag),.int .i64 0,sl ac ([]:List aa),sl ac ([]:List aa)]:=by kernel_rfl
theorem Mg:ja Pg 71=some [sl cS ([]:List ag),sl ac ([]:List aa)]:=by kernel_rfl
def eO:List ag:=[([97,110,100]:ag),([97,115,115,117,109,101]:ag),([98,111,111,108]:ag),([98,111,117,110,100]:ag),([99,97,115,101]:ag),([99,101,108,108]:ag),([99,108,97,115,115]:ag),([100,97,116,97]:ag),([100,101,102]:ag),([100,105,118]:ag),([101,108,115,101]:ag),([101,110,100]:ag),([102,97,108,115,101]:ag),([102,111,114,97,108,108]:ag),([102,117,110]:ag),([103,101,116]:ag),([105,102]:ag),([105,110]:ag),([105,110,115,116]:ag),([105,110,116]:ag),([105,110,118,97,114,105,97,110,116]:ag),([108,101,116]:ag),([109,97,116,99,104]:ag),([109,101,97,115,117,114,101]:ag),([109,101,116,114,105,99]:ag),([109,111,100]:ag),([109,117]:ag),([110,101,119]:ag),([110,111,116]:ag),([111,102]:ag),([111,114]:ag),([113,117,97,108]:ag),([114,101,102,108,101,99,116]:ag),([115,101,116]:ag),([116,104,101,110]:ag),([116,114,117,101]:ag),([117,115,101]:ag),([118]:ag),([118,97,108]:ag),([116,97,103]:ag),([119,104,101,114,101]:ag),([119,105,116,104]:ag)]
theorem TS:Pg.cellsOf 158=42:=by kernel_rfl
theorem pX:cw Pg 158 (eO.map PVal.str)=some (.agg (eO.map PVal.str)):=by kernel_rfl
theorem zZ{k:IntKind}{i:Int}{x:ag}(h:dT eO i=some x):sW Pg 158 (.agg (eO.map PVal.str)) (.int k i)=some (PVal.str x):=Tt underlying158 Uo (by kernel_rfl) (by kernel_rfl) (by kernel_rfl) h
def gm:List Int:=[1,10,100,1000,10000,100000,1000000,10000000,100000000,1000000000,10000000000,100000000000,1000000000000,10000000000000,100000000000000,1000000000000000,10000000000000000,100000000000000000,1000000000000000000,10000000000000000000]
theorem TT:Pg.cellsOf 165=20:=by kernel_rfl
theorem TR:Pg.cellsOf 138=1:=by kernel_rfl
def qU:List Int:=[0,1,28,2,29,14,24,3,30,22,20,15,25,17,4,8,31,27,13,23,21,19,16,7,26,12,18,6,11,5,10,9]
theorem TU:Pg.cellsOf 167=32:=by kernel_rfl
def qV:List Int:=[0,1,56,2,57,49,28,3,61,58,42,50,38,29,17,4,62,47,59,36,45,43,51,22,53,39,33,30,24,18,12,5,63,55,48,27,60,41,37,16,46,35,44,21,52,32,23,11,54,26,40,15,34,20,31,10,25,14,19,9,13,8,7,6]
theorem TV:Pg.cellsOf 168=64:=by kernel_rfl
def GE:List (Nat×List PVal):=[(0,eO.map PVal.str),(1,gm.map (PVal.int .u64)),(2,qU.map (PVal.int .u8)),(3,qV.map (PVal.int .u8))]
theorem bm(A:List Nat){m:Nat}{c:Code}{sc:List It}{F:Prop}{e0:Exit}{st0 st:ax}(h:PS sc F)(he:F=tk Pg GE A m c sc st (FN e0 st0)):aL Pg GE m c (EX e0 st0) st:=dH mixed h he
theorem pZ(A:List Nat){m:Nat}{c:Code}{sc:List It}{F:Prop}{σ X:Type}{S:σ->ax}{ex:X->Exit}{so:X->ax}{s:σ}{st:ax}(h:PS sc F)(he:F=tk Pg GE A m c sc st (FN .normal (S s))):aL Pg GE m c (LQ S ex so (.inl s)) st:=T6 mixed h he
theorem fG(A:List Nat){m:Nat}{c:Code}{sc:List It}{F:Prop}{σ X:Type}{S:σ->ax}{ex:X->Exit}{so:X->ax}{x:X}{st:ax}(hn:ex x≠.normal)(h:PS sc F)(he:F=tk Pg GE A m c sc st (FN (ex x) (so x))):aL Pg GE m c (LQ S ex so (.inr x)) st:=T9 mixed hn h he
theorem bo(A:List Nat){f:FuncId}{fn:Func}{c:Code}{args:List PVal}{r:PVal}{ro:List (Nat×TypeId)}(hcall:∀vs w,(callFunc f vs).run Pg w=.ok (.enter f vs) w)(hfn:Pg.funcs[f]? =some fn)(hb:fn.body=some c)(hcl:i8 0 args){sc:List It}{F:Prop}(h:PS sc F)(he:F=tk Pg GE A 0 c sc ⟨args++List.replicate (fn.ntmps - args.length) .undef,[],[]⟩ (FR Pg fn.results.toList r ro)):CC Pg GE f args r ro:=C.evp mixed hcall hfn hb hcl h he
abbrev waA:=List ag
abbrev waB:=List aa
abbrev waC:=List ae
theorem Fm:∀n,(∀l,Sh Pg n 28 l->∃x,l=ac x):=by
 intro n
 induction n using Nat.strongRecOn with
 | ind n ih =>
  cases n with
  |zero=>exact fun l h=>h.elim
  | succ n =>
   exact fun l h=>by
    unfold Sh at h
    rw[underlying28]at h
    obtain⟨a0,b0,rfl,_,h0,a1,b1,rfl,_,h1,a2,b2,rfl,_,h2,a3,b3,rfl,_,h3,rfl⟩:=h
    obtain⟨x0,rfl⟩:=(Ss underlying25) n _ h0
    obtain⟨x1,rfl⟩:=(QT underlying9) n _ h1
    obtain⟨x2,rfl⟩:=(Ss underlying3) n _ h2
    obtain⟨x3,rfl⟩:=Pe underlying26 (c:=ac) (fun m hm=>(ih m (by omega))) _ h3
    exact⟨(⟨x0,x1,x2,x3⟩:aa),by rw[aQ];rfl⟩
theorem Pf:∀n,(∀l,Sh Pg n 30 l->∃x,l=af x):=by
 intro n
 induction n using Nat.strongRecOn with
 | ind n ih =>
  cases n with
  |zero=>exact fun l h=>h.elim
  | succ n =>
   exact fun l h=>by
    unfold Sh at h
    rw[underlying30]at h
    obtain⟨a0,b0,rfl,_,h0,a1,b1,rfl,_,h1,a2,b2,rfl,_,h2,a3,b3,rfl,_,h3,a4,b4,rfl,_,h4,a5,b5,rfl,_,h5,rfl⟩:=h
    obtain⟨x0,rfl⟩:=(Ss underlying22) n _ h0
    obtain⟨x1,rfl⟩:=(QT underlying9) n _ h1
    obtain⟨x2,rfl⟩:=Pe underlying23 (c:=af) (fun m hm=>(ih m (by omega))) _ h2
    obtain⟨x3,rfl⟩:=(TZ underlying24 (QT underlying9)) n _ h3
    obtain⟨x4,rfl⟩:=Fm n _ h4
    obtain⟨x5,rfl⟩:=(TZ underlying26 Fm) n _ h5
    exact⟨(⟨x0,x1,x2,x3,x4,x5⟩:ae),by rw[aU];(try simp only[aQ]);rfl⟩
abbrev D0(GE:List (Nat×List PVal))(Γ:aS)(w:World):mM:=⟨GE,Γ,w,fun _=>False⟩
structure GB(GE:List (Nat×List PVal))(Γ:aS)(w:World):Prop where
 wi:∀b n,Γ b=some n->∃c t fr,w.heap[b]? =some (.cells c t fr)/\n<=c.size
 gl:∀g cs,(g,cs)∈GE->VR Γ [] w (.eptr cs) (.pointer (some ⟨g,0,none⟩))
 gc:∀g cs,(g,cs)∈GE->i8 0 cs
 gx:∀g cs,(g,cs)∈GE->g<w.heap.size/\∃c t fr,w.heap[g]? =some (.cells c t fr)/\c.size=cs.length
theorem VR.clo{Γ:aS}{bs bs':bv}{w:World}{p:PVal}{v:Value}(h:VR Γ bs w p v)(hc:p.cl 0):VR Γ bs' w p v:=h.restrict (n:=0) hc fun i b hi _=>absurd hi (vaL _)
section
variable{P:Program}{E:mM}{Γ:aS}{bs:bv}{ow:Nat->Option jb}{w:World}{a:Array Value}{st:ax}
theorem SR.base(h:SR P E Γ bs ow w a st):GB E.GE Γ w where
 wi:=h.wi
 gl:=fun g cs hg=>(h.gl g cs hg).clo (by simp only[PVal.cl];exact h.gc g cs hg)
 gc:=h.gc
 gx:=fun g cs hg=>⟨(h.gnow hg).1,(h.gnow hg).2.2.2⟩
theorem GB.good{GE:List (Nat×List PVal)}(hB:GB GE Γ w):zo GE 0 (D0 GE Γ w) where
 ge:=rfl
 low:=fun b n h=>by obtain⟨c,t,fr,h1,_⟩:=hB.wi b n h;exact(var.1 h1).1
 nt:=fun _ _ hb=>hb
 gl:=hB.gl
theorem GB.fresh{GE:List (Nat×List PVal)}(hB:GB GE Γ w)(k:Nat){tmps:List PVal}(hs:a.size=tmps.length)(hv:∀(t:Nat) p v,tmps[t]? =some p->a[t]? =some v->VR Γ [] w p v):SR P (D0 GE Γ w) Γ (List.replicate k none) (fun _=>none) w a ⟨tmps,List.replicate k .dead,[]⟩:=by
 have hno:∀(i b:Nat),(List.replicate k (none:Option Nat))[i]? =some (some b)->False:=fun i b h=>by
  rw[vaO]at h
  split at h<;>simp at h
 exact{
  wi:=hB.wi
  sz:=hs
  tm:=fun t p v hp hv'=>(hv t p v hp hv').mono (.refl _ _) (fun i b h=>by simp at h)
  bl:=by simp
  bx:=fun i b B hb=>(hno i b hb).elim
  inj:=fun i j b hb=>(hno i b hb).elim
  bn:=fun i b hb=>(hno i b hb).elim
  on:=fun b L hL=>by cases hL
  ot:=fun t k e he=>by simp at he
  ob:=fun i j e cs own b _ _ hb=>(hno i b hb).elim
  gl:=fun g cs hg=>(hB.gl g cs hg).mono (.refl _ _) (fun i b h=>by simp at h)
  gc:=hB.gc
  gx:=fun g cs hg=>⟨(hB.gx g cs hg).1,fun h=>h,(hB.gx g cs hg).2⟩
  step:=.refl _ _ _ _}
theorem SR.again(h:SR P E Γ bs ow w a st)(hc:i8 0 st.tmps){GE:List (Nat×List PVal)}{Γ':aS}{w':World}(hB:GB GE Γ' w')(hle:Γ.Le w Γ' w')(k:Nat):SR P (D0 GE Γ' w') Γ' (List.replicate k none) (fun _=>none) w' a ⟨st.tmps,List.replicate k .dead,[]⟩:=
 hB.fresh k h.sz fun t p v hp hv=>((h.tm t p v hp hv).clo (kR hc hp)).mono hle (.refl _)
theorem SR.aside(h:SR P E Γ bs ow w a st){GE:List (Nat×List PVal)}{Γ':aS}{bs':bv}{ow':Nat->Option jb}{w':World}{a':Array Value}{st':ax}(h':SR P (D0 GE Γ w) Γ' bs' ow' w' a' st'):SR P E Γ' bs ow w' a st:=
 h.world (fun _=>False) h'.step.le h'.wi h'.step.os h'.step.tape h'.step.output h'.step.size (fun b hb _=>h'.step.keep b hb id) (fun _ hx=>hx.elim) (fun _ _ _ hx=>hx) (fun _ _ _ hx=>hx)
theorem SR.putOther(h:SR P E Γ bs ow w a st){l:Nat}{o:Obj}(hT:¬bS bs ow l)(hE:E.T l\/E.w.heap.size<=l)(ho:∀c t fr,w.heap[l]? ≠some (.cells c t fr)):SR P E Γ bs ow (w.putObj l o) a st/\Γ.Le w Γ (w.putObj l o):=by
 have hg:∀b n,Γ b=some n->b≠l:=fun b n hb e=>by
  obtain⟨c,t,fr,h1,_⟩:=h.wi b n hb
  exact ho c t fr (e▸h1)
 have hle:Γ.Le w Γ (w.putObj l o):=fun b n hb _=>⟨n,hb,van _,fun k _=>bP (World.putObj_heap_other (hg b n hb)) k⟩
 refine⟨h.world (fun b=>b=l) hle (fun b n hb=>?_) rfl rfl rfl (by simp) (fun b _ hb=>⟨World.putObj_heap_other hb,rfl⟩) (fun b hb=>hb▸hE) (fun i b hb e=>hT (.inl ⟨i,e▸hb⟩)) (fun b L hL e=>hT (.inr (by rw[<-e,hL];simp))),hle⟩
 obtain⟨c,t,fr,h1,h2⟩:=h.wi b n hb
 exact⟨c,t,fr,(World.putObj_heap_other (hg b n hb)).trans h1,h2⟩
theorem SR.rebase(h:SR P E Γ bs ow w a st):SR P ⟨E.GE,Γ,w,bS bs ow⟩ Γ bs ow w a st:=
 { h with
  bn:=fun i b hb=>.inl (.inl ⟨i,hb⟩)
  on:=fun b L hL=>⟨(h.on b L hL).1,.inl (.inr (by rw[hL];simp))⟩
  gx:=fun g cs hg=>by
   obtain⟨k1,k2,k3,k4⟩:=h.gnow hg
   refine⟨k1,fun hT=>?_,k4⟩
   rcases hT with⟨i,hi⟩|hT
   ·exact k2 i g hi rfl
   ·exact hT k3
  step:=.refl _ _ _ _}
theorem SR.touchE(h:SR P E Γ bs ow w a st){b:Nat}(hb:bS bs ow b):E.T b\/E.w.heap.size<=b:=by
 rcases hb with⟨i,hi⟩|hb
 ·exact h.bn i b hi
 ·cases hL:ow b with
  |none=>exact absurd hL hb
  |some L=>exact(h.on b L hL).2
theorem SR.unbase(h:SR P E Γ bs ow w a st){Γ':aS}{bs':bv}{ow':Nat->Option jb}{w':World}{a':Array Value}{st':ax}(h':SR P ⟨E.GE,Γ,w,bS bs ow⟩ Γ' bs' ow' w' a' st'):SR P E Γ' bs' ow' w' a' st':=by
 have hT:∀b,bS bs ow b\/w.heap.size<=b->E.T b\/E.w.heap.size<=b:=fun b hb=>hb.elim h.touchE fun hb=>.inr (vaV h.step.size hb)
 exact{h' with
  bn:=fun i b hb=>hT b (h'.bn i b hb)
  on:=fun b L hL=>⟨(h'.on b L hL).1,hT b (h'.on b L hL).2⟩
  gx:=h.gx
  step:={
   os:=h'.step.os.trans h.step.os
   tape:=h'.step.tape.trans h.step.tape
   output:=h'.step.output.trans h.step.output
   size:=vaV h.step.size h'.step.size
   keep:=fun b hb hTb=>by
    have hlt:b<w.heap.size:=vaF hb h.step.size
    have hn:¬bS bs ow b:=fun hx=>(h.touchE hx).elim hTb fun hx=>absurd hx (vcb.2 hb)
    obtain⟨k1,k2⟩:=h'.step.keep b hlt hn
    obtain⟨q1,q2⟩:=h.step.keep b hb hTb
    exact⟨k1.trans q1,k2.trans q2⟩
   le:=h.step.le.trans h'.step.le}}
theorem aL.on{m:Nat}{c:Code}{Q:Exit->ax->Prop}(hS:aL P E.GE m c Q st)(hm:m≠0)(h:SR P E Γ bs ow w a st)(hl:m % 1000<=bs.length)(ro:Option Nat)(ds:List Deferred):HP ro P c (fun e a' w'=>a'.defers=ds/\∃Γ' bs' ow' st',SR P E Γ' bs' ow' w' a'.tmps st'/\Q e st'/\(∀i:Nat,i<m % 1000->bs'[i]? =bs[i]?)/\Γ.Le w Γ' w'/\w.heap.size<=w'.heap.size/\
   ∀b,b<w.heap.size->¬bS bs ow b->w'.heap[b]? =w.heap[b]?/\¬bS bs' ow' b) ⟨a,ds⟩ w:=by
 have hE:zo E.GE m ⟨E.GE,Γ,w,bS bs ow⟩:={
  ge:=rfl
  low:=fun b n hb=>h.lt_of_ghost hb
  nt:=fun h0=>absurd h0 hm
  gl:=h.base.gl}
 have hlen:(bs.take (m % 1000)).length=m % 1000:=by simp;omega
 refine mC (hS ro ⟨E.GE,Γ,w,bS bs ow⟩ (bs.take (m % 1000)) ⟨a,ds⟩ w hE hlen ⟨Γ,bs,ow,h.rebase,fun i hi=>?_⟩) fun e a' w' hq=>?_
 ·rw[vao (by omega)]
 obtain⟨hd,st',⟨Γ',bs',ow',h',hk⟩,hQ⟩:=hq
 refine⟨hd,Γ',bs',ow',st',h.unbase h',hQ,fun i hi=>?_,h'.step.le,h'.step.size,fun b hb hT=>⟨(h'.step.keep b hb hT).1,fun hx=>?_⟩⟩
 ·rw[hk i (by omega),vao hi]
 ·exact(h'.touchE hx).elim hT fun hx=>absurd hx (vcb.2 hb)
theorem aL.wide{GE:List (Nat×List PVal)}{c:Code}{Q:Exit->ax->Prop}{st0:ax}(hS:aL P GE 0 c Q st0)(hB:GB GE Γ w){ow:Nat->Option jb}{bs:bv}(h:SR P (D0 GE Γ w) Γ bs ow w a st0)(n:Nat)(ds:List Deferred):c.wpIn Fence.wide n P (fun e a' w'=>a'.defers=ds/\∃Γ' bs' ow' st',SR P (D0 GE Γ w) Γ' bs' ow' w' a'.tmps st'/\Q e st') ⟨a,ds⟩ w:=
 wpIn_wide.2 (wp_mono (hS none (D0 GE Γ w) [] ⟨a,ds⟩ w hB.good rfl ⟨Γ,bs,ow,h,fun i hi=>absurd hi (vaL _)⟩) fun e a' w' hq=>by
  obtain⟨hd,st',⟨Γ',bs',ow',h',_⟩,hQ⟩:=hq
  exact⟨hd,Γ',bs',ow',st',h',hQ⟩)
theorem aL.wideE{GE:List (Nat×List PVal)}{c:Code}{Q:Exit->ax->Prop}(hS:aL P GE 0 c Q st)(hE:zo GE 0 E)(h:SR P E Γ bs ow w a st)(n:Nat)(ds:List Deferred):c.wpIn Fence.wide n P (fun e a' w'=>a'.defers=ds/\∃Γ' bs' ow' st',SR P E Γ' bs' ow' w' a'.tmps st'/\Q e st') ⟨a,ds⟩ w:=
 wpIn_wide.2 (wp_mono (hS none E [] ⟨a,ds⟩ w hE rfl ⟨Γ,bs,ow,h,fun i hi=>absurd hi (vaL _)⟩) fun e a' w' hq=>by
  obtain⟨hd,st',⟨Γ',bs',ow',h',_⟩,hQ⟩:=hq
  exact⟨hd,Γ',bs',ow',st',h',hQ⟩)
theorem SR.allocO(h:SR P E Γ bs ow w a st)(o:Obj):SR P E Γ bs ow (w.alloc o) a st/\Γ.Le w Γ (w.alloc o):=by
 have hlt:∀b n,Γ b=some n->b<w.heap.size:=fun b n hb=>h.lt_of_ghost hb
 have hle:Γ.Le w Γ (w.alloc o):=fun b n hb _=>⟨n,hb,van _,fun k _=>bP (cP w o (hlt b n hb)) k⟩
 refine⟨h.world (fun _=>False) hle (fun b n hb=>?_) rfl rfl rfl (by simp[World.size_alloc]) (fun b hb _=>⟨cP w o hb,rfl⟩) (fun _ hx=>hx.elim) (fun _ _ _ hx=>hx) (fun _ _ _ hx=>hx),hle⟩
 obtain⟨c,t,fr,h1,h2⟩:=h.wi b n hb
 exact⟨c,t,fr,(cP w o (hlt b n hb)).trans h1,h2⟩
theorem SR.forgetT(h:SR P E Γ bs ow w a st){tm:List PVal}(hf:Dt st.tmps tm=tm):SR P E Γ bs ow w a {st with tmps:=tm}:=
 { h with
  sz:=by rw[h.sz,<-I9 (l:=st.tmps) (bs:=tm),hf]
  tm:=fun t p v hp hv=>by
   rw[<-hf]at hp
   rcases I8 hp with rfl|hp'
   ·exact .undef v
   ·exact h.tm t p v hp' hv}
theorem SR.back(h:SR P E Γ bs ow w a st)(ho:st.own=[]){Γ':aS}{bs':bv}{ow':Nat->Option jb}{w':World}{a':Array Value}{st':ax}{H':List aC}(h':SR P E Γ' bs' ow' w' a' st')(hle:Γ.Le w Γ' w')
  (hbs:∀i:Nat,i<bs.length->bs'[i]? =bs[i]?) (hH:dY H'.length st'.boxes H') (hl:H'.length=bs.length):
  ∃ow'',SR P E Γ' bs ow'' w' a {st with boxes:=H'}/\∀b,bS bs ow'' b->bS bs' ow' b:=by
 have hf:=h'.finish (H':=H') (v:=undef) (r:=.undef) (src:=fun k=>(0,k)) (ro:=[]) (.undef _) trivial hH (fun x hx=>by simp at hx) (fun x hx=>by simp at hx)
 have hb:bs'.take H'.length=bs:=by
  obtain⟨h1,_⟩:=mi hH
  have h2:H'.length<=bs'.length:=by rw[h'.bl];exact h1
  refine vbf fun i=>?_
  by_cases hi:i<H'.length
  ·rw[vao hi];exact hbs i (by omega)
  ·rw[List.getElem?_take_eq_none (by omega),vaz (by omega)]
 rw[hb]at hf
 refine⟨_,{hf with
  sz:=h.sz
  tm:=fun t p v hp hv=>(h.tm t p v hp hv).mono hle (.refl _)
  ot:=fun t k e he=>by simp only[ho]at he;simp at he},fun b hb=>?_⟩
 rcases hb with⟨i,hi⟩|hb
 ·exact .inl ⟨i,(hbs i (aj hi)).trans hi⟩
 ·refine .inr fun e=>hb ?_
  simp[zK,e]
end
section
variable{P:Program}{n:Nat}{a:Act}{w:World}{jS:Act->World->Prop}{Q:Exit->Act->World->Prop}
theorem NX{o:Oper}(hd:d4 o=true)(h:o.wp P a w jS Q):o.wpIn Fence.wide n P a w jS Q:=by
 refine⟨fun _ _=>trivial,?_⟩
 have hs:o.semAt (Fence.wide).round a.eval=execOp a.eval o:=Oper.semAt_eq _ _ _ fun c hc=>by unfold d4 at hd;rw[hc]at hd;cases hd
 rw[hs]
 unfold Oper.wp at h
 generalize (execOp a.eval o).run P w=r at *
 have hdep:(Fence.wide).depth.isSome=true->1<=n:=fun h=>by simp[Fence.wide]at h
 cases r with
 | ok x w' =>
  cases x<;>simp only[Oper.upon]at h<;>simp only[Oper.uponIn]<;>first
   |exact h.elim
   |exact h
   |exact⟨hdep,callsIn_wide.2 h⟩
   | exact ⟨hdep,fun c cs _ => by
     obtain⟨v,w',r,s⟩:=h c cs
     exact⟨v,w',r,stepsIn_wide.2 s⟩⟩
 |halt x w'=>cases x<;>simp only[Oper.upon]at h<;>simp only[Oper.uponIn]<;>exact h
theorem Nr{o:Oper}{f:Operand}{args:Array Operand}{tys:Array TypeId}(ho:o.op=.call {callee:=.value f,args:=args,argTypes:=tys}){g:FuncId}{fs cs:Array Value}(hf:a.eval f=.func (.func g) fs cs)
  (hc:∀vs w,(callFunc g vs).run P w=.ok (.enter g vs) w) {R:Ending->World->Prop} (h:CallsIn Fence.wide (n - 1) P g (fs++args.map a.eval++cs) w R) (hR:∀e w',R e w'->∃v,e=.returned v/\jS (a.put o.dst v) w'):o.wpIn Fence.wide n P a w jS Q:=by
 refine⟨fun _ _=>trivial,?_⟩
 have hs:o.semAt (Fence.wide).round a.eval=execOp a.eval o:=Oper.semAt_eq _ _ _ fun c hc=>by rw[ho]at hc;cases hc
 have hrun:(execOp a.eval o).run P w=.ok (.enter g (fs++args.map a.eval++cs)) w:=by
  simp[execOp,ho,resolve,hf,Deferred.ofValue,invoke,hc]
 rw[hs,hrun,Oper.uponIn_enter]
 refine⟨fun h=>by simp[Fence.wide]at h,h.mono fun e w' hr=>?_⟩
 obtain⟨v,rfl,hx⟩:=hR e w' hr
 exact hx
theorem Mp{o:Oper}{f:Operand}{args:Array Operand}{tys:Array TypeId}(ho:o.op=.call {callee:=.value f,args:=args,argTypes:=tys}){l:Nat}(hf:a.eval f=.func (.yield l) #[] #[])
  {R:Ending->World->Prop} (h:YieldAt Fence.wide (n - 1) P l (args.map a.eval) w R) (hR:∀e w',R e w'->∃v,e=.returned v/\jS (a.put o.dst v) w'):o.wpIn Fence.wide n P a w jS Q:=by
 refine⟨fun _ _=>trivial,?_⟩
 have hs:o.semAt (Fence.wide).round a.eval=execOp a.eval o:=Oper.semAt_eq _ _ _ fun c hc=>by rw[ho]at hc;cases hc
 obtain⟨fn,tmps,assign,body,hy,hr⟩:=h
 have hrun:(execOp a.eval o).run P w=.ok (.round l fn tmps assign body) w:=by
  simp[execOp,ho,resolve,hf,Deferred.ofValue,invoke,hy]
 rw[hs,hrun,Oper.uponIn_round]
 refine⟨fun h=>by simp[Fence.wide]at h,hr.mono fun e w' hr=>?_⟩
 obtain⟨v,rfl,hx⟩:=hR e w' hr
 exact hx
theorem yS{ops:Array Oper}{i:Nat}{rest:List Nat}{o:Oper}(ho:ops[i]? =some o)(hg:o.guard=none)(h:o.wpIn Fence.wide n P a w (wpOpsIn Fence.wide n P ops Q rest) Q):wpOpsIn Fence.wide n P ops Q (i::rest) a w:=by
 unfold wpOpsIn
 simp only[ho,Region.wanted,hg,if_true]
 exact h
theorem wA{E:mM}{A:List Nat}{ops:Array Oper}{K:ax->Prop}{rest:List Nat}{ds:List Deferred}
  (hK:∀Γ bs ow a w st,SR P E Γ bs ow w a st->K st->wpOpsIn Fence.wide n P ops Q rest ⟨a,ds⟩ w):
  ∀(L:List Oper) (is:List Nat) (Γ:aS) (bs:bv) (ow:Nat->Option jb) (a:Array Value) (w:World) (st:ax),is.map (fun i=>ops[i]?)=L.map some->
   (∀o∈L,o.guard=none/\d4 o=true/\az o.op=false)->SR P E Γ bs ow w a st->cz P E.GE A ops K L 0 st->wpOpsIn Fence.wide n P ops Q (is++rest) ⟨a,ds⟩ w
 |[],[],Γ,bs,ow,a,w,st,_,_,h,hp=>hK Γ bs ow a w st h hp
 |o::L,i::is,Γ,bs,ow,a,w,st,hi,hg,h,hp=>by
  obtain⟨g1,g2,g3⟩:=hg o (by simp)
  unfold cz at hp
  simp only[g1]at hp
  simp only[vaB,vbs]at hi
  refine yS hi.1 g1 (NX g2 (Oper.wp_mono (fun a' w' hA=>?_) (AE (a:=⟨a,ds⟩) h (fun hm=>by rw[g3]at hm;cases hm) hp Q)))
  obtain⟨hd,Γ',bs',ow',st',h1,h2,_⟩:=hA
  obtain⟨a1,ds1⟩:=a'
  simp only at hd h1
  subst hd
  refine wA (A:=A) hK L is Γ' bs' ow' a1 w' st' hi.2 (fun o ho=>hg o (vaY _ ho)) h1 ?_
  rw[g3]at h2
  exact h2
end
def jT:Code->Array Oper
 |.region _ ops _=>ops
 |_=>#[]
def Up:Code->Nat
 |.region id _ _=>id
 |_=>0
def MT(c:Code)(i:Nat):Oper:=(jT c)[i]?.getD default
def SM(o:Oper):Array TypeId:=match o.op with
 |.call c=>c.argTypes
 |_=>#[]
def FP(o:Oper):Bool:=o.guard.isNone&&d4 o&&!az o.op
theorem BU{L:List Oper}(h:L.all FP=true):∀o∈L,o.guard=none/\d4 o=true/\az o.op=false:=fun o ho=>by
 have:=vay.1 h o ho
 simpa[FP,and_assoc]using this
theorem mn{P:Program}{GE:List (Nat×List PVal)}{A:List Nat}{ops:Array Oper}{K K':ax->Prop}(hK:∀st,K st->K' st):∀(L:List Oper) (id:Nat) (st:ax),cz P GE A ops K L id st->cz P GE A ops K' L id st
 |[],_,st,h=>hK st h
 | o :: L,id,st,h => by
  unfold cz at h ⊢
  split at h
  ·exact vM (fun st hx=>mn hK L _ st hx) h
  ·split at h
   ·exact⟨fun hx=>vM (fun st hx=>mn hK L _ st hx) (h.1 hx),fun hx=>mn hK L _ _ (h.2 hx)⟩
   ·exact h
theorem VO{P:Program}{m:Nat}{sc:List It}{F:Prop}{st st0:ax}(h:PS sc F)(he:F=Ok m sc st (fun _ st'=>FG st' st0)):nz P m st st0:=by
 obtain⟨_,st',hw,hf⟩:=Jb (P:=P) (Eq.mp he h)
 exact hw.trans hf.weak
theorem aL.thenW{P:Program}{GE:List (Nat×List PVal)}{m:Nat}{c:Code}{e:Exit}{st0 st1 st2:ax}(h:aL P GE m c (EX e st1) st0)(hw:nz P m st1 st2):aL P GE m c (EX e st2) st0:=
 h.mono fun e' st' hx=>⟨st2,hx.2▸hw,hx.1,rfl⟩
theorem Ag{P:Program}{GE:List (Nat×List PVal)}{A:List Nat}{ops:Array Oper}{L:List Oper}{st st0:ax}{sc:List It}{F:Prop}(h:PS sc F)(he:F=Fa P GE A ops (fun _ st=>FG st st0) L 0 0 sc st):cz P GE A ops (fun st=>FG st st0) L 0 st:=
 mn (fun st ⟨_,hx⟩=>hx) L 0 st (sJ L 0 0 sc st (Eq.mp he h))
theorem FG.sr{P:Program}{E:mM}{Γ:aS}{bs:bv}{ow:Nat->Option jb}{w:World}{a:Array Value}{st st0:ax}(h:SR P E Γ bs ow w a st)(hf:FG st st0):∃Γ' bs' ow',SR P E Γ' bs' ow' w a st0:=by
 obtain⟨Γ',bs',ow',h',_⟩:=(hf.weak (P:=P) (m:=0)) E [] ⟨a,[]⟩ w rfl ⟨Γ,bs,ow,h,fun i hi=>absurd hi (vaL _)⟩
 exact⟨Γ',bs',ow',h'⟩
structure Yd(P:Program)(GE:List (Nat×List PVal))(l:Nat){S α:Type}(c:α->List PVal)(step:S->α->Option (Bool×S))(J:Bool->S->aS->World->Prop):Prop where
 base:∀b s Γ w,J b s Γ w->GB GE Γ w
 side:∀b s Γ w,J b s Γ w->∀Γ' bs' ow' w' a' st',SR P (D0 GE Γ w) Γ' bs' ow' w' a' st'->J b s Γ' w'
 yield:∀s Γ w x v n r,J true s Γ w->VR Γ [] w (.agg (c x)) v->step s x=some r->YieldAt Fence.wide n P l #[v] w fun e w'=>∃Γ',e=.returned (.bool r.1)/\Γ.Le w Γ' w'/\J r.1 r.2 Γ' w'
section
variable{S:Type}(step:S->aa->Option (Bool×S))
mutual
def Hy:aa->S->Option (Bool×S)
 |⟨o,n,k,ks⟩,s=>(step s ⟨o,n,k,ks⟩).bind fun r=>match r.1 with
  |false=>some (false,r.2)
  |true=>if ks.length<4611686018427387904 then JD ks r.2 else none
def JD:List aa->S->Option (Bool×S)
 |[],s=>some (true,s)
 |p::ps,s=>(Hy p s).bind fun r=>match r.1 with
  |false=>some (false,r.2)
  |true=>JD ps r.2
end
theorem Ro(p:aa)(s:S):Hy step p s=(step s p).bind fun r=>match r.1 with
  |false=>some (false,r.2)
  |true=>if p.Kids.length<4611686018427387904 then JD step p.Kids r.2 else none:=by
 obtain⟨o,n,k,ks⟩:=p
 rw[Hy];rfl
end
abbrev fV:Nat:=130
noncomputable def bV:Code:=f130.body.getD .skip
abbrev Vf:Code:=cX bV [false]
abbrev Rm:Code:=cX bV [true,false,false]
abbrev VY:Code:=cX bV [true,false,true,false,false]
abbrev VZ:Code:=cX bV [true,true,false,false]
abbrev vL:Code:=cX bV [true,true,false,true,false,false]
abbrev V0:Code:=cX bV [true,true,false,true,false,false,false]
abbrev Vg:Code:=cX bV [true,true,false,true,false,false,true,true,false,false,false]
abbrev Rn:Code:=cX bV [true,true,false,true,false,false,true,true,false,false,true,false]
abbrev V1:Code:=cX bV [true,true,false,true,false,false,true,true,false,false,true,true,false,false]
abbrev V2:Code:=cX bV [true,true,false,true,false,false,true,true,true]
abbrev V3:Code:=cX bV [true,true,true,false]
theorem TJ:bV=.seq Vf (.seq (.seq Rm (.cond (.tmp 10) (.seq VY .ret) .skip)) (.seq (.seq VZ (.block 0 (.loop vL))) (.seq V3 .ret))):=by kernel_rfl
theorem Ub:vL=.seq V0 (.seq (.cond (.tmp 15) .skip (.exit 0)) (.seq (.block 1 (.seq Vg (.seq Rn (.cond (.tmp 21) (.seq V1 .ret) .skip)))) V2)):=by kernel_rfl
abbrev yv(l:Nat):PVal:=.val (.func (.yield l) #[] #[])
abbrev JI(p:aa):List PVal:=[.int .i64 p.Op,.str p.Name,.int .i64 p.N,sl ac p.Kids]
theorem VI(p:aa):i8 0 (JI p):=by have:=ah p;rwa[aQ]at this
abbrev Vh(p:aa)(l:Nat):ax:=aP 23 [(1,yv l),(2,.eptr (ac p))] [.dead] []
abbrev RH(l:Nat)(ks:List aa)(i:Int):ax:=aP 23 [(1,yv l),(12,sl ac ks),(13,.int .i64 (ks.length:Int)),(14,.int .i64 i)] [.dead] []
abbrev Vi(l:Nat)(ks:List aa)(i:Int)(x:aa):ax:=aP 23 [(1,yv l),(6,.eptr (ac x)),(12,sl ac ks),(13,.int .i64 (ks.length:Int)),(14,.int .i64 i)] [.dead,.dead] []
theorem WR(p:aa)(l:Nat):aL Pg GE 0 Vf (EX .normal (Vh p l)) (aP 23 [(0,.agg (ac p)),(1,yv l)] [] []):=by
 have z:=sx (cb p)<|eF .normal (aP 23 [(1,yv l),(2,.bptr 0 0)] [.cells (JI p) []] [])
 have h1:aL Pg GE 0 Vf (EX .normal (aP 23 [(1,yv l),(2,.bptr 0 0)] [.cells (JI p) []] [])) (aP 23 [(0,.agg (ac p)),(1,yv l)] [] []):=dH (A:=[]) mixed z (by kernel_rfl)
 have z2:=Va 0 [JI p] [1,2] [] (VL (m:=0) (b:=0) rfl (JI p) rfl) (VM 0 (VI p)) (VN (l:=JI p) (r:=JI p) rfl)<|en (fr (aP 23 [(1,yv l),(2,.eptr (JI p))] [.dead] []))
 have h2:=h1.thenW (st2:=aP 23 [(1,yv l),(2,.eptr (JI p))] [.dead] []) (VO z2 (by kernel_rfl))
 unfold Vh
 rw[aQ]
 rw[aQ]at h2
 exact h2
theorem WS(p:aa)(l:Nat):cz Pg GE [] (jT Rm) (fun st=>FG st (aP 23 [(1,yv l),(2,.eptr (ac p)),(7,yv l),(8,.agg (ac p))] [.dead] [])) ((jT Rm).toList.take 2) 0 (Vh p l):=by
 have z:=sv (aM p)<|en (fr (aP 23 [(1,yv l),(2,.eptr (ac p)),(7,yv l),(8,.agg (ac p))] [.dead] []))
 exact Ag z (by kernel_rfl)
theorem Vj(p:aa)(l:Nat)(b:Bool):cz Pg GE [] (jT Rm) (fun st=>FG st (aP 23 [(1,yv l),(2,.eptr (ac p)),(10,.bool (!b))] [.dead] [])) ((jT Rm).toList.drop 3) 0 (aP 23 [(1,yv l),(2,.eptr (ac p)),(7,yv l),(8,.agg (ac p)),(9,.bool b)] [.dead] []):=by
 have z:=en (fr (aP 23 [(1,yv l),(2,.eptr (ac p)),(10,.bool (!b))] [.dead] []))
 exact Ag z (by kernel_rfl)
abbrev vE(H:List aC)(b:Bool):ax:=aP 23 [(4,.bool b)] H []
theorem WT(p:aa)(l:Nat):aL Pg GE 0 (.seq VY .ret) (EX .ret (vE [.dead] false)) (aP 23 [(1,yv l),(2,.eptr (ac p)),(10,.bool true)] [.dead] []):=by
 have z:=eF .ret (vE [.dead] false)
 exact dH (A:=[]) mixed z (by kernel_rfl)
theorem WU(p:aa)(l:Nat):aL Pg GE 0 VZ (EX .normal (RH l p.Kids 0)) (aP 23 [(1,yv l),(2,.eptr (ac p)),(10,.bool false)] [.dead] []):=by
 have z:=sv (aG p)<|sv (aH p)<|cf (aZ.ln p.Kids)<|eF .normal (RH l p.Kids 0)
 exact dH (A:=[]) mixed z (by kernel_rfl)
abbrev S4(l:Nat)(ks:List aa)(i:Int):ax:=aP 23 [(1,yv l),(12,sl ac ks),(13,.int .i64 (ks.length:Int)),(14,.int .i64 i),(15,.bool (decide (i<(ks.length:Int))))] [.dead] []
theorem WV(l:Nat)(ks:List aa)(i:Int):aL Pg GE 0 V0 (EX .normal (S4 l ks i)) (RH l ks i):=by
 have z:=eF .normal (S4 l ks i)
 exact dH (A:=[]) mixed z (by kernel_rfl)
theorem WW(l:Nat)(ks:List aa)(i:Int)(x:aa)(hx:dT ks i=some x):aL Pg GE 0 Vg (EX .normal (Vi l ks i x)) (S4 l ks i):=by
 have z:=sv (aZ.ia (k:=.i64) hx)<|sv (aM x)<|sx fY<|sx (cb x)<|eF .normal (aP 23 [(1,yv l),(6,.bptr 1 0),(12,sl ac ks),(13,.int .i64 (ks.length:Int)),(14,.int .i64 i)] [.dead,.cells (JI x) []] [])
 have h1:aL Pg GE 0 Vg (EX .normal (aP 23 [(1,yv l),(6,.bptr 1 0),(12,sl ac ks),(13,.int .i64 (ks.length:Int)),(14,.int .i64 i)] [.dead,.cells (JI x) []] [])) (S4 l ks i):=dH (A:=[]) mixed z (by kernel_rfl)
 have z2:=Va 1 [JI x] [1,6,12,13,14] [] (VL (m:=0) (b:=1) rfl (JI x) rfl) (VM 1 (VI x)) (VN (l:=JI x) (r:=JI x) rfl)<|sf (Ol 1 (p:=sl ac ks) (aw ah ks))<|en (fr (aP 23 [(1,yv l),(6,.eptr (JI x)),(12,sl ac ks),(13,.int .i64 (ks.length:Int)),(14,.int .i64 i)] [.dead,.dead] []))
 have h2:=h1.thenW (st2:=aP 23 [(1,yv l),(6,.eptr (JI x)),(12,sl ac ks),(13,.int .i64 (ks.length:Int)),(14,.int .i64 i)] [.dead,.dead] []) (VO z2 (by kernel_rfl))
 unfold Vi
 rw[aQ]
 exact h2
theorem WX(l:Nat)(ks:List aa)(i:Int)(x:aa):cz Pg GE [] (jT Rn) (fun st=>FG st (aP 23 [(1,yv l),(12,sl ac ks),(13,.int .i64 (ks.length:Int)),(14,.int .i64 i),(18,.agg (ac x)),(19,yv l)] [.dead,.dead] [])) ((jT Rn).toList.take 2) 0 (Vi l ks i x):=by
 have z:=sv (aM x)<|en (fr (aP 23 [(1,yv l),(12,sl ac ks),(13,.int .i64 (ks.length:Int)),(14,.int .i64 i),(18,.agg (ac x)),(19,yv l)] [.dead,.dead] []))
 exact Ag z (by kernel_rfl)
abbrev V4(l:Nat)(ks:List aa)(i:Int)(x:aa)(b:Bool):ax:=aP 23 [(1,yv l),(12,sl ac ks),(13,.int .i64 (ks.length:Int)),(14,.int .i64 i),(18,.agg (ac x)),(19,yv l),(20,.bool b)] [.dead,.dead] []
abbrev Ue(l:Nat)(ks:List aa)(i:Int)(b:Bool):ax:=aP 23 [(1,yv l),(12,sl ac ks),(13,.int .i64 (ks.length:Int)),(14,.int .i64 i),(21,.bool (!b))] [.dead,.dead] []
theorem Vk(l:Nat)(ks:List aa)(i:Int)(x:aa)(b:Bool):cz Pg GE [] (jT Rn) (fun st=>FG st (Ue l ks i b)) ((jT Rn).toList.drop 3) 0 (V4 l ks i x b):=by
 have z:=en (fr (Ue l ks i b))
 exact Ag z (by kernel_rfl)
theorem WY(l:Nat)(ks:List aa)(i:Int):aL Pg GE 0 (.seq V1 .ret) (EX .ret (vE [.dead,.dead] false)) (Ue l ks i false):=by
 have z:=eF .ret (vE [.dead,.dead] false)
 exact dH (A:=[]) mixed z (by kernel_rfl)
theorem WZ(l:Nat)(ks:List aa)(i:Int):aL Pg GE 0 V2 (EX .normal (⟨(RH l ks (bL (i+1))).tmps,[.dead,.dead],[]⟩)) (Ue l ks i true):=by
 have z:=eF .normal (⟨(RH l ks (bL (i+1))).tmps,[.dead,.dead],[]⟩)
 exact dH (A:=[]) mixed z (by kernel_rfl)
theorem W0(l:Nat)(ks:List aa)(i:Int):aL Pg GE 0 (.seq V3 .ret) (EX .ret (vE [.dead] true)) (S4 l ks i):=by
 have z:=eF .ret (vE [.dead] true)
 exact dH (A:=[]) mixed z (by kernel_rfl)
theorem kn{n:Int}(h1: -9223372036854775808<=n)(h2:n<9223372036854775808):bL n=n:=SS h1 h2
theorem cB{α:Type}(l:List α)(i:Nat)(h:i<l.length):dT l (i:Int)=some l[i]:=by
 unfold dT
 rw[vap (by omega)]
 simp[h]
theorem Pd(l:ag)(i:Nat)(h:i<l.length):gk l (i:Int)=some ((l[i].toNat:Int)):=by
 unfold gk;rw[cB l i h];rfl
theorem Fl{α:Type}(c:α)(l:List α):dT (c::l) 0=some c:=by
 have:=cB (c::l) 0 (by simp)
 simpa using this
theorem PX{α:Type}(l:List α)(i:Nat)(h:i<=l.length):GA l none (some (i:Int))=some (l.take i):=by
 simp[GA,bd,h]
theorem Gp{α:Type}(l:List α)(i:Nat)(h:i<=l.length):GA l (some (i:Int)) none=some (l.drop i):=by
 simp[GA,bd,h]
theorem ec{α:Type}{l r:List α}(h:l.length+r.length<=1073741824):app l r=some (l++r):=vap h
theorem E5{l r:ag}(h:l.length+r.length<=4611686018427387904):So l r=some (l++r):=vap h
theorem nX{σ X:Type}{body:σ->Option (σ⊕X)}{s s':σ}(h:body s=some (.inl s')):loop body s=loop body s':=by rw[sQ,h]
theorem lJ{σ X:Type}{body:σ->Option (σ⊕X)}{s:σ}{x:X}(h:body s=some (.inr x)):loop body s=some x:=by rw[sQ,h]
def lm{α σ X:Type}(f:Nat->α->σ->σ⊕X)(e:σ->X):List α->Nat->σ->X
 |[],_,s=>e s
 |x::r,i,s=>match f i x s with
  |.inl s'=>lm f e r (i+1) s'
  |.inr y=>y
theorem jQ{α σ τ X:Type}(l:List α)(hl:l.length<9223372036854775808)(mk:Int->σ->τ)(body:τ->Option (τ⊕X))(I:Nat->σ->Prop)(f:Nat->α->σ->σ⊕X)(e:σ->X)
  (hin:∀(i:Nat) (h:i<l.length) s,I i s->body (mk i s)=some (match f i l[i] s with|.inl s'=>.inl (mk (bL ((i:Int)+1)) s')|.inr y=>.inr y)/\∀s',f i l[i] s=.inl s'->I (i+1) s')
  (hend:∀s,I l.length s->body (mk l.length s)=some (.inr (e s))):∀(i:Nat) (s:σ),i<=l.length->I i s->loop body (mk i s)=some (lm f e (l.drop i) i s):=by
 intro i s hi hI
 obtain⟨k,hk⟩:∃k,k+i=l.length:=⟨l.length - i,by omega⟩
 induction k generalizing i s with
 |zero=>
  have:i=l.length:=by omega
  subst this
  rw[sQ,hend s hI,List.drop_length]
  rfl
 | succ k ih =>
  have hlt:i<l.length:=by omega
  obtain⟨h1,h2⟩:=hin i hlt s hI
  rw[sQ,h1,vbx hlt]
  unfold lm
  cases hf:f i l[i] s with
  |inl s'=>
   simp only
   rw[kn (by omega) (by omega)]
   have:=ih (i+1) s' (by omega) (h2 s' hf) (by omega)
   rw[show((i:Int)+1)=((i+1:Nat):Int) by omega]
   exact this
  |inr y=>rfl
theorem KX{α X:Type}(p:α->Bool)(y e:X):∀(l:List α) (i:Nat),lm (fun _ x (_:Unit)=>if p x=true then Sum.inr y else .inl ()) (fun _=>e) l i ()=if l.any p=true then y else e
 |[],i=>by simp[lm]
 | x :: l,i => by
  have ih:=KX p y e l (i+1)
  unfold lm
  by_cases h:p x=true
  ·simp[h]
  ·simp only[h,if_false,ih,List.any_cons,Bool.false_or,va4]
theorem KA{α X:Type}(l:List α)(hl:l.length<9223372036854775808)(body:Int->Option (Int⊕X))(p:α->Bool)(y e:X)
  (hin:∀(i:Nat) (h:i<l.length),body i=some (if p l[i]=true then .inr y else .inl (bL ((i:Int)+1)))) (hend:body l.length=some (.inr e)) (i:Nat) (hi:i<=l.length):
  loop body (i:Int)=some (if(l.drop i).any p=true then y else e):=by
 have:=jQ l hl (fun i (_:Unit)=>i) body (fun _ _=>True) (fun _ x _=>if p x=true then Sum.inr y else .inl ()) (fun _=>e) (fun i h s _=>⟨?_,fun _ _=>trivial⟩) (fun s _=>hend) i () hi trivial
 ·rw[this,KX]
 ·rw[hin i h]
  by_cases hp:p l[i]=true<;>simp[hp]
theorem Ie{α X:Type}(p:α->Bool)(y:Nat->X)(e:X):∀(l:List α) (i:Nat),lm (fun j x (_:Unit)=>if p x=true then Sum.inr (y j)else .inl ()) (fun _=>e) l i ()=match l.findIdx? p with|some j=>y (i+j)|none=>e
 |[],i=>by simp[lm]
 | x :: l,i => by
  have ih:=Ie p y e l (i+1)
  unfold lm
  rw[vcF]
  by_cases h:p x=true
  ·simp[h]
  ·simp only[h,if_false,ih,va4]
   cases l.findIdx? p with
   |none=>rfl
   |some j=>simp only[vad];congr 1;omega
theorem HX{α X:Type}(l:List α)(hl:l.length<9223372036854775808)(body:Int->Option (Int⊕X))(p:α->Bool)(y:Nat->X)(e:X)
  (hin:∀(i:Nat) (h:i<l.length),body i=some (if p l[i]=true then .inr (y i)else .inl (bL ((i:Int)+1)))) (hend:body l.length=some (.inr e)):
  loop body (0:Int)=some (match l.findIdx? p with|some j=>y j|none=>e):=by
 have:=jQ l hl (fun i (_:Unit)=>i) body (fun _ _=>True) (fun j x _=>if p x=true then Sum.inr (y j)else .inl ()) (fun _=>e) (fun i h s _=>⟨?_,fun _ _=>trivial⟩) (fun s _=>hend) 0 () (vaI _) trivial
 ·simp only[Int.ofNat_zero,vbk]at this
  have this2:=Ie p y e l 0
  simp only[vaE]at this2
  rw[<-this2]
  exact this
 ·rw[hin i h]
  by_cases hp:p l[i]=true<;>simp[hp]
def VF{S:Type}(J:Bool->S->aS->World->Prop)(Γ0:aS)(w0:World)(b:Bool)(s:S)(st:ax)(a:Array Value)(w:World):Prop:=∃Γ,J b s Γ w/\Γ0.Le w0 Γ w/\∃E bs ow,SR Pg E Γ bs ow w a st
structure Dd(st:ax)(k:Nat):Prop where
 c:i8 0 st.tmps
 b:st.boxes=List.replicate k .dead
 o:st.own=[]
structure R4(c:Code):Prop where
 eq:c=.region (Up c) (jT c) false
 rg:List.range (jT c).size=[0,1]++2::([3]++[])
 p1:[0,1].map (fun i=>(jT c)[i]?)=((jT c).toList.take 2).map some
 p2:((jT c).toList.take 2).all FP=true
 o:(jT c)[2]? =some (MT c 2)
 g:(MT c 2).guard=none
 q1:[3].map (fun i=>(jT c)[i]?)=((jT c).toList.drop 3).map some
 q2:((jT c).toList.drop 3).all FP=true
theorem U7:R4 Rm:=⟨by kernel_rfl,by kernel_rfl,by kernel_rfl,by kernel_rfl,by kernel_rfl,by kernel_rfl,by kernel_rfl,by kernel_rfl⟩
theorem U8:R4 Rn:=⟨by kernel_rfl,by kernel_rfl,by kernel_rfl,by kernel_rfl,by kernel_rfl,by kernel_rfl,by kernel_rfl,by kernel_rfl⟩
theorem SO:(MT Rm 2).op=.call {callee:=.value (.tmp 7),args:=#[.tmp 8],argTypes:=SM (MT Rm 2)}:=by kernel_rfl
theorem Uc:(MT Rm 2).dst=some 9:=by kernel_rfl
theorem SP:(MT Rn 2).op=.call {callee:=.value (.func fV),args:=#[.tmp 18,.tmp 19],argTypes:=SM (MT Rn 2)}:=by kernel_rfl
theorem Ud:(MT Rn 2).dst=some 20:=by kernel_rfl
section
variable{S:Type}{step:S->aa->Option (Bool×S)}{J:Bool->S->aS->World->Prop}{l:Nat}{Γ0:aS}{w0:World}{b:Bool}{s:S}{st0 st1 stA stB:ax}{k kA kB:Nat}{a:Array Value}{w:World}{n:Nat}{ds:List Deferred}
theorem VF.again(hY:Yd Pg GE l ac step J)(hD:Dd st0 k)(h:VF J Γ0 w0 b s st0 a w):∃Γ,J b s Γ w/\Γ0.Le w0 Γ w/\SR Pg (D0 GE Γ w) Γ (List.replicate k none) (fun _=>none) w a st0:=by
 obtain⟨Γ,hJ,hle,E,bs,ow,hS⟩:=h
 obtain⟨tm,H,own⟩:=st0
 have hb:H=_:=hD.b
 have ho:own=[]:=hD.o
 subst hb;subst ho
 exact⟨Γ,hJ,hle,hS.again hD.c (hY.base _ _ _ _ hJ) (.refl _ _) k⟩
theorem VF.redo(hY:Yd Pg GE l ac step J)(hD:Dd st0 k)(h:VF J Γ0 w0 b s st0 a w)(k':Nat):VF J Γ0 w0 b s ⟨st0.tmps,List.replicate k' .dead,[]⟩ a w:=by
 obtain⟨Γ,hJ,hle,hS⟩:=h.again hY hD
 exact⟨Γ,hJ,hle,_,_,_,hS.again hD.c (hY.base _ _ _ _ hJ) (.refl _ _) k'⟩
theorem VF.piece(hY:Yd Pg GE l ac step J){c:Code}{e:Exit}(hS:aL Pg GE 0 c (EX e st1) st0)(hD:Dd st0 k)(h:VF J Γ0 w0 b s st0 a w):c.wpIn Fence.wide n Pg (fun e' a' w'=>e'=e/\a'.defers=ds/\VF J Γ0 w0 b s st1 a'.tmps w') ⟨a,ds⟩ w:=by
 obtain⟨Γ,hJ,hle,hR⟩:=h.again hY hD
 refine wpIn_mono (hS.wide (hY.base _ _ _ _ hJ) hR n ds) ?_
 rintro e' a' w' ⟨hd,Γ',bs',ow',st',h',rfl,rfl⟩
 exact⟨rfl,hd,Γ',hY.side _ _ _ _ hJ _ _ _ _ _ _ h',hle.trans h'.step.le,_,_,_,h'⟩
theorem VF.reg(hY:Yd Pg GE l ac step J){c:Code}(hR:R4 c)(hD:Dd st0 k)(hDB:Dd stB kB)(hpre:cz Pg GE [] (jT c) (fun st=>FG st stA) ((jT c).toList.take 2) 0 st0)(hsuf:cz Pg GE [] (jT c) (fun st=>FG st st1) ((jT c).toList.drop 3) 0 stB){r:Bool×S}
  (hcall:∀a w (jS:Act->World->Prop) (Q:Exit->Act->World->Prop),VF J Γ0 w0 b s stA a w->(∀a' w',VF J Γ0 w0 r.1 r.2 stB a' w'->jS ⟨a',ds⟩ w')->(MT c 2).wpIn Fence.wide n Pg ⟨a,ds⟩ w jS Q)
  (h:VF J Γ0 w0 b s st0 a w):c.wpIn Fence.wide n Pg (fun e' a' w'=>e'=.normal/\a'.defers=ds/\VF J Γ0 w0 r.1 r.2 st1 a'.tmps w') ⟨a,ds⟩ w:=by
 have key:(Code.region (Up c) (jT c) false).wpIn Fence.wide n Pg (fun e' a' w'=>e'=.normal/\a'.defers=ds/\VF J Γ0 w0 r.1 r.2 st1 a'.tmps w') ⟨a,ds⟩ w:=by
  refine wpIn_region ?_
  rw[hR.rg]
  obtain⟨Γ,hJ,hle,hS⟩:=h.again hY hD
  refine wA (A:=[]) (K:=fun st=>FG st stA) (fun Γ' bs' ow' a' w' st hS' hK=>?_) _ _ Γ _ _ a w st0 hR.p1 (BU hR.p2) hS hpre
  obtain⟨Γ2,bs2,ow2,hS2⟩:=FG.sr hS' hK
  refine yS hR.o hR.g (hcall a' w' _ _ ⟨Γ2,hY.side _ _ _ _ hJ _ _ _ _ _ _ hS2,hle.trans hS2.step.le,_,_,_,hS2⟩ fun a3 w3 h3=>?_)
  obtain⟨Γ3,hJ3,hle3,hS3⟩:=h3.again hY hDB
  refine wA (A:=[]) (K:=fun st=>FG st st1) (fun Γ' bs' ow' a' w' st hS' hK=>?_) _ _ Γ3 _ _ a3 w3 stB hR.q1 (BU hR.q2) hS3 hsuf
  obtain⟨Γ4,bs4,ow4,hS4⟩:=FG.sr hS' hK
  exact⟨rfl,rfl,Γ4,hY.side _ _ _ _ hJ3 _ _ _ _ _ _ hS4,hle3.trans hS4.step.le,_,_,_,hS4⟩
 rw[<-hR.eq]at key
 exact key
theorem VF.ev(h:VF J Γ0 w0 b s st0 a w){t:Nat}{x:Bool}(ht:st0.tmps.getD t .undef=.bool x):(Act.mk a ds).eval (.tmp t)=.bool x:=by
 obtain⟨Γ,hJ,hle,E,bs,ow,hS⟩:=h
 have h1:=hS.opv ds (.tmp t)
 have e1:opv E.GE st0.tmps (.tmp t)=.bool x:=ht
 rw[e1]at h1
 generalize (Act.mk a ds).eval (.tmp t)=v at h1
 cases h1
 rfl
theorem VF.put(hY:Yd Pg GE l ac step J)(hD:Dd stA kA){Γ Γ':aS}{w':World}{E:mM}{bs:bv}{ow:Nat->Option jb}(hS:SR Pg E Γ bs ow w a stA)(hle:Γ0.Le w0 Γ w)(hle':Γ.Le w Γ' w'){r:Bool×S}(hJ':J r.1 r.2 Γ' w'){d:Nat}(hB:stB=⟨stA.tmps.set d (.bool r.1),List.replicate kA .dead,[]⟩):VF J Γ0 w0 r.1 r.2 stB (a.setIfInBounds d (.bool r.1)) w':=by
 have hS':=(hS.again hD.c (hY.base _ _ _ _ hJ') hle' kA).set (d:=d) (p:=.bool r.1) (v:=.bool r.1) (.bool _)
 exact⟨Γ',hJ',hle.trans hle',_,_,_,hB▸hS'⟩
theorem VF.yieldc(hY:Yd Pg GE l ac step J)(hD:Dd stA kA){p:aa}{r:Bool×S}(hr:step s p=some r){o:Oper}{f x d:Nat}{tys:Array TypeId}(h7:stA.tmps.getD f .undef=yv l)(h8:stA.tmps.getD x .undef=.agg (ac p))
  (ho:o.op=.call {callee:=.value (.tmp f),args:=#[.tmp x],argTypes:=tys}) (hd:o.dst=some d) (hB:stB=⟨stA.tmps.set d (.bool r.1),List.replicate kA .dead,[]⟩)
  {jS:Act->World->Prop} {Q:Exit->Act->World->Prop} (h:VF J Γ0 w0 true s stA a w) (hn:∀a' w',VF J Γ0 w0 r.1 r.2 stB a' w'->jS ⟨a',ds⟩ w'):o.wpIn Fence.wide n Pg ⟨a,ds⟩ w jS Q:=by
 obtain⟨Γ,hJ,hle,hS⟩:=h.again hY hD
 have h1:=hS.opv ds (.tmp f)
 have h2:=hS.opv ds (.tmp x)
 have e1:opv (D0 GE Γ w).GE stA.tmps (.tmp f)=yv l:=h7
 have e2:opv (D0 GE Γ w).GE stA.tmps (.tmp x)=.agg (ac p):=h8
 rw[e1]at h1;rw[e2]at h2
 have hev:(Act.mk a ds).eval (.tmp f)=.func (.yield l) #[] #[]:=by
  generalize (Act.mk a ds).eval (.tmp f)=v at h1
  cases h1;rfl
 refine Mp ho hev (R:=fun e w'=>∃Γ',e=.returned (.bool r.1)/\Γ.Le w Γ' w'/\J r.1 r.2 Γ' w') ?_ ?_
 ·have:=hY.yield s Γ w p _ (n - 1) r hJ (h2.clo (by simp only[PVal.cl];exact ah p)) hr
  simpa using this
 ·rintro e w' ⟨Γ',rfl,hle',hJ'⟩
  refine⟨_,rfl,?_⟩
  rw[hd]
  exact hn _ _ (VF.put hY hD hS hle hle' hJ' hB)
def Tr(step:S->aa->Option (Bool×S))(J:Bool->S->aS->World->Prop)(l:Nat)(p:aa):Prop:=∀s r Γ w v n,Hy step p s=some r->J true s Γ w->VR Γ [] w (.agg (ac p)) v->
 CallsIn Fence.wide n Pg fV #[v,.func (.yield l) #[] #[]] w fun e w'=>∃Γ',e=.returned (.bool r.1)/\Γ.Le w Γ' w'/\J r.1 r.2 Γ' w'
theorem VF.visitc(hY:Yd Pg GE l ac step J)(hD:Dd stA kA){p:aa}(hp:Tr step J l p){r:Bool×S}(hr:Hy step p s=some r){o:Oper}{x y d:Nat}{tys:Array TypeId}(h7:stA.tmps.getD y .undef=yv l)(h8:stA.tmps.getD x .undef=.agg (ac p))
  (ho:o.op=.call {callee:=.value (.func fV),args:=#[.tmp x,.tmp y],argTypes:=tys}) (hd:o.dst=some d) (hB:stB=⟨stA.tmps.set d (.bool r.1),List.replicate kA .dead,[]⟩)
  {jS:Act->World->Prop} {Q:Exit->Act->World->Prop} (h:VF J Γ0 w0 true s stA a w) (hn:∀a' w',VF J Γ0 w0 r.1 r.2 stB a' w'->jS ⟨a',ds⟩ w'):o.wpIn Fence.wide n Pg ⟨a,ds⟩ w jS Q:=by
 obtain⟨Γ,hJ,hle,hS⟩:=h.again hY hD
 have h1:=hS.opv ds (.tmp y)
 have h2:=hS.opv ds (.tmp x)
 have e1:opv (D0 GE Γ w).GE stA.tmps (.tmp y)=yv l:=h7
 have e2:opv (D0 GE Γ w).GE stA.tmps (.tmp x)=.agg (ac p):=h8
 rw[e1]at h1;rw[e2]at h2
 have hev:(Act.mk a ds).eval (.tmp y)=.func (.yield l) #[] #[]:=by
  generalize (Act.mk a ds).eval (.tmp y)=v at h1
  cases h1;rfl
 refine Nr ho (g:=fV) (fs:=#[]) (cs:=#[]) rfl call130 (R:=fun e w'=>∃Γ',e=.returned (.bool r.1)/\Γ.Le w Γ' w'/\J r.1 r.2 Γ' w') ?_ ?_
 ·have:=hp s r Γ w _ (n - 1) hr hJ (h2.clo (by simp only[PVal.cl];exact ah p))
  simpa[hev]using this
 ·rintro e w' ⟨Γ',rfl,hle',hJ'⟩
  refine⟨_,rfl,?_⟩
  rw[hd]
  exact hn _ _ (VF.put hY hD hS hle hle' hJ' hB)
theorem VF.fin{x:Bool}{H:List aC}(h:VF J Γ0 w0 b s (vE H x) a w):(results f130 a).run Pg w=.ok (.bool x) w:=by
 obtain⟨Γ,hJ,hle,E,bs,ow,hS⟩:=h
 obtain⟨v,h1,h2,_⟩:=ru hS (fn:=f130) (r:=.bool x) (by kernel_rfl)
 cases h2
 exact h1
theorem NB{N:Nat}{L:List (Nat×PVal)}(h:Sp 0 L)(k:Nat){H:List aC}(hH:H=List.replicate k .dead):Dd (aP N L H []) k:=⟨cG h,hH,rfl⟩
theorem Nu(ks:List aa):(sl ac ks).cl 0:=aw ah ks
theorem Rz(l:Nat)(ks:List aa)(i:Int):Dd (RH l ks i) 1:=NB (by exact aI trivial<|aI (Nu ks)<|aI trivial<|aI trivial trivial) 1 rfl
theorem RA(l:Nat)(ks:List aa)(i:Int):Dd (S4 l ks i) 1:=NB (by exact aI trivial<|aI (Nu ks)<|aI trivial<|aI trivial<|aI trivial trivial) 1 rfl
theorem RB(l:Nat)(ks:List aa)(i:Int)(b:Bool):Dd (Ue l ks i b) 2:=NB (by exact aI trivial<|aI (Nu ks)<|aI trivial<|aI trivial<|aI trivial trivial) 2 rfl
theorem Mn(hY:Yd Pg GE l ac step J)(p:aa)(hk:∀x∈p.Kids,Tr step J l x):Tr step J l p:=by
 intro s r Γ w v n hv hJ hvr
 refine callsIn_of_wp func130 (c:=bV) rfl trivial ?_
 have h0:VF J Γ w true s (aP 23 [(0,.agg (ac p)),(1,yv l)] [] []) (#[v,.func (.yield l) #[] #[]]++Array.replicate 21 undef) w:=by
  refine⟨Γ,hJ,.refl _ _,_,_,_,(hY.base _ _ _ _ hJ).fresh 0 (tmps:=[.agg (ac p),yv l]++List.replicate 21 .undef) (by simp) fun t q u hq hu=>?_⟩
  by_cases ht:t<2
  ·rw[vac (by simpa using ht)]at hq
   rw[vaK (by simpa using ht)]at hu
   match t,ht with
   |0,_=>simp at hq hu;subst hq;subst hu;exact hvr
   |1,_=>simp at hq hu;subst hq;subst hu;exact .val _
  ·rw[vaf (by simpa using ht),vaO]at hq
   split at hq<;>cases hq
   exact .undef u
 show bV.wpIn Fence.wide n Pg _ ⟨_,[]⟩ w
 rw[Ro]at hv
 obtain⟨q,hq,hv⟩:=ay hv
 have hb:Pg.funcs.size=Pg.funcs.size:=rfl
 have hret:∀{b:Bool} {s:S} {x:Bool} {H:List aC} {a':Act} {w':World},a'.defers=[]->VF J Γ w b s (vE H x) a'.tmps w'->b=r.1->s=r.2->x=r.1->
   bodyPost Pg f130 (fun e w'=>∃Γ',e=.returned (.bool r.1)/\Γ.Le w Γ' w'/\J r.1 r.2 Γ' w') .ret a' w':=by
  rintro b s x H a' w' hd h rfl rfl rfl
  refine⟨hd,.bool r.1,h.fin,?_⟩
  obtain⟨Γ',hJ',hle,_⟩:=h
  exact⟨Γ',rfl,hle,hJ'⟩
 rw[TJ]
 refine wpIn_seq (wpIn_mono (VF.piece hY (WR p l) (k:=0) (NB (by exact aI (ah p)<|aI trivial trivial) 0 rfl) h0) ?_)
 rintro e ⟨a1,ds1⟩ w1 ⟨rfl,rfl,h1⟩
 have d2:(PVal.eptr (ac p)).cl 0:=by simp only[PVal.cl];exact ah p
 have d3:(PVal.agg (ac p)).cl 0:=by simp only[PVal.cl];exact ah p
 refine wpIn_seq (wpIn_seq (wpIn_mono (VF.reg hY U7 (k:=1) (kB:=1) (r:=q) (stB:=aP 23 [(1,yv l),(2,.eptr (ac p)),(7,yv l),(8,.agg (ac p)),(9,.bool q.1)] [.dead] []) (NB (by exact aI trivial<|aI d2 trivial) 1 rfl) (NB (by exact aI trivial<|aI d2<|aI trivial<|aI d3<|aI trivial trivial) 1 rfl) (WS p l) (Vj p l q.1)
  (fun a w jS Q h hn=>VF.yieldc hY (kA:=1) (NB (by exact aI trivial<|aI d2<|aI trivial<|aI d3 trivial) 1 rfl) hq (f:=7) (x:=8) (d:=9) rfl rfl SO Uc rfl h hn) h1) ?_))
 rintro e ⟨a2,ds2⟩ w2 ⟨rfl,rfl,h2⟩
 refine wpIn_cond (h2.ev (t:=10) (x:=!q.1) rfl) ?_
 have dS2:∀b:Bool,Dd (aP 23 [(1,yv l),(2,.eptr (ac p)),(10,.bool b)] [.dead] []) 1:=fun b=>NB (by exact aI trivial<|aI d2<|aI trivial trivial) 1 rfl
 obtain⟨q1,q2⟩:=q
 cases q1 with
 |false=>
  cases hv
  refine wpIn_mono (VF.piece hY (WT p l) (dS2 true) h2) ?_
  rintro e ⟨a3,ds3⟩ w3 ⟨rfl,rfl,h3⟩
  exact hret rfl h3 rfl rfl rfl
 | true =>
  simp only at hv
  split at hv
  case isFalse=>cases hv
  rename_i hlen
  refine wpIn_skip ?_
  refine wpIn_seq (wpIn_seq (wpIn_mono (VF.piece hY (WU p l) (dS2 false) h2) ?_))
  rintro e ⟨a3,ds3⟩ w3 ⟨rfl,rfl,h3⟩
  refine wpIn_block (wpIn_loop_ghost (fun k a w'=>a.defers=[]/\∃(i:Nat) (s':S),k=p.Kids.length - i/\i<=p.Kids.length/\JD step (p.Kids.drop i) s'=some r/\VF J Γ w true s' (RH l p.Kids (i:Int)) a.tmps w') (p.Kids.length)
   ⟨rfl,0,q2,rfl,vaI _,hv,h3⟩ ?_)
  rintro k ⟨a4,ds4⟩ w4 ⟨hd4,i,s',rfl,hi,hvl,h4⟩
  simp only at hd4;subst hd4
  rw[Ub]
  refine wpIn_seq (wpIn_mono (VF.piece hY (WV l p.Kids i) (Rz _ _ _) h4) ?_)
  rintro e ⟨a5,ds5⟩ w5 ⟨rfl,rfl,h5⟩
  refine wpIn_seq (wpIn_cond (h5.ev (t:=15) (x:=decide ((i:Int)<(p.Kids.length:Int))) rfl) ?_)
  by_cases hlt:i<p.Kids.length
  ·rw[vbd (by omega)]
   refine wpIn_skip ?_
   have hdrop:p.Kids.drop i=p.Kids[i]::p.Kids.drop (i+1):=vbx hlt
   rw[hdrop,JD]at hvl
   obtain⟨q',hq',hvl⟩:=ay hvl
   have hx:dT p.Kids (i:Int)=some p.Kids[i]:=cB _ _ hlt
   generalize hxx:p.Kids[i]=x at *
   have hxm:x∈p.Kids:=hxx▸vaw hlt
   have e2:(PVal.eptr (ac x)).cl 0:=by simp only[PVal.cl];exact ah x
   have e3:(PVal.agg (ac x)).cl 0:=by simp only[PVal.cl];exact ah x
   refine wpIn_seq (wpIn_block (wpIn_seq (wpIn_mono (VF.piece hY (WW l p.Kids i x hx) (RA _ _ _) h5) ?_)))
   rintro e ⟨a6,ds6⟩ w6 ⟨rfl,rfl,h6⟩
   refine wpIn_seq (wpIn_mono (VF.reg hY U8 (k:=2) (kB:=2) (r:=q') (stB:=V4 l p.Kids i x q'.1) (NB (by exact aI trivial<|aI e2<|aI (Nu _)<|aI trivial<|aI trivial trivial) 2 rfl) (NB (by exact aI trivial<|aI (Nu _)<|aI trivial<|aI trivial<|aI e3<|aI trivial<|aI trivial trivial) 2 rfl) (WX l p.Kids i x) (Vk l p.Kids i x q'.1)
    (fun a w jS Q h hn=>VF.visitc hY (kA:=2) (NB (by exact aI trivial<|aI (Nu _)<|aI trivial<|aI trivial<|aI e3<|aI trivial trivial) 2 rfl) (hk x hxm) hq' (y:=19) (x:=18) (d:=20) rfl rfl SP Ud rfl h hn) h6) ?_)
   rintro e ⟨a7,ds7⟩ w7 ⟨rfl,rfl,h7⟩
   refine wpIn_cond (h7.ev (t:=21) (x:=!q'.1) rfl) ?_
   obtain⟨q1,q2⟩:=q'
   cases q1 with
   |false=>
    cases hvl
    refine wpIn_mono (VF.piece hY (WY l p.Kids i) (RB _ _ _ _) h7) ?_
    rintro e ⟨a8,ds8⟩ w8 ⟨rfl,rfl,h8⟩
    exact hret rfl h8 rfl rfl rfl
   |true=>
    refine wpIn_skip ?_
    refine wpIn_mono (VF.piece hY (WZ l p.Kids i) (RB _ _ _ _) h7) ?_
    rintro e ⟨a8,ds8⟩ w8 ⟨rfl,rfl,h8⟩
    refine⟨p.Kids.length - (i+1),by omega,rfl,i+1,q2,rfl,hlt,hvl,?_⟩
    have e:bL ((i:Int)+1)=((i+1:Nat):Int):=by rw[kn (by omega) (by omega)];omega
    rw[e]at h8
    exact VF.redo (st0:=⟨(RH l p.Kids ((i+1:Nat):Int)).tmps,[.dead,.dead],[]⟩) hY (k:=2) ⟨(Rz l p.Kids _).c,rfl,rfl⟩ h8 1
  ·rw[decide_eq_false (by omega)]
   refine wpIn_exit ?_
   have hi':i=p.Kids.length:=by omega
   rw[vcn (by omega),JD]at hvl
   cases hvl
   refine wpIn_mono (VF.piece hY (W0 l p.Kids i) (RA _ _ _) h5) ?_
   rintro e ⟨a6,ds6⟩ w6 ⟨rfl,rfl,h6⟩
   exact hret rfl h6 rfl rfl rfl
mutual
theorem K8(hY:Yd Pg GE l ac step J):∀p:aa,Tr step J l p
 |⟨o,n,k,ks⟩=>Mn hY ⟨o,n,k,ks⟩ (Il hY ks)
theorem Il(hY:Yd Pg GE l ac step J):∀ks:List aa,∀x∈ks,Tr step J l x
 |[],x,hx=>by simp at hx
 | y :: ks,x,hx => by
  rcases vaD.1 hx with h|h
  ·exact h▸K8 hY y
  ·exact Il hY ks x h
end
end
set_option linter.unusedSimpArgs false
def iN(l:List ag):List ag:=l.mergeSort fun x y=>decide (x<=y)
abbrev Lu(x y:ag):Prop:=Op.bytesLess x y=true
theorem nT:∀(x:ag),Op.bytesLess x x=false
 |[]=>rfl
 |a::x=>by
  unfold Op.bytesLess
  rw[nT x]
  simp[UInt8.lt_irrefl]
theorem mz:∀{x y z:ag},Lu x y->Lu y z->Lu x z
 |_,_,[],h1,h2=>by simp[Lu,Op.bytesLess]at h2
 |_,[],_::_,h1,h2=>by simp[Lu,Op.bytesLess]at h1
 |[],_::_,_::_,_,_=>rfl
 | a :: x,b :: y,c :: z,h1,h2 => by
  unfold Lu Op.bytesLess at h1 h2 ⊢
  simp only[va7,vaj,vag,vaX]at h1 h2 ⊢
  rcases h1 with h1|⟨rfl,h1⟩
  ·rcases h2 with h2|⟨rfl,h2⟩
   ·exact .inl (UInt8.lt_trans h1 h2)
   ·exact .inl h1
  ·rcases h2 with h2|⟨rfl,h2⟩
   ·exact .inl h2
   ·exact .inr ⟨rfl,mz h1 h2⟩
theorem ou:∀{x y:ag},Op.bytesLess x y=false->Op.bytesLess y x=false->x=y
 |[],[],_,_=>rfl
 |[],_::_,h,_=>by simp[Op.bytesLess]at h
 |_::_,[],_,h=>by simp[Op.bytesLess]at h
 | a :: x,b :: y,h1,h2 => by
  unfold Op.bytesLess at h1 h2
  simp only[Bool.or_eq_false_iff,vbh,Bool.and_eq_false_imp,vaX]at h1 h2
  have hab:a=b:=by
   have k1:=UInt8.not_lt.1 h1.1
   have k2:=UInt8.not_lt.1 h2.1
   exact UInt8.le_antisymm k2 k1
  subst hab
  rw[ou (h1.2 rfl) (h2.2 rfl)]
theorem Rw:∀(x y:ag),Op.bytesLess x y=decide (x<y)
 |[],[]=>by simp[Op.bytesLess]
 |_::_,[]=>by simp[Op.bytesLess]
 |[],_::_=>by simp[Op.bytesLess]
 |a::x,b::y=>by
  unfold Op.bytesLess
  rw[Rw x y,Bool.eq_iff_iff]
  simp[List.cons_lt_cons_iff]
theorem MN(x y:ag):decide (x<=y)= !Op.bytesLess y x:=by
 rw[Rw]
 rw[<-decide_not]
 rfl
theorem AS(l:List ag):(iN l).Pairwise fun x y=>Op.bytesLess y x=false:=by
 have:=List.pairwise_mergeSort (le:=fun x y:ag=>decide (x<=y)) (fun a b c h1 h2=>by
  rw[MN]at h1 h2 ⊢
  simp only[vaZ]at h1 h2 ⊢
  cases h:Op.bytesLess c a with
  |false=>rfl
  | true =>
   exfalso
   by_cases hb:Op.bytesLess a b=true
   ·have:=mz h hb
    unfold Lu at this
    rw[h2]at this
    cases this
   ·have:a=b:=ou (by simpa using hb) h1
    subst this
    rw[h2]at h
    cases h) (fun a b=>by
  rw[MN,MN]
  cases h:Op.bytesLess b a with
  |false=>rfl
  | true =>
   cases h':Op.bytesLess a b with
   |false=>rfl
   |true=>
    have:=mz h h'
    unfold Lu at this
    rw[nT]at this
    cases this) l
 refine vcH ?_ this
 intro a b h
 rw[MN]at h
 simpa using h
theorem Oe(l:List ag)(x:ag):x∈iN l↔x∈l:=List.mem_mergeSort
def LX(x:ag):List ag->List ag
 |[]=>[x]
 |y::r=>if Op.bytesLess y x=true then y::LX x r else x::y::r
def Fp:List ag->List ag
 |[]=>[]
 |x::r=>LX x (Fp r)
theorem By(x:ag):∀l,(LX x l).Perm (x::l)
 |[]=>.refl _
 | y :: r => by
  unfold LX
  split
  ·exact((By x r).cons y).trans (List.Perm.swap x y r)
  ·exact .refl _
theorem Fq:∀l,(Fp l).Perm l
 |[]=>.refl _
 |x::r=>(By x (Fp r)).trans ((Fq r).cons x)
abbrev Qk(l:List ag):Prop:=l.Pairwise fun x y=>Op.bytesLess y x=false
theorem CF(x:ag):∀{l},Qk l->Qk (LX x l)
 |[],_=>by simp[LX,Qk]
 | y :: r,h => by
  unfold Qk at h ⊢
  have h':=va5.1 h
  unfold LX
  split
  ·rename_i hy
   rw[va5]
   refine⟨fun z hz=>?_,CF x h'.2⟩
   rcases vaD.1 ((By x r).mem_iff.1 hz)with rfl|hz
   ·cases hc:Op.bytesLess z y with
    |false=>rfl
    |true=>have:=mz hy hc;unfold Lu at this;rw[nT]at this;cases this
   ·exact h'.1 z hz
  ·rename_i hy
   have hy:Op.bytesLess y x=false:=by simpa using hy
   rw[va5]
   refine⟨fun z hz=>?_,h⟩
   rcases vaD.1 hz with rfl|hz
   ·exact hy
   ·have hz:=h'.1 z hz
    cases hc:Op.bytesLess z x with
    |false=>rfl
    | true =>
     exfalso
     by_cases hxy:Op.bytesLess x y=true
     ·have:=mz hc hxy
      unfold Lu at this
      rw[hz]at this;cases this
     ·have:x=y:=ou (by simpa using hxy) hy
      subst this
      rw[hz]at hc;cases hc
theorem zP:∀l,Qk (Fp l)
 |[]=>by simp[Fp,Qk]
 |x::r=>CF x (zP r)
theorem Gq:∀{a b:List ag},Qk a->Qk b->a.Perm b->a=b
 |[],b,_,_,h=>(List.Perm.nil_eq h)
 |x::a,[],_,_,h=>by have:=h.length_eq;simp at this
 | x :: a,y :: b,ha,hb,h => by
  unfold Qk at ha hb
  have ha':=va5.1 ha
  have hb':=va5.1 hb
  have hxy:x=y:=by
   rcases vaD.1 (h.mem_iff.1 (vb5:x∈x::a))with hx|hx
   ·exact hx
   ·rcases vaD.1 (h.mem_iff.2 (vb5:y∈y::b))with hy|hy
    ·exact hy.symm
    ·exact ou (hb'.1 x hx) (ha'.1 y hy)
  subst hxy
  congr 1
  exact Gq ha'.2 hb'.2 (List.Perm.cons_inv h)
theorem Kt(l:List ag):Fp l=iN l:=Gq (zP l) (AS l) ((Fq l).trans (List.mergeSort_perm l _).symm)
end Go.Proofs.YtggeppllafbidaaGreatDoor
namespace Go.Proofs
open Go.Shelf
noncomputable def Tryz.laysM171_ren : Go.Shelf.Ren := ⟨fun | 171 => 140 | 243 => 168 | 246 => 185 | 283 => 194 | 284 => 195 | 285 => 196 | 286 => 197 | 129 => 156 | 317 => 199 | 318 => 200 | 319 => 201 | 320 => 202 | 337 => 203 | 338 => 204 | n => n, fun | 3 => 3 | 9 => 9 | 2 => 2 | 4 => 4 | 171 => 159 | 0 => 0 | 53 => 138 | 37 => 122 | 5 => 5 | 173 => 161 | 212 => 165 | 51 => 136 | 20 => 20 | 213 => 166 | 46 => 116 | 232 => 167 | 233 => 168 | n => n, fun | 17 => 1 | 18 => 2 | 19 => 3 | n => n⟩
theorem Tryz.laysM171 : Go.Proofs.LaysM.n171 Tryz.prog Tryz.laysM171_ren := {
 mixed := by kernel_rfl
 f129 := Tryz.func156.trans (congrArg some (by kernel_rfl))
 f171 := Tryz.func140.trans (congrArg some (by kernel_rfl))
 f243 := Tryz.func168.trans (congrArg some (by kernel_rfl))
 f246 := Tryz.func185.trans (congrArg some (by kernel_rfl))
 f283 := Tryz.func194.trans (congrArg some (by kernel_rfl))
 f284 := Tryz.func195.trans (congrArg some (by kernel_rfl))
 f285 := Tryz.func196.trans (congrArg some (by kernel_rfl))
 f286 := Tryz.func197.trans (congrArg some (by kernel_rfl))
 f317 := Tryz.func199.trans (congrArg some (by kernel_rfl))
 f318 := Tryz.func200.trans (congrArg some (by kernel_rfl))
 f319 := Tryz.func201.trans (congrArg some (by kernel_rfl))
 f320 := Tryz.func202.trans (congrArg some (by kernel_rfl))
 f337 := Tryz.func203.trans (congrArg some (by kernel_rfl))
 f338 := Tryz.func204.trans (congrArg some (by kernel_rfl))
 t0 := Tryz.underlying0
 a0 := Tryz.isAgg0
 z0 := Tryz.sizeOf0
 v0 := Tryz.zeroValue0
 t2 := Tryz.underlying2
 a2 := Tryz.isAgg2
 z2 := Tryz.sizeOf2
 v2 := Tryz.zeroValue2
 t3 := Tryz.underlying3
 a3 := Tryz.isAgg3
 z3 := Tryz.sizeOf3
 v3 := Tryz.zeroValue3
 t4 := Tryz.underlying4
 a4 := Tryz.isAgg4
 z4 := Tryz.sizeOf4
 v4 := Tryz.zeroValue4
 t5 := Tryz.underlying5
 a5 := Tryz.isAgg5
 z5 := Tryz.sizeOf5
 v5 := Tryz.zeroValue5
 t9 := Tryz.underlying9
 a9 := Tryz.isAgg9
 z9 := Tryz.sizeOf9
 v9 := Tryz.zeroValue9
 t20 := Tryz.underlying20
 a20 := Tryz.isAgg20
 z20 := Tryz.sizeOf20
 v20 := Tryz.zeroValue20
 t37 := Tryz.underlying122
 a37 := Tryz.isAgg122
 z37 := Tryz.sizeOf122
 v37 := Tryz.zeroValue122
 t46 := Tryz.underlying116
 a46 := Tryz.isAgg116
 z46 := Tryz.sizeOf116
 v46 := Tryz.zeroValue116
 t51 := Tryz.underlying136
 a51 := Tryz.isAgg136
 z51 := Tryz.sizeOf136
 v51 := Tryz.zeroValue136
 t53 := Tryz.underlying138
 a53 := Tryz.isAgg138
 z53 := Tryz.sizeOf138
 v53 := Tryz.zeroValue138
 t171 := Tryz.underlying159
 a171 := Tryz.isAgg159
 z171 := Tryz.sizeOf159
 v171 := Tryz.zeroValue159
 t173 := Tryz.underlying161
 a173 := Tryz.isAgg161
 z173 := Tryz.sizeOf161
 v173 := Tryz.zeroValue161
 t212 := Tryz.underlying165
 a212 := Tryz.isAgg165
 z212 := Tryz.sizeOf165
 v212 := Tryz.zeroValue165
 t213 := Tryz.underlying166
 a213 := Tryz.isAgg166
 z213 := Tryz.sizeOf166
 t232 := Tryz.underlying167
 a232 := Tryz.isAgg167
 z232 := Tryz.sizeOf167
 v232 := Tryz.zeroValue167
 t233 := Tryz.underlying168
 a233 := Tryz.isAgg168
 z233 := Tryz.sizeOf168
 v233 := Tryz.zeroValue168
 g17 := by kernel_rfl
 g18 := by kernel_rfl
 g19 := by kernel_rfl
 i0 := by kernel_rfl
 i2 := by kernel_rfl
 i3 := by kernel_rfl
 i4 := by kernel_rfl
 i5 := by kernel_rfl
 i9 := by kernel_rfl
 i20 := by kernel_rfl
 i37 := by kernel_rfl
 i46 := by kernel_rfl
 i51 := by kernel_rfl
 i53 := by kernel_rfl
 i171 := by kernel_rfl
 i173 := by kernel_rfl
 i212 := by kernel_rfl
 i232 := by kernel_rfl
 i233 := by kernel_rfl
 m17 := by kernel_rfl
 m18 := by kernel_rfl
 m19 := by kernel_rfl }
noncomputable def Tryz.lays190_ren : Go.Shelf.Ren := ⟨fun | 190 => 107 | 125 => 132 | 258 => 131 | 128 => 155 | 129 => 156 | 302 => 146 | 303 => 147 | 304 => 148 | 305 => 149 | 306 => 150 | 307 => 151 | 308 => 152 | 309 => 153 | 310 => 154 | 333 => 172 | 329 => 173 | 330 => 174 | 334 => 175 | 335 => 176 | 336 => 177 | 344 => 193 | n => n, fun | 31 => 24 | 9 => 9 | 3 => 3 | 46 => 116 | 0 => 0 | 51 => 136 | 53 => 138 | 4 => 4 | 183 => 128 | 182 => 127 | 131 => 133 | 5 => 5 | 218 => 143 | 222 => 147 | 228 => 156 | 229 => 149 | n => n, fun | n => n⟩
theorem Tryz.lays190 : Go.Proofs.Lays.n190 Tryz.prog Tryz.lays190_ren := {
 mixed := by kernel_rfl
 f125 := Tryz.func132.trans (congrArg some (by kernel_rfl))
 f128 := Tryz.func155.trans (congrArg some (by kernel_rfl))
 f129 := Tryz.func156.trans (congrArg some (by kernel_rfl))
 f190 := Tryz.func107.trans (congrArg some (by kernel_rfl))
 f258 := Tryz.func131.trans (congrArg some (by kernel_rfl))
 f302 := Tryz.func146.trans (congrArg some (by kernel_rfl))
 f303 := Tryz.func147.trans (congrArg some (by kernel_rfl))
 f304 := Tryz.func148.trans (congrArg some (by kernel_rfl))
 f305 := Tryz.func149.trans (congrArg some (by kernel_rfl))
 f306 := Tryz.func150.trans (congrArg some (by kernel_rfl))
 f307 := Tryz.func151.trans (congrArg some (by kernel_rfl))
 f308 := Tryz.func152.trans (congrArg some (by kernel_rfl))
 f309 := Tryz.func153.trans (congrArg some (by kernel_rfl))
 f310 := Tryz.func154.trans (congrArg some (by kernel_rfl))
 f329 := Tryz.func173.trans (congrArg some (by kernel_rfl))
 f330 := Tryz.func174.trans (congrArg some (by kernel_rfl))
 f333 := Tryz.func172.trans (congrArg some (by kernel_rfl))
 f334 := Tryz.func175.trans (congrArg some (by kernel_rfl))
 f335 := Tryz.func176.trans (congrArg some (by kernel_rfl))
 f336 := Tryz.func177.trans (congrArg some (by kernel_rfl))
 f344 := Tryz.func193.trans (congrArg some (by kernel_rfl))
 t0 := Tryz.underlying0
 a0 := Tryz.isAgg0
 z0 := Tryz.sizeOf0
 v0 := Tryz.zeroValue0
 t3 := Tryz.underlying3
 a3 := Tryz.isAgg3
 z3 := Tryz.sizeOf3
 v3 := Tryz.zeroValue3
 t4 := Tryz.underlying4
 a4 := Tryz.isAgg4
 z4 := Tryz.sizeOf4
 v4 := Tryz.zeroValue4
 t5 := Tryz.underlying5
 a5 := Tryz.isAgg5
 z5 := Tryz.sizeOf5
 v5 := Tryz.zeroValue5
 t9 := Tryz.underlying9
 a9 := Tryz.isAgg9
 z9 := Tryz.sizeOf9
 v9 := Tryz.zeroValue9
 t31 := Tryz.underlying24
 a31 := Tryz.isAgg24
 z31 := Tryz.sizeOf24
 v31 := Tryz.zeroValue24
 t46 := Tryz.underlying116
 a46 := Tryz.isAgg116
 z46 := Tryz.sizeOf116
 v46 := Tryz.zeroValue116
 t51 := Tryz.underlying136
 a51 := Tryz.isAgg136
 z51 := Tryz.sizeOf136
 v51 := Tryz.zeroValue136
 t53 := Tryz.underlying138
 a53 := Tryz.isAgg138
 z53 := Tryz.sizeOf138
 v53 := Tryz.zeroValue138
 t131 := Tryz.underlying133
 a131 := Tryz.isAgg133
 z131 := Tryz.sizeOf133
 v131 := Tryz.zeroValue133
 t182 := Tryz.underlying127
 a182 := Tryz.isAgg127
 z182 := Tryz.sizeOf127
 v182 := Tryz.zeroValue127
 t183 := Tryz.underlying128
 a183 := Tryz.isAgg128
 z183 := Tryz.sizeOf128
 v183 := Tryz.zeroValue128
 t218 := Tryz.underlying143
 a218 := Tryz.isAgg143
 z218 := Tryz.sizeOf143
 v218 := Tryz.zeroValue143
 t222 := Tryz.underlying147
 a222 := Tryz.isAgg147
 z222 := Tryz.sizeOf147
 v222 := Tryz.zeroValue147
 t228 := Tryz.underlying156
 a228 := Tryz.isAgg156
 z228 := Tryz.sizeOf156
 v228 := Tryz.zeroValue156
 t229 := Tryz.underlying149
 a229 := Tryz.isAgg149
 z229 := Tryz.sizeOf149
 v229 := Tryz.zeroValue149 }
noncomputable def Tryz.lays194_ren : Go.Shelf.Ren := ⟨fun | 194 => 108 | n => n, fun | 31 => 24 | 9 => 9 | 3 => 3 | 4 => 4 | 0 => 0 | n => n, fun | n => n⟩
theorem Tryz.lays194 : Go.Proofs.Lays.n194 Tryz.prog Tryz.lays194_ren := {
 mixed := by kernel_rfl
 f194 := Tryz.func108.trans (congrArg some (by kernel_rfl))
 t0 := Tryz.underlying0
 a0 := Tryz.isAgg0
 z0 := Tryz.sizeOf0
 v0 := Tryz.zeroValue0
 t3 := Tryz.underlying3
 a3 := Tryz.isAgg3
 z3 := Tryz.sizeOf3
 v3 := Tryz.zeroValue3
 t4 := Tryz.underlying4
 a4 := Tryz.isAgg4
 z4 := Tryz.sizeOf4
 v4 := Tryz.zeroValue4
 t9 := Tryz.underlying9
 a9 := Tryz.isAgg9
 z9 := Tryz.sizeOf9
 v9 := Tryz.zeroValue9
 t31 := Tryz.underlying24
 a31 := Tryz.isAgg24
 z31 := Tryz.sizeOf24
 v31 := Tryz.zeroValue24 }
noncomputable def Tryz.lc72_ren : Go.Shelf.Ren := ⟨fun | 41 => 72 | n => n, fun | 22 => 24 | 23 => 9 | 4 => 4 | n => n, fun | n => n⟩
theorem Tryz.lc72 : Go.Proofs.SlLaysE0.n41 Tryz.prog Tryz.lc72_ren := {
 mixed := by kernel_rfl
 f41 := ⟨Tryz.f72.name, by decide, Tryz.func72.trans (congrArg some (by kernel_rfl))⟩
 t4 := Tryz.underlying4
 a4 := Tryz.isAgg4
 z4 := Tryz.sizeOf4
 v4 := Tryz.zeroValue4
 t22 := Tryz.underlying24
 a22 := Tryz.isAgg24
 z22 := Tryz.sizeOf24
 v22 := Tryz.zeroValue24 }
end Go.Proofs
