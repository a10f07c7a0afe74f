/- PROVED: a part of the proof. Conditions: none. -/
import Derived.Test.YtkdahfeiedaahaaGreatDoorPkR9
import Derived.Test.YtkdahfeiedaahaaGreatDoorChecked
import Derived.Test.YtkdahfeiedaahaaGreatDoorProg
import Derived.Ground.SlgfProg
import Derived.Ground.SlgnProg
import Derived.Shelf.Lays
import Derived.Shelf.LaysM
import Derived.Shelf.SlGeneric
import Derived.Shelf.SlLaysE
import Derived.Shelf.SlLaysE0
import Derived.Shelf.SlLaysH
import Derived.Test.YtkdahfeiedaahaaGreatDoorPkR8
import Derived.Shelf.Strconv.Itoa3
import Derived.RangeFuncRecord
import Derived.RangeFuncSeq
set_option linter.unusedSimpArgs false
set_option linter.unusedVariables false
noncomputable section
namespace Go.Proofs.YtkdahfeiedaahaaGreatDoor
open Go
class K0 (p:PVal):Prop where h:p.cl 0
class K0l (l:List PVal):Prop where h:gZ 0 l
class KE {α:Type} (c:α->List PVal):Prop where h:∀x,gZ 0 (c x)
class KF {α:Type} (f:α->PVal):Prop where h:∀x,(f x).cl 0
class LTc (i n:Nat):Prop where h:i<n
class ATc (ρ:List Nat) (i:Nat) (j:outParam Nat):Prop where h:ρ[i]? =some j
instance iq1{n:Nat}:LTc 0 (n+1):=⟨by omega⟩
instance iq2{i n:Nat}[q:LTc i n]:LTc (i+1) (n+1):=⟨by have:=q.h;omega⟩
instance iq3{j:Nat}{ρ:List Nat}:ATc (j::ρ) 0 j:=⟨rfl⟩
instance iq4{i j k:Nat}{ρ:List Nat}[q:ATc ρ i j]:ATc (k::ρ) (i+1) j:=⟨by simpa using q.h⟩
instance iq6{k:IntKind}{n:Int}:K0 (.int k n):=⟨vzz⟩
instance iq7{b:Bool}:K0 (.bool b):=⟨vzz⟩
instance iq8{s:ai}:K0 (.str s):=⟨vzz⟩
instance iq10{l:List PVal}[q:K0l l]:K0 (.agg l):=⟨q.h⟩
instance iq11{l:List PVal}[q:K0l l]:K0 (.tuple l):=⟨q.h⟩
instance iq12{l:List PVal}[q:K0l l]:K0 (.eptr l):=⟨q.h⟩
instance iq13{fn:Fn}{f c:List PVal}[q:K0l f][q':K0l c]:K0 (.func fn f c):=⟨⟨q.h,q'.h⟩⟩
instance iq14:K0l []:=⟨vzz⟩
instance iq15{p:PVal}{l:List PVal}[q:K0 p][q':K0l l]:K0l (p::l):=⟨⟨q.h,q'.h⟩⟩
instance iq16{α:Type}{c:α->List PVal}{l:List α}[q:KE c]:K0 (sl c l):=⟨aH q.h l⟩
instance iq17{α:Type}{c:α->List PVal}{l:List α}[q:KE c]:K0l (aV c l):=⟨Sb 0 q.h l⟩
instance iq20:KE cS:=⟨uB⟩
instance iq22{α:Type}{c:α->List PVal}{l:List α}[q:KE c]:K0l (cL c l):=⟨Ha q.h l⟩
instance iq23{s:ai}:K0l (cS s):=⟨uB s⟩
instance iq25{b:Bool}:K0l (cB b):=⟨qfA b⟩
instance iq26:KF PVal.bool:=⟨λ_=>trivial⟩
class KC (n:Nat) (p:PVal):Prop where h:p.cl n
class KCl (n:Nat) (l:List PVal):Prop where h:gZ n l
class KCb (n:Nat) (B:aA):Prop where h:Wb n B
class KCs (n:Nat) (H:List aA):Prop where h:E6 n H
instance iq29{n:Nat}{p:PVal}[q:K0 p]:KC n p:=⟨up q.h⟩
instance iq30{n i off:Nat}[q:LTc i n]:KC n (.bptr i off):=⟨by simp only[PVal.cl];exact q.h⟩
instance iq31{n i off k:Nat}[q:LTc i n]:KC n (.bsl i off k):=⟨by simp only[PVal.cl];exact q.h⟩
instance iq32{n i:Nat}[q:LTc i n]:KC n (.mapr i):=⟨by simp only[PVal.cl];exact q.h⟩
instance iq34{n:Nat}{l:List PVal}[q:KCl n l]:KC n (.agg l):=⟨q.h⟩
instance iq35{n:Nat}{l:List PVal}[q:KCl n l]:KC n (.tuple l):=⟨q.h⟩
instance iq36{n:Nat}{l:List PVal}[q:KCl n l]:KC n (.eptr l):=⟨q.h⟩
instance iq37{n:Nat}{fn:Fn}{f c:List PVal}[q:KCl n f][q':KCl n c]:KC n (.func fn f c):=⟨⟨q.h,q'.h⟩⟩
instance iq38{n:Nat}{l:List PVal}[q:K0l l]:KCl n l:=⟨iQ q.h⟩
instance iq39{n:Nat}:KCl n []:=⟨vzz⟩
instance iq40{n:Nat}{p:PVal}{l:List PVal}[q:KC n p][q':KCl n l]:KCl n (p::l):=⟨⟨q.h,q'.h⟩⟩
instance iq41{n:Nat}:KCb n .dead:=⟨vzz⟩
instance iq42{n:Nat}{cs:List PVal}{own:List (Nat×TypeId)}[q:KCl n cs]:KCb n (.cells cs own):=⟨q.h⟩
instance iq43{n:Nat}{α:Type}{f:α->PVal}{l:List (ai×α)}[q:KF f]:KCb n (.map (df f l)):=⟨qcB f q.h l⟩
instance iq45{n:Nat}:KCs n []:=⟨vzz⟩
instance iq46{n:Nat}{B:aA}{H:List aA}[q:KCb n B][q':KCs n H]:KCs n (B::H):=⟨⟨q.h,q'.h⟩⟩
class RXc (ρ:List Nat) (q:PVal) (p:outParam PVal):Prop where h:tQ ρ p q
class RXl (ρ:List Nat) (q:List PVal) (p:outParam (List PVal)):Prop where h:B8 ρ p q
class RXb (ρ:List Nat) (q:aA) (p:outParam aA):Prop where h:RQ ρ p q
class RXs (ρ:List Nat) (q:List aA) (p:outParam (List aA)):Prop where h:pX ρ p q
instance iq47{ρ:List Nat}{p:PVal}[q:K0 p]:RXc ρ p p:=⟨xR ρ p q.h⟩
instance iq48{ρ:List Nat}{i j off:Nat}[q:ATc ρ i j]:RXc ρ (.bptr i off) (.bptr j off):=⟨xB ρ i j off q.h⟩
instance iq49{ρ:List Nat}{i j:Nat}[q:ATc ρ i j]:RXc ρ (.mapr i) (.mapr j):=⟨xM ρ i j q.h⟩
instance iq51{ρ:List Nat}{i j off n:Nat}[q:ATc ρ i j]:RXc ρ (.bsl i off n) (.bsl j off n):=⟨xS ρ i j off n q.h⟩
instance iq52{ρ:List Nat}{fn:Fn}{f c f' c':List PVal}[q:RXl ρ f f'][q':RXl ρ c c']:RXc ρ (.func fn f c) (.func fn f' c'):=⟨xF ρ fn f' c' f c q.h q'.h⟩
instance iq53{ρ:List Nat}{l l':List PVal}[q:RXl ρ l l']:RXc ρ (.agg l) (.agg l'):=⟨xA ρ l' l q.h⟩
instance iq54{ρ:List Nat}{l:List PVal}[q:K0l l]:RXl ρ l l:=⟨qcv ρ l q.h⟩
instance iq55{ρ:List Nat}:RXl ρ [] []:=⟨vzz⟩
instance iq56{ρ:List Nat}{p p':PVal}{l l':List PVal}[q:RXc ρ p p'][q':RXl ρ l l']:RXl ρ (p::l) (p'::l'):=⟨⟨q.h,q'.h⟩⟩
instance iq57{ρ:List Nat}{cs cs':List PVal}{own:List (Nat×TypeId)}[q:RXl ρ cs cs']:RXb ρ (.cells cs own) (.cells cs' own):=⟨⟨rfl,q.h⟩⟩
instance iq58{ρ:List Nat}{α:Type}{f:α->PVal}{l:List (ai×α)}[q:KF f]:RXb ρ (.map (df f l)) (.map (df f l)):=⟨⟨rfl,qcB (n:=0) f q.h l⟩⟩
instance iq59{ρ:List Nat}:RXs ρ [] []:=⟨vzz⟩
instance iq60{ρ:List Nat}{B B':aA}{H H':List aA}[q:RXb ρ B B'][q':RXs ρ H H']:RXs ρ (B::H) (B'::H'):=⟨⟨q.h,q'.h⟩⟩
def HI(ρ:List Nat):List aA->List aA->Prop
 |[],[]=>True
 |B::Bs,Bc::Hc=>(B=B/\RQ ρ B Bc)/\HI ρ Bs Hc
 |_,_=>False
theorem HI.of{ρ:List Nat}:∀{Bs Hc:List aA},pX ρ Bs Hc->HI ρ Bs Hc
 |[],[],_=>trivial
 |[],_::_,h=>h.elim
 |_::_,[],h=>h.elim
 |_::_,_::_,h=>⟨⟨rfl,h.1⟩,HI.of h.2⟩
section
variable{R:Type}{Lf:R->Prop}{oo:Option R}{tr:Tr R}{F:Prop}{P:Program}{GE:List (Nat×List PVal)}
theorem tc(ρ:List Nat){g:FuncId}{args argsC:List PVal}{Bs Hc Bs' Hc':List aA}{r rc:PVal}{ro:List (Nat×TypeId)}(ok:C P GE g argsC [] Hc rc ro Hc')[q1:RXl ρ argsC args][q2:RXs ρ Hc Bs][q3:RXs ρ Hc' Bs'][q4:RXc ρ rc r](z:PV Lf oo tr F):PV Lf oo (.it (.cg ⟨ρ,argsC,[],Bs,Hc,Bs',Hc',r,rc,ro⟩) tr) (C P GE g argsC [] Hc rc ro Hc'/\B8 ρ args argsC/\HI ρ Bs Hc/\pX ρ Bs' Hc'/\tQ ρ r rc/\F):=
 ⟨z.1,λq=>⟨ok,q1.h,.of q2.h,q3.h,q4.h,z.2 q⟩⟩
theorem qcJ(ρ:List Nat)(oa:List OA){g:FuncId}{args argsC:List PVal}{oc:List ((Nat×Nat)×TypeId)}{Bs Hc Bs' Hc':List aA}{r rc:PVal}{ro:List (Nat×TypeId)}(ok:C P GE g argsC oc Hc rc ro Hc')[q1:RXl ρ argsC args][q2:RXs ρ Hc Bs][q3:RXs ρ Hc' Bs'][q4:RXc ρ rc r](z:PV Lf oo tr F):PV Lf oo (.it (.cg ⟨ρ,argsC,oa,Bs,Hc,Bs',Hc',r,rc,ro⟩) tr) (C P GE g argsC oc Hc rc ro Hc'/\B8 ρ args argsC/\HI ρ Bs Hc/\pX ρ Bs' Hc'/\tQ ρ r rc/\F):=
 ⟨z.1,λq=>⟨ok,q1.h,.of q2.h,q3.h,q4.h,z.2 q⟩⟩
end
class KS (m:Nat) (s:aB):Prop where h:decide (m % 1000<=s.boxes.length)=true/\gZ s.boxes.length s.tmps/\E6 s.boxes.length s.boxes
def qfP(s:aB)(l:List (Nat×PVal)):aB:=⟨l.foldl (λtm x=>tm.set x.1 x.2) s.tmps,s.boxes,s.own⟩
class KTm (n:Nat) (l:List (Nat×PVal)):Prop where h:Yb n l
instance iq70{n:Nat}:KTm n []:=⟨vzz⟩
instance iq71{n t:Nat}{p:PVal}{l:List (Nat×PVal)}[q:KC n p][q':KTm n l]:KTm n ((t,p)::l):=⟨⟨q.h,q'.h⟩⟩
theorem ks(k:Nat){m N:Nat}{l:List (Nat×PVal)}{B:List aA}{o:List ((Nat×Nat)×TypeId)}(h:(B.length==k&&decide (m % 1000<=k))=true)[q:KTm k l][q':KCs k B]:KS m (aO N l B o):=by
 rw[vad,vaP]at h
 obtain⟨rfl,h⟩:=h
 exact⟨h,yL q.h,q'.h⟩
def Zw(m:Nat)(s:aB):Prop:=s.tmps=s.tmps/\s.boxes=s.boxes/\true=true/\decide (m % 1000<=s.boxes.length)=true/\gZ s.boxes.length s.tmps/\E6 s.boxes.length s.boxes
theorem KS.f{m:Nat}{s:aB}(q:KS m s):Zw m s:=⟨rfl,rfl,rfl,q.h⟩
def qeL(m:Nat){σ X:Type}(S:σ->aB)(ex:X->Exit)(so:X->aB):σ⊕X->Prop
 |.inl s=>Exit.normal=Exit.normal/\Zw m (S s)
 |.inr x=>false=false/\ex x=ex x/\Zw m (so x)
def qa9(P:Program)(GE:List (Nat×List PVal))(f:FuncId)(args:List PVal){R:Type}(o:Option R)(res:R->PVal)(ro:List (Nat×TypeId)):Prop:=∀r:R,o=some r->CC P GE f args (res r) ro
def qa8(P:Program)(GE:List (Nat×List PVal))(f:FuncId)(args:List PVal)(oa:List ((Nat×Nat)×TypeId))(H:List aA){R:Type}(o:Option R)(res:R->PVal)(ro:List (Nat×TypeId))(H':R->List aA):Prop:=∀r:R,o=some r->C P GE f args oa H (res r) ro (H' r)
def qej(P:Program)(GE:List (Nat×List PVal))(f:FuncId)(args:List PVal){R:Type}(o:Option R)(res:R->PVal)(ro:List (Nat×TypeId))(H':R->List aA):Prop:=∀r:R,o=some r->CN P GE f args (res r) ro (H' r)
def qaS(P:Program)(GE:List (Nat×List PVal))(m:Nat)(c:Code){X:Type}(o:Option X)(e:Exit)(so:X->aB)(st:aB):Prop:=∀x:X,o=some x->d8 P GE m c (EX e (so x)) st
def qcw(P:Program)(GE:List (Nat×List PVal))(m:Nat)(c:Code){X:Type}(o:Option X)(ex:X->Exit)(so:X->aB)(st:aB):Prop:=∀x:X,o=some x->d8 P GE m c (EX (ex x) (so x)) st
def qaT(P:Program)(GE:List (Nat×List PVal))(m:Nat)(c:Code){σ X:Type}(o:Option (σ⊕X))(S:σ->aB)(ex:X->Exit)(so:X->aB)(st:aB):Prop:=∀y:σ⊕X,o=some y->d8 P GE m c (LQ S ex so y) st
def ZF(P:Program)(A:List Nat)(f:FuncId)(fn:Func)(c:Code):Prop:=(∀vs w,(callFunc f vs).run P w=.ok (.enter f vs) w)/\P.funcs[f]? =some fn/\fn.body=some c/\P.follows .mixedOrders=true/\A=A
section
variable{P:Program}{GE:List (Nat×List PVal)}{A:List Nat}{f:FuncId}{fn:Func}{c:Code}{args:List PVal}{ro:List (Nat×TypeId)}{R:Type}{res:R->PVal}{o:Option R}{t:Tr R}{F:Prop}
theorem zf(h1:∀vs w,(callFunc f vs).run P w=.ok (.enter f vs) w)(h2:P.funcs[f]? =some fn)(h3:fn.body=some c)(h4:P.follows .mixedOrders=true):ZF P A f fn c:=⟨h1,h2,h3,h4,rfl⟩
theorem BN(h:∀r,o=some r->CC P GE f args (res r) ro):qa9 P GE f args o res ro:=h
def LV(res:R->PVal)(r:R):Prop:=res r=res r/\(res r).cl 0
def qeN(res:R->PVal)(r:R):Prop:=res r=res r/\(res r).cl 0/\(res r).isAgg=true
def KV(P:Program)(rs:List ResultVar)(res:R->PVal)(ro:List (Nat×TypeId)):Exit->Tr R->aB->Prop:=λe t st=>t.go λt=>t.fin λr=>FR P rs (res r) ro e [] st
theorem KV.at{r:R}{rs:List ResultVar}{e:Exit}{st:aB}(hv:t.val=some r)(h:KV P rs res ro e t st):FR P rs (res r) ro e [] st:=by
 obtain⟨t',v',h⟩:=Tr.go_ok hv h
 exact QW (K:=λr=>FR P rs (res r) ro e [] st) v' h
theorem ZF.v0(g:ZF P A f fn c)(ha:gZ 0 args)(hv:t.val=o)(hF:wx P GE A 0 c t ⟨args++List.replicate (fn.ntmps - args.length) .undef,[],[]⟩ (KV P fn.results.toList res ro)):qa9 P GE f args o res ro:=λ_ h=>
 ⟨ha,C.ofSat g.1 g.2.1 g.2.2.1 ((eo g.2.2.2.1 c t _ _ (hv.trans h) hF).imp λe st hx=>by obtain⟨t',v',hx⟩:=hx;exact(KV.at v' hx).to)⟩
theorem ZF.v(g:ZF P A f fn c)[ha:K0l args](z:PV (LV res) o t F)[hr:∀r,K0 (res r)](he:F=wx P GE A 0 c t ⟨args++List.replicate (fn.ntmps - args.length) .undef,[],[]⟩ (KV P fn.results.toList res ro):=by kernel_rfl):qa9 P GE f args o res ro:=
 ZF.v0 g ha.h z.1 (he▸z.2 λr=>⟨rfl,(hr r).h⟩)
theorem ZF.va(g:ZF P A f fn c)[ha:K0l args](z:PV (qeN res) o t F)[hr:∀r,K0 (res r)](hg:∀r,(res r).isAgg=true:=by intro r;rfl)(he:F=wx P GE A 0 c t ⟨args++List.replicate (fn.ntmps - args.length) .undef,[],[]⟩ (KV P fn.results.toList res ro):=by kernel_rfl):qa9 P GE f args o res ro:=
 ZF.v0 g ha.h z.1 (he▸z.2 λr=>⟨rfl,(hr r).h,hg r⟩)
variable{H:List aA}{H':R->List aA}{oa:List ((Nat×Nat)×TypeId)}{m:Nat}
theorem XI(h:∀r,o=some r->C P GE f args oa H (res r) ro (H' r)):qa8 P GE f args oa H o res ro H':=h
def LG(res:R->PVal)(H':R->List aA)(n:Nat)(r:R):Prop:=res r=res r/\(res r).cl n/\H' r=H' r/\E6 n (H' r)
def qeM(res:R->PVal)(H':R->List aA)(n:Nat)(r:R):Prop:=res r=res r/\(res r).cl n/\H' r=H' r/\E6 n (H' r)/\(res r).isAgg=true
def KG(P:Program)(rs:List ResultVar)(res:R->PVal)(ro:List (Nat×TypeId))(H':R->List aA):Exit->Tr R->aB->Prop:=λe t st=>t.go λt=>t.fin λr=>qaR P rs (res r) ro (H' r) e [] st
theorem KG.at{r:R}{rs:List ResultVar}{e:Exit}{st:aB}(hv:t.val=some r)(h:KG P rs res ro H' e t st):qaR P rs (res r) ro (H' r) e [] st:=by
 obtain⟨t',v',h⟩:=Tr.go_ok hv h
 exact QW (K:=λr=>qaR P rs (res r) ro (H' r) e [] st) v' h
theorem ZF.g0(g:ZF P A f fn c)(hm:∀r,(decide (m % 1000=H.length)&&decide (m≠0)&&decide ((H' r).length=H.length))=true)(hv:t.val=o)(hF:wx P GE A m c t ⟨args++List.replicate (fn.ntmps - args.length) .undef,H,oa⟩ (KG P fn.results.toList res ro H')):qa8 P GE f args oa H o res ro H':=by
 intro r h
 have hm:=hm r
 simp only[vad,vao]at hm
 exact C.ofSatG hm.1.1 hm.1.2 g.1 g.2.1 g.2.2.1 hm.2 ((eo g.2.2.2.1 c t _ _ (hv.trans h) hF).imp λe st hx=>by obtain⟨t',v',hx⟩:=hx;exact(KG.at v' hx).to)
theorem ZF.g(g:ZF P A f fn c)(n:Nat)(z:PV (LG res H' n) o t F)[hr:∀r,KC n (res r)][hb:∀r,KCs n (H' r)](hm:∀r,(decide (n % 1000=H.length)&&decide (n≠0)&&decide ((H' r).length=H.length))=true:=by intro r;rfl)(he:F=wx P GE A n c t ⟨args++List.replicate (fn.ntmps - args.length) .undef,H,oa⟩ (KG P fn.results.toList res ro H'):=by kernel_rfl):qa8 P GE f args oa H o res ro H':=
 ZF.g0 g hm z.1 (he▸z.2 λr=>⟨rfl,(hr r).h,rfl,(hb r).h⟩)
theorem ZF.ga(g:ZF P A f fn c)(n:Nat)(z:PV (qeM res H' n) o t F)[hr:∀r,KC n (res r)][hb:∀r,KCs n (H' r)](hg:∀r,(res r).isAgg=true:=by intro r;rfl)(hm:∀r,(decide (n % 1000=H.length)&&decide (n≠0)&&decide ((H' r).length=H.length))=true:=by intro r;rfl)(he:F=wx P GE A n c t ⟨args++List.replicate (fn.ntmps - args.length) .undef,H,oa⟩ (KG P fn.results.toList res ro H'):=by kernel_rfl):qa8 P GE f args oa H o res ro H':=
 ZF.g0 g hm z.1 (he▸z.2 λr=>⟨rfl,(hr r).h,rfl,(hb r).h,hg r⟩)
theorem ZF.n(g:ZF P A f fn c)(n:Nat)(z:PV (LG res H' n) o t F)[hr:∀r,KC n (res r)][hb:∀r,KCs n (H' r)](he:F=wx P GE A 0 c t ⟨args++List.replicate (fn.ntmps - args.length) .undef,[],[]⟩ (KG P fn.results.toList res ro H'):=by kernel_rfl):qej P GE f args o res ro H':=by
 intro r h
 have hF:=z.2 λr=>⟨rfl,(hr r).h,rfl,(hb r).h⟩
 rw[he]at hF
 exact CN.ofSat g.1 g.2.1 g.2.2.1 ((eo g.2.2.2.1 c t _ _ (z.1.trans h) hF).imp λe st hx=>by obtain⟨t',v',hx⟩:=hx;exact(KG.at v' hx).to)
end
section
variable{P:Program}{GE:List (Nat×List PVal)}{A:List Nat}{f:FuncId}{fn:Func}{c0 c:Code}{m:Nat}{st:aB}{X σ:Type}{S:σ->aB}{ex:X->Exit}{so:X->aB}{F:Prop}
theorem ZF.k(g:ZF P A f fn c0){o:Option X}{t:Tr X}(z:PV (LJ ex so) o t F)(he:F=wx P GE A m c t st (KJ ex so):=by kernel_rfl):qcw P GE m c o ex so st:=λ_ h=>W8 g.2.2.2.1 h z he
theorem ZF.j(g:ZF P A f fn c0){e:Exit}{o:Option X}{t:Tr X}(z:PV (LJ (λ_=>e) so) o t F)(he:F=wx P GE A m c t st (KJ (λ_=>e) so):=by kernel_rfl):qaS P GE m c o e so st:=λ_ h=>W8 (ex:=λ_=>e) g.2.2.2.1 h z he
theorem ZF.l(g:ZF P A f fn c0){o:Option (σ⊕X)}{t:Tr (σ⊕X)}(z:PV (LB S ex so) o t F)(he:F=wx P GE A m c t st (KB S ex so):=by kernel_rfl):qaT P GE m c o S ex so st:=λ_ h=>qbU g.2.2.2.1 h z he
theorem ZF.lx(g:ZF P A f fn c0){o:Option (σ⊕X)}{t:Tr (σ⊕X)}(z:PV (qeL m S ex so) o t F)[q:∀s,KS m (S s)][q':∀x,KS m (so x)](he:F=wx P GE A m c t st (qei m S ex so):=by kernel_rfl):qaT P GE m c o S ex so st:=λ_ h=>qav g.2.2.2.1 h ⟨z.1,λ_=>z.2 λy=>match y with
 |.inl s=>⟨rfl,(q s).f⟩
 |.inr x=>⟨rfl,rfl,(q' x).f⟩⟩ he
theorem C9{body:σ->Option (σ⊕X)}{s:σ}(hb:∀s,qaT P GE m c (body s) S ex so (S s))(h1:st=S s:=by rfl):qcw P GE m (.loop c) (loop body s) ex so st:=λ_ h=>ZL (h1:=h1) h λs y hy=>hb s y hy
theorem rE{e:Exit}{body:σ->Option (σ⊕X)}{s:σ}(hb:∀s,qaT P GE m c (body s) S (λ_=>e) so (S s))(h1:st=S s:=by rfl):qaS P GE m (.loop c) (loop body s) e so st:=λ_ h=>ZL (ex:=λ_=>e) (h1:=h1) h λs y hy=>hb s y hy
end
section
variable{P:Program}{T e:TypeId}{α:Type}{c:α->List PVal}
structure RI{α:Type}(P:Program)(T e:TypeId)(c:α->List PVal):Prop where
 hu:P.underlying T=some (.slice e)
 hc:∀x,(c x).length=P.cellsOf e
 hi:(P.info? e).isSome=true
theorem tP.b(s:tP P T e c):RI P T e c:=⟨s.hu,s.hc,s.hi⟩
theorem RI.flat_len(s:RI P T e c)(l:List α):(aV c l).length=l.length * P.cellsOf e:=by
 induction l with
 |nil=>simp[aV]
 |cons x l ih=>rw[show aV c (x::l)=c x++aV c l by simp[aV],vam,ih,s.hc,vau,vcT,vcu]
theorem RI.iaN(s:RI P T e c)(b:Nat){n:Nat}{l:List α}{i:Int}{k:IntKind}{x:α}(h:pn n l i=some x):iq P T (.bsl b 0 n) (.int k i)=some (.bptr b (kV P e i)):=by
 unfold pn at h
 split at h
 ·rename_i hh
  unfold iq
  rw[s.hu]
  simp only
  rw[vah ⟨hh.1,by omega,s.hi⟩]
 ·cases h
theorem RI.dropR(s:RI P T e c){l:List α}{i:Int}{x:α}(h:ey l i=some x):∃r,(aV c l).drop (kV P e i)=c x++r:=by
 obtain⟨h0,h1⟩:=wB h
 obtain⟨h2,_⟩:=rS (P:=P) (e:=e) s.hc h1
 have hlen:=s.flat_len l
 have hlt:=aq h1
 have hle:i.toNat * P.cellsOf e<=l.length * P.cellsOf e:=vaY _ (vbL hlt)
 rw[kV,vaI]
 refine⟨(aV c l).drop (i.toNat * P.cellsOf e+P.cellsOf e),?_⟩
 conv=>lhs;rw[h2]
 rw[vaL,vcL,vbJ (by simp;omega),vaR]
 have:((aV c l).take (i.toNat * P.cellsOf e)).length=i.toNat * P.cellsOf e:=by simp;omega
 rw[this,vbp,vbF]
theorem RI.ldF(s:RI P T e c){n:Nat}{l:List α}{i:Int}{x:α}{p:PVal}{off:Nat}{ft:TypeId}(ho:off<=(c x).length)(hl:∀r,aY P ft ((c x).drop off++r)=some p)(h:pn n l i=some x):aY P ft ((aV c l).drop (kV P e i+off))=some p:=by
 obtain⟨r,hr⟩:=s.dropR (Pz h)
 rw[<-List.drop_drop,hr,vch ho]
 exact hl _
theorem RI.stF(s:RI P T e c){l r:List α}{i:Int}{x y:α}{v:PVal}{vs:List PVal}{off:Nat}{ft:TypeId}(hv:cj v=some vs)(hn:vs.length=P.cellsOf ft)(hp:(P.info? ft).isSome=true)(h1:∀q∈vs,q.one=true)(hx:ey l i=some x)(hy:c y=(c x).take off++vs++(c x).drop (off+vs.length))(ho:off+vs.length<=(c x).length)(h:IJ l i y=some r):di P ft (.bptr 0 (kV P e i+off)) v [.cells (aV c l) []]=some [.cells (aV c r) []]:=by
 obtain⟨h0,hlt,rfl⟩:=Mp h
 obtain⟨_,hx'⟩:=wB hx
 obtain⟨h3,h2⟩:=rS (P:=P) (e:=e) s.hc hx'
 have hlen:=s.flat_len l
 have hle:i.toNat * P.cellsOf e+P.cellsOf e<=l.length * P.cellsOf e:=by
  have:=vaY (P.cellsOf e) hlt
  rw[vcT]at this;exact this
 have hcx:=s.hc x
 unfold di
 simp only[hv,List.getElem?_cons_zero,kV,vaI]
 rw[vah ⟨hn,hp,by omega,vas.2 h1⟩,h2,hy]
 have key:∀(k:Nat) (A B L:List PVal),L=A++c x++B->A.length=k->L.take (k+off)++vs++L.drop (k+off+vs.length)=A++((c x).take off++vs++(c x).drop (off+vs.length))++B:=by
  rintro k A B _ rfl rfl
  have e1:(A++c x++B).take (A.length+off)=A++(c x).take off:=by
   rw[vaL,List.take_length_add_append,List.take_append_of_le_length (by omega)]
  have e2:(A++c x++B).drop (A.length+off+vs.length)=(c x).drop (off+vs.length)++B:=by
   rw[vaL,vb9,List.drop_length_add_append,vch ho]
  rw[e1,e2]
  simp only[vaL]
 rw[key _ _ _ _ h3 (by simp;omega)]
 simp
def qba(P:Program){α:Type}(c:α->List PVal)(off:Nat)(ft:TypeId)(x y:α)(v:PVal):Prop:=∃vs,cj v=some vs/\vs.length=P.cellsOf ft/\(P.info? ft).isSome=true/\(∀q∈vs,q.one=true)/\c y=(c x).take off++vs++(c x).drop (off+vs.length)/\off+vs.length<=(c x).length
theorem RI.stG(s:RI P T e c){l r:List α}{i:Int}{x y:α}{v:PVal}{off:Nat}{ft:TypeId}{n:Nat}(hf:qba P c off ft x y v)(hx:pn n l i=some x)(h:IJ l i y=some r):di P ft (.bptr 0 (kV P e i+off)) v [.cells (aV c l) []]=some [.cells (aV c r) []]:=by
 obtain⟨vs,h1,h2,h3,h4,h5,h6⟩:=hf
 exact s.stF h1 h2 h3 h4 (Pz hx) h5 h6 h
theorem tP.ldF(s:tP P T e c){n:Nat}{l:List α}{i:Int}{x:α}{p:PVal}{off:Nat}{ft:TypeId}(ho:off<=(c x).length)(hl:∀r,aY P ft ((c x).drop off++r)=some p)(h:pn n l i=some x):aY P ft ((aV c l).drop (kV P e i+off))=some p:=s.b.ldF ho hl h
theorem tP.stG(s:tP P T e c){l r:List α}{i:Int}{x y:α}{v:PVal}{off:Nat}{ft:TypeId}{n:Nat}(hf:qba P c off ft x y v)(hx:pn n l i=some x)(h:IJ l i y=some r):di P ft (.bptr 0 (kV P e i+off)) v [.cells (aV c l) []]=some [.cells (aV c r) []]:=s.b.stG hf hx h
end
open Go Go.Proofs.Tryz
set_option linter.unusedVariables false
set_option linter.defProp false
set_option maxRecDepth 100000
noncomputable abbrev Pg:=Tryz.prog
theorem mixed:Pg.follows .mixedOrders=true:=by kernel_rfl
inductive aw where
 |mk (Op:Int) (Name:ai) (N:Int) (Kids:(List aw))
def aw.Op:aw->Int
 |⟨x,_,_,_⟩=>x
def aw.Name:aw->ai
 |⟨_,x,_,_⟩=>x
def aw.N:aw->Int
 |⟨_,_,x,_⟩=>x
def aw.Kids:aw->(List aw)
 |⟨_,_,_,x⟩=>x
mutual
def av:aw->List PVal
 |⟨x0,x1,x2,x3⟩=>[.int .i64 x0,.str x1,.int .i64 x2,.slice (uJ x3)]
def uJ:List aw->List (List PVal)
 |[]=>[]
 |x::r=>av x::uJ r
end
theorem Ls:∀(l:List aw),uJ l=l.map av
 |[]=>by simp[uJ]
 |x::r=>by simp[uJ,Ls r]
mutual
theorem pV:∀(x:aw),gZ 0 (av x)
 |⟨x0,x1,x2,x3⟩=>by rw[av];exact(aI vzz (aI vzz (aI vzz (aI (NI x3) trivial))))
theorem NI:∀(l:List aw),rm 0 (uJ l)
 |[]=>by simp[uJ,rm]
 |x::r=>by rw[uJ];exact⟨pV x,NI r⟩
end
theorem dX:∀(x:aw),av x=[.int .i64 x.Op,.str x.Name,.int .i64 x.N,sl av x.Kids]
 |⟨x0,x1,x2,x3⟩=>by
  simp only[av,Ls]
  rfl
abbrev P9(x:aw):PVal:=.agg (av x)
instance iK_tPred{x:aw}:K0l (av x):=⟨pV x⟩
instance iE_tPred:KE av:=⟨pV⟩
theorem Hm(x:aw):(av x).length=4:=by rw[dX];rfl
theorem FE(x:aw):cj (.agg (av x))=some (av x):=rfl
theorem N3(x:aw):cj (P9 x)=some (av x):=rfl
theorem BS(x:aw):cj (.agg (av x))=some [.int .i64 x.Op,.str x.Name,.int .i64 x.N,sl av x.Kids]:=by rw[dX];rfl
theorem UL(x:aw):∀q∈av x,q.one=true:=by
 intro q hq
 rw[dX]at hq
 simp only[vaB,vbV,or_false]at hq
 rcases hq with rfl|rfl|rfl|rfl<;>rfl
theorem Yd:Pg.cellsOf 58=4:=by kernel_rfl
theorem nK(x:aw):aY Pg 58 (av x)=some (.agg (av x)):=by
 have:=pp (P:=Pg) (t:=58) (l:=av x) (r:=[]) (by kernel_rfl) (Yd.trans (Hm x).symm)
 rwa[va6]at this
theorem wF(x:aw)(r:List PVal):aY Pg 58 ([.int .i64 x.Op,.str x.Name,.int .i64 x.N,sl av x.Kids]++r)=some (.agg (av x)):=by
 rw[<-dX];exact pp (by kernel_rfl) (Yd.trans (Hm x).symm)
theorem U3(x:aw):PVal.agg [.int .i64 x.Op,.str x.Name,.int .i64 x.N,sl av x.Kids]=.agg (av x):=by rw[dX]
theorem jJ(x:aw):bv Pg 58 (.eptr (av x)) 0=some (.eptr ((av x).drop 0))/\aY Pg 55 ((av x).drop 0)=some (.int .i64 x.Op):=⟨by rw[dX];kernel_rfl,by rw[dX];kernel_rfl⟩
theorem g8(x:aw):bv Pg 58 (.eptr (av x)) 1=some (.eptr ((av x).drop 1))/\aY Pg 9 ((av x).drop 1)=some (.str x.Name):=⟨by rw[dX];kernel_rfl,by rw[dX];kernel_rfl⟩
theorem kv(x:aw):bv Pg 58 (.eptr (av x)) 2=some (.eptr ((av x).drop 2))/\aY Pg 3 ((av x).drop 2)=some (.int .i64 x.N):=⟨by rw[dX];kernel_rfl,by rw[dX];kernel_rfl⟩
theorem dH(x:aw):bv Pg 58 (.eptr (av x)) 3=some (.eptr ((av x).drop 3))/\aY Pg 56 ((av x).drop 3)=some (sl av x.Kids):=⟨by rw[dX];kernel_rfl,by rw[dX];kernel_rfl⟩
inductive al where
 |mk (Op:Int) (Name:ai) (Args:(List al)) (Names:(List ai)) (Pred:aw) (Preds:(List aw))
def al.Op:al->Int
 |⟨x,_,_,_,_,_⟩=>x
def al.Name:al->ai
 |⟨_,x,_,_,_,_⟩=>x
def al.Args:al->(List al)
 |⟨_,_,x,_,_,_⟩=>x
def al.Names:al->(List ai)
 |⟨_,_,_,x,_,_⟩=>x
def al.Pred:al->aw
 |⟨_,_,_,_,x,_⟩=>x
def al.Preds:al->(List aw)
 |⟨_,_,_,_,_,x⟩=>x
mutual
def ah:al->List PVal
 |⟨x0,x1,x2,x3,x4,x5⟩=>[.int .i64 x0,.str x1,.slice (uK x2),sl cS x3]++(av x4++([sl av x5]))
def uK:List al->List (List PVal)
 |[]=>[]
 |x::r=>ah x::uK r
end
theorem Lt:∀(l:List al),uK l=l.map ah
 |[]=>by simp[uK]
 |x::r=>by simp[uK,Lt r]
mutual
theorem bU:∀(x:al),gZ 0 (ah x)
 |⟨x0,x1,x2,x3,x4,x5⟩=>by rw[ah];exact ya.2 (aI ((aI vzz (aI vzz (aI (NJ x2) (aI (aH uB x3) trivial))))) (ya.2 (aI (pV x4) ((aI (aH pV x5) trivial)))))
theorem NJ:∀(l:List al),rm 0 (uK l)
 |[]=>by simp[uK,rm]
 |x::r=>by rw[uK];exact⟨bU x,NJ r⟩
end
theorem dl:∀(x:al),ah x=[.int .i64 x.Op,.str x.Name,sl ah x.Args,sl cS x.Names,.int .i64 x.Pred.Op,.str x.Pred.Name,.int .i64 x.Pred.N,sl av x.Pred.Kids,sl av x.Preds]
 |⟨x0,x1,x2,x3,x4,x5⟩=>by
  simp only[ah,Lt,dX,va8,vaR]
  rfl
abbrev Qa(x:al):PVal:=.agg (ah x)
instance iK_tType{x:al}:K0l (ah x):=⟨bU x⟩
instance iE_tType:KE ah:=⟨bU⟩
theorem Hn(x:al):(ah x).length=9:=by rw[dl];rfl
theorem nR(x:al):cj (.agg (ah x))=some (ah x):=rfl
theorem N4(x:al):cj (Qa x)=some (ah x):=rfl
theorem po(x:al):cj (.agg (ah x))=some [.int .i64 x.Op,.str x.Name,sl ah x.Args,sl cS x.Names,.int .i64 x.Pred.Op,.str x.Pred.Name,.int .i64 x.Pred.N,sl av x.Pred.Kids,sl av x.Preds]:=by rw[dl];rfl
theorem UM(x:al):∀q∈ah x,q.one=true:=by
 intro q hq
 rw[dl]at hq
 simp only[vaB,vbV,or_false]at hq
 rcases hq with rfl|rfl|rfl|rfl|rfl|rfl|rfl|rfl|rfl<;>rfl
theorem Ye:Pg.cellsOf 60=9:=by kernel_rfl
theorem jT(x:al):aY Pg 60 (ah x)=some (.agg (ah x)):=by
 have:=pp (P:=Pg) (t:=60) (l:=ah x) (r:=[]) (by kernel_rfl) (Ye.trans (Hn x).symm)
 rwa[va6]at this
theorem iT(x:al)(r:List PVal):aY Pg 60 ([.int .i64 x.Op,.str x.Name,sl ah x.Args,sl cS x.Names,.int .i64 x.Pred.Op,.str x.Pred.Name,.int .i64 x.Pred.N,sl av x.Pred.Kids,sl av x.Preds]++r)=some (.agg (ah x)):=by
 rw[<-dl];exact pp (by kernel_rfl) (Ye.trans (Hn x).symm)
theorem U4(x:al):PVal.agg [.int .i64 x.Op,.str x.Name,sl ah x.Args,sl cS x.Names,.int .i64 x.Pred.Op,.str x.Pred.Name,.int .i64 x.Pred.N,sl av x.Pred.Kids,sl av x.Preds]=.agg (ah x):=by rw[dl]
theorem R9:dh Pg 60 []=some (.agg (ah (⟨0,([]:ai),([]:List al),([]:List ai),(⟨0,([]:ai),0,([]:List aw)⟩:aw),([]:List aw)⟩:al))):=by
 simp only[dl]
 kernel_rfl
theorem R8:FJ Pg 60 [] [(2,60),(3,9),(7,58),(8,58)]:=by
 exact⟨[.int .i64 0,.str ([]:ai),.val nh,.val nh,.int .i64 0,.str ([]:ai),.int .i64 0,.val nh,.val nh],by kernel_rfl,(aI rfl (aI rfl (aI rfl (aI rfl vzz))))⟩
theorem bG(x:al):bv Pg 60 (.eptr (ah x)) 0=some (.eptr ((ah x).drop 0))/\aY Pg 54 ((ah x).drop 0)=some (.int .i64 x.Op):=⟨by rw[dl];kernel_rfl,by rw[dl];kernel_rfl⟩
theorem dB(x:al):bv Pg 60 (.eptr (ah x)) 1=some (.eptr ((ah x).drop 1))/\aY Pg 9 ((ah x).drop 1)=some (.str x.Name):=⟨by rw[dl];kernel_rfl,by rw[dl];kernel_rfl⟩
theorem cb(x:al):bv Pg 60 (.eptr (ah x)) 2=some (.eptr ((ah x).drop 2))/\aY Pg 26 ((ah x).drop 2)=some (sl ah x.Args):=⟨by rw[dl];kernel_rfl,by rw[dl];kernel_rfl⟩
theorem cG(x:al):bv Pg 60 (.eptr (ah x)) 3=some (.eptr ((ah x).drop 3))/\aY Pg 38 ((ah x).drop 3)=some (sl cS x.Names):=⟨by rw[dl];kernel_rfl,by rw[dl];kernel_rfl⟩
theorem gC(x:al):bv Pg 60 (.eptr (ah x)) 4=some (.eptr ((ah x).drop 4))/\aY Pg 58 ((ah x).drop 4)=some (.agg (av x.Pred)):=⟨by rw[dl];kernel_rfl,by rw[dl,dX];kernel_rfl⟩
theorem dI(x:al):bv Pg 60 (.eptr (ah x)) 5=some (.eptr ((ah x).drop 8))/\aY Pg 56 ((ah x).drop 8)=some (sl av x.Preds):=⟨by rw[dl];kernel_rfl,by rw[dl];kernel_rfl⟩
structure am where
 Name:ai
 Type_:al
def aj(x:am):List PVal:=[.str x.Name]++(ah x.Type_)
theorem eR(x:am):aj x=[.str x.Name,.int .i64 x.Type_.Op,.str x.Type_.Name,sl ah x.Type_.Args,sl cS x.Type_.Names,.int .i64 x.Type_.Pred.Op,.str x.Type_.Pred.Name,.int .i64 x.Type_.Pred.N,sl av x.Type_.Pred.Kids,sl av x.Type_.Preds]:=by
 unfold aj
 simp only[dl,va8,vaR]
theorem bH(x:am):gZ 0 (aj x):=by rw[eR];exact(aI vzz (aI vzz (aI vzz (aI (aH bU x.Type_.Args) (aI (aH uB x.Type_.Names) (aI vzz (aI vzz (aI vzz (aI (aH pV x.Type_.Pred.Kids) (aI (aH pV x.Type_.Preds) trivial))))))))))
abbrev xr(x:am):PVal:=.agg (aj x)
instance iK_tParam{x:am}:K0l (aj x):=⟨bH x⟩
instance iE_tParam:KE aj:=⟨bH⟩
theorem sQ(x:am):(aj x).length=10:=by rw[eR];rfl
theorem th(x:am):cj (xr x)=some (aj x):=rfl
theorem kU(x:am):cj (.agg (aj x))=some [.str x.Name,.int .i64 x.Type_.Op,.str x.Type_.Name,sl ah x.Type_.Args,sl cS x.Type_.Names,.int .i64 x.Type_.Pred.Op,.str x.Type_.Pred.Name,.int .i64 x.Type_.Pred.N,sl av x.Type_.Pred.Kids,sl av x.Type_.Preds]:=by rw[eR];rfl
theorem SD(x:am):∀q∈aj x,q.one=true:=by
 intro q hq
 rw[eR]at hq
 simp only[vaB,vbV,or_false]at hq
 rcases hq with rfl|rfl|rfl|rfl|rfl|rfl|rfl|rfl|rfl|rfl<;>rfl
theorem Yf:Pg.cellsOf 85=10:=by kernel_rfl
theorem BF(x:am):aY Pg 85 (aj x)=some (.agg (aj x)):=by
 have:=pp (P:=Pg) (t:=85) (l:=aj x) (r:=[]) (by kernel_rfl) (Yf.trans (sQ x).symm)
 rwa[va6]at this
theorem Ly(x:am)(r:List PVal):aY Pg 85 ([.str x.Name,.int .i64 x.Type_.Op,.str x.Type_.Name,sl ah x.Type_.Args,sl cS x.Type_.Names,.int .i64 x.Type_.Pred.Op,.str x.Type_.Pred.Name,.int .i64 x.Type_.Pred.N,sl av x.Type_.Pred.Kids,sl av x.Type_.Preds]++r)=some (.agg (aj x)):=by
 rw[<-eR];exact pp (by kernel_rfl) (Yf.trans (sQ x).symm)
theorem L9(x:am):PVal.agg [.str x.Name,.int .i64 x.Type_.Op,.str x.Type_.Name,sl ah x.Type_.Args,sl cS x.Type_.Names,.int .i64 x.Type_.Pred.Op,.str x.Type_.Pred.Name,.int .i64 x.Type_.Pred.N,sl av x.Type_.Pred.Kids,sl av x.Type_.Preds]=.agg (aj x):=by rw[eR]
theorem CL(x0:ai)(x1:al):dh Pg 85 [(0,.str x0),(1,.agg (ah x1))]=some (.agg (aj (⟨x0,x1⟩:am))):=by
 simp only[eR,dl]
 kernel_rfl
theorem H8(x0:ai):dh Pg 85 [(0,.str x0)]=some (.agg (aj (⟨x0,(⟨0,([]:ai),([]:List al),([]:List ai),(⟨0,([]:ai),0,([]:List aw)⟩:aw),([]:List aw)⟩:al)⟩:am))):=by
 simp only[eR]
 kernel_rfl
theorem H6(x0:ai):FJ Pg 85 [(0,.str x0)] [(3,60),(4,9),(8,58),(9,58)]:=by
 exact⟨[.str x0,.int .i64 0,.str ([]:ai),.val nh,.val nh,.int .i64 0,.str ([]:ai),.int .i64 0,.val nh,.val nh],by kernel_rfl,(aI rfl (aI rfl (aI rfl (aI rfl vzz))))⟩
theorem dG(x:am):bv Pg 85 (.eptr (aj x)) 0=some (.eptr ((aj x).drop 0))/\aY Pg 9 ((aj x).drop 0)=some (.str x.Name):=⟨by rw[eR];kernel_rfl,by rw[eR];kernel_rfl⟩
theorem lM(x:am):bv Pg 85 (.eptr (aj x)) 1=some (.eptr ((aj x).drop 1))/\aY Pg 60 ((aj x).drop 1)=some (.agg (ah x.Type_)):=⟨by rw[eR];kernel_rfl,by rw[eR,dl];kernel_rfl⟩
theorem sR(x:am)(r:List PVal):aY Pg 9 ((aj x).drop 0++r)=some (.str x.Name):=by
 rw[eR];kernel_rfl
theorem yf(x:am):0<=(aj x).length:=by rw[sQ];decide
theorem AR(x:am)(v:ai):qba Pg aj 0 9 x (⟨v,x.Type_⟩:am) (.str v):=
 ⟨[.str v],rfl,by kernel_rfl,by kernel_rfl,by simp[PVal.one],by rw[eR,eR];rfl,by rw[sQ];show 0+1<=10;decide⟩
mutual
inductive ag where
 |mk (Op:Int) (Name:ai) (N:Int) (Kids:(List ag)) (Params:(List am)) (Alts:(List az)) (Types:(List al))
inductive az where
 |mk (Con:ai) (Names:(List ai)) (Body:ag)
end
def ag.Op:ag->Int
 |⟨x,_,_,_,_,_,_⟩=>x
def ag.Name:ag->ai
 |⟨_,x,_,_,_,_,_⟩=>x
def ag.N:ag->Int
 |⟨_,_,x,_,_,_,_⟩=>x
def ag.Kids:ag->(List ag)
 |⟨_,_,_,x,_,_,_⟩=>x
def ag.Params:ag->(List am)
 |⟨_,_,_,_,x,_,_⟩=>x
def ag.Alts:ag->(List az)
 |⟨_,_,_,_,_,x,_⟩=>x
def ag.Types:ag->(List al)
 |⟨_,_,_,_,_,_,x⟩=>x
def az.Con:az->ai
 |⟨x,_,_⟩=>x
def az.Names:az->(List ai)
 |⟨_,x,_⟩=>x
def az.Body:az->ag
 |⟨_,_,x⟩=>x
mutual
def ae:ag->List PVal
 |⟨x0,x1,x2,x3,x4,x5,x6⟩=>[.int .i64 x0,.str x1,.int .i64 x2,.slice (uI x3),sl aj x4,.slice (At x5),sl ah x6]
def au:az->List PVal
 |⟨x0,x1,x2⟩=>[.str x0,sl cS x1]++(ae x2)
def uI:List ag->List (List PVal)
 |[]=>[]
 |x::r=>ae x::uI r
def At:List az->List (List PVal)
 |[]=>[]
 |x::r=>au x::At r
end
theorem Lr:∀(l:List ag),uI l=l.map ae
 |[]=>by simp[uI]
 |x::r=>by simp[uI,Lr r]
theorem NS:∀(l:List az),At l=l.map au
 |[]=>by simp[At]
 |x::r=>by simp[At,NS r]
mutual
theorem a8:∀(x:ag),gZ 0 (ae x)
 |⟨x0,x1,x2,x3,x4,x5,x6⟩=>by rw[ae];exact(aI vzz (aI vzz (aI vzz (aI (NH x3) (aI (aH bH x4) (aI (QA x5) (aI (aH bU x6) trivial)))))))
theorem dm:∀(x:az),gZ 0 (au x)
 |⟨x0,x1,x2⟩=>by rw[au];exact ya.2 (aI ((aI vzz (aI (aH uB x1) trivial))) (a8 x2))
theorem NH:∀(l:List ag),rm 0 (uI l)
 |[]=>by simp[uI,rm]
 |x::r=>by rw[uI];exact⟨a8 x,NH r⟩
theorem QA:∀(l:List az),rm 0 (At l)
 |[]=>by simp[At,rm]
 |x::r=>by rw[At];exact⟨dm x,QA r⟩
end
theorem bz:∀(x:ag),ae x=[.int .i64 x.Op,.str x.Name,.int .i64 x.N,sl ae x.Kids,sl aj x.Params,sl au x.Alts,sl ah x.Types]
 |⟨x0,x1,x2,x3,x4,x5,x6⟩=>by
  simp only[ae,Lr,NS]
  rfl
abbrev ly(x:ag):PVal:=.agg (ae x)
instance iK_tExpr{x:ag}:K0l (ae x):=⟨a8 x⟩
instance iE_tExpr:KE ae:=⟨a8⟩
theorem kh(x:ag):(ae x).length=7:=by rw[bz];rfl
theorem cm(x:ag):cj (.agg (ae x))=some (ae x):=rfl
theorem dR(x:ag):cj (ly x)=some (ae x):=rfl
theorem dn(x:ag):cj (.agg (ae x))=some [.int .i64 x.Op,.str x.Name,.int .i64 x.N,sl ae x.Kids,sl aj x.Params,sl au x.Alts,sl ah x.Types]:=by rw[bz];rfl
theorem BM(x:ag):∀q∈ae x,q.one=true:=by
 intro q hq
 rw[bz]at hq
 simp only[vaB,vbV,or_false]at hq
 rcases hq with rfl|rfl|rfl|rfl|rfl|rfl|rfl<;>rfl
theorem We:Pg.cellsOf 28=7:=by kernel_rfl
theorem Yg:Pg.cellsOf 89=9:=by kernel_rfl
theorem aX(x:ag):aY Pg 28 (ae x)=some (.agg (ae x)):=by
 have:=pp (P:=Pg) (t:=28) (l:=ae x) (r:=[]) (by kernel_rfl) (We.trans (kh x).symm)
 rwa[va6]at this
theorem aK(x:ag)(r:List PVal):aY Pg 28 ([.int .i64 x.Op,.str x.Name,.int .i64 x.N,sl ae x.Kids,sl aj x.Params,sl au x.Alts,sl ah x.Types]++r)=some (.agg (ae x)):=by
 rw[<-bz];exact pp (by kernel_rfl) (We.trans (kh x).symm)
theorem iX(x:ag):PVal.agg [.int .i64 x.Op,.str x.Name,.int .i64 x.N,sl ae x.Kids,sl aj x.Params,sl au x.Alts,sl ah x.Types]=.agg (ae x):=by rw[bz]
theorem rl(x0:Int)(x1:ai):dh Pg 28 [(0,.int .i64 x0),(1,.str x1)]=some (.agg (ae (⟨x0,x1,0,([]:List ag),([]:List am),([]:List az),([]:List al)⟩:ag))):=by
 simp only[bz]
 kernel_rfl
theorem rj(x0:Int)(x1:ai):FJ Pg 28 [(0,.int .i64 x0),(1,.str x1)] [(3,28),(4,85),(5,89),(6,60)]:=by
 exact⟨[.int .i64 x0,.str x1,.int .i64 0,.val nh,.val nh,.val nh,.val nh],by kernel_rfl,(aI rfl (aI rfl (aI rfl (aI rfl vzz))))⟩
theorem Aj(x0:Int)(x1:ai)(x3:(List ag)):dh Pg 28 [(0,.int .i64 x0),(1,.str x1),(3,sl ae x3)]=some (.agg (ae (⟨x0,x1,0,x3,([]:List am),([]:List az),([]:List al)⟩:ag))):=by
 simp only[bz]
 kernel_rfl
theorem Ah(x0:Int)(x1:ai)(x3:(List ag)):FJ Pg 28 [(0,.int .i64 x0),(1,.str x1),(3,sl ae x3)] [(4,85),(5,89),(6,60)]:=by
 exact⟨[.int .i64 x0,.str x1,.int .i64 0,sl ae x3,.val nh,.val nh,.val nh],by kernel_rfl,(aI rfl (aI rfl (aI rfl vzz)))⟩
theorem Pd(x0:Int)(x2:Int):dh Pg 28 [(0,.int .i64 x0),(2,.int .i64 x2)]=some (.agg (ae (⟨x0,([]:ai),x2,([]:List ag),([]:List am),([]:List az),([]:List al)⟩:ag))):=by
 simp only[bz]
 kernel_rfl
theorem O9(x0:Int)(x2:Int):FJ Pg 28 [(0,.int .i64 x0),(2,.int .i64 x2)] [(3,28),(4,85),(5,89),(6,60)]:=by
 exact⟨[.int .i64 x0,.str ([]:ai),.int .i64 x2,.val nh,.val nh,.val nh,.val nh],by kernel_rfl,(aI rfl (aI rfl (aI rfl (aI rfl vzz))))⟩
theorem Pe(x0:Int)(x3:(List ag)):dh Pg 28 [(0,.int .i64 x0),(3,sl ae x3)]=some (.agg (ae (⟨x0,([]:ai),0,x3,([]:List am),([]:List az),([]:List al)⟩:ag))):=by
 simp only[bz]
 kernel_rfl
theorem Pa(x0:Int)(x3:(List ag)):FJ Pg 28 [(0,.int .i64 x0),(3,sl ae x3)] [(4,85),(5,89),(6,60)]:=by
 exact⟨[.int .i64 x0,.str ([]:ai),.int .i64 0,sl ae x3,.val nh,.val nh,.val nh],by kernel_rfl,(aI rfl (aI rfl (aI rfl vzz)))⟩
theorem Ak(x0:Int)(x4:(List am))(x3:(List ag)):dh Pg 28 [(0,.int .i64 x0),(4,sl aj x4),(3,sl ae x3)]=some (.agg (ae (⟨x0,([]:ai),0,x3,x4,([]:List az),([]:List al)⟩:ag))):=by
 simp only[bz]
 kernel_rfl
theorem Ai(x0:Int)(x4:(List am))(x3:(List ag)):FJ Pg 28 [(0,.int .i64 x0),(4,sl aj x4),(3,sl ae x3)] [(5,89),(6,60)]:=by
 exact⟨[.int .i64 x0,.str ([]:ai),.int .i64 0,sl ae x3,sl aj x4,.val nh,.val nh],by kernel_rfl,(aI rfl (aI rfl vzz))⟩
theorem aU(x:ag):bv Pg 28 (.eptr (ae x)) 0=some (.eptr ((ae x).drop 0))/\aY Pg 22 ((ae x).drop 0)=some (.int .i64 x.Op):=⟨by rw[bz];kernel_rfl,by rw[bz];kernel_rfl⟩
theorem bV(x:ag):bv Pg 28 (.eptr (ae x)) 1=some (.eptr ((ae x).drop 1))/\aY Pg 9 ((ae x).drop 1)=some (.str x.Name):=⟨by rw[bz];kernel_rfl,by rw[bz];kernel_rfl⟩
theorem ea(x:ag):bv Pg 28 (.eptr (ae x)) 2=some (.eptr ((ae x).drop 2))/\aY Pg 3 ((ae x).drop 2)=some (.int .i64 x.N):=⟨by rw[bz];kernel_rfl,by rw[bz];kernel_rfl⟩
theorem aR(x:ag):bv Pg 28 (.eptr (ae x)) 3=some (.eptr ((ae x).drop 3))/\aY Pg 23 ((ae x).drop 3)=some (sl ae x.Kids):=⟨by rw[bz];kernel_rfl,by rw[bz];kernel_rfl⟩
theorem aM(x:ag):bv Pg 28 (.eptr (ae x)) 4=some (.eptr ((ae x).drop 4))/\aY Pg 24 ((ae x).drop 4)=some (sl aj x.Params):=⟨by rw[bz];kernel_rfl,by rw[bz];kernel_rfl⟩
theorem ay(x:ag):bv Pg 28 (.eptr (ae x)) 5=some (.eptr ((ae x).drop 5))/\aY Pg 25 ((ae x).drop 5)=some (sl au x.Alts):=⟨by rw[bz];kernel_rfl,by rw[bz];kernel_rfl⟩
theorem aC(x:ag):bv Pg 28 (.eptr (ae x)) 6=some (.eptr ((ae x).drop 6))/\aY Pg 26 ((ae x).drop 6)=some (sl ah x.Types):=⟨by rw[bz];kernel_rfl,by rw[bz];kernel_rfl⟩
theorem mW(x:ag)(r:List PVal):aY Pg 28 (ae x++r)=some (.agg (ae x)):=pp (by kernel_rfl) (We.trans (kh x).symm)
theorem gO:∀(x:az),au x=[.str x.Con,sl cS x.Names,.int .i64 x.Body.Op,.str x.Body.Name,.int .i64 x.Body.N,sl ae x.Body.Kids,sl aj x.Body.Params,sl au x.Body.Alts,sl ah x.Body.Types]
 |⟨x0,x1,x2⟩=>by
  simp only[au,bz,va8,vaR]
  rfl
abbrev S2(x:az):PVal:=.agg (au x)
instance iK_tAlt{x:az}:K0l (au x):=⟨dm x⟩
instance iE_tAlt:KE au:=⟨dm⟩
theorem wD(x:az):(au x).length=9:=by rw[gO];rfl
theorem PQ(x:az):cj (.agg (au x))=some (au x):=rfl
theorem Rc(x:az):cj (S2 x)=some (au x):=rfl
theorem hU(x:az):cj (.agg (au x))=some [.str x.Con,sl cS x.Names,.int .i64 x.Body.Op,.str x.Body.Name,.int .i64 x.Body.N,sl ae x.Body.Kids,sl aj x.Body.Params,sl au x.Body.Alts,sl ah x.Body.Types]:=by rw[gO];rfl
theorem W0(x:az):∀q∈au x,q.one=true:=by
 intro q hq
 rw[gO]at hq
 simp only[vaB,vbV,or_false]at hq
 rcases hq with rfl|rfl|rfl|rfl|rfl|rfl|rfl|rfl|rfl<;>rfl
theorem lp(x:az):aY Pg 89 (au x)=some (.agg (au x)):=by
 have:=pp (P:=Pg) (t:=89) (l:=au x) (r:=[]) (by kernel_rfl) (Yg.trans (wD x).symm)
 rwa[va6]at this
theorem QY(x:az)(r:List PVal):aY Pg 89 ([.str x.Con,sl cS x.Names,.int .i64 x.Body.Op,.str x.Body.Name,.int .i64 x.Body.N,sl ae x.Body.Kids,sl aj x.Body.Params,sl au x.Body.Alts,sl ah x.Body.Types]++r)=some (.agg (au x)):=by
 rw[<-gO];exact pp (by kernel_rfl) (Yg.trans (wD x).symm)
theorem Rt(x:az):PVal.agg [.str x.Con,sl cS x.Names,.int .i64 x.Body.Op,.str x.Body.Name,.int .i64 x.Body.N,sl ae x.Body.Kids,sl aj x.Body.Params,sl au x.Body.Alts,sl ah x.Body.Types]=.agg (au x):=by rw[gO]
theorem CK(x0:ai)(x1:(List ai))(x2:ag):dh Pg 89 [(0,.str x0),(1,sl cS x1),(2,.agg (ae x2))]=some (.agg (au (⟨x0,x1,x2⟩:az))):=by
 simp only[gO,bz]
 kernel_rfl
theorem lm(x:az):bv Pg 89 (.eptr (au x)) 0=some (.eptr ((au x).drop 0))/\aY Pg 9 ((au x).drop 0)=some (.str x.Con):=⟨by rw[gO];kernel_rfl,by rw[gO];kernel_rfl⟩
theorem eK(x:az):bv Pg 89 (.eptr (au x)) 1=some (.eptr ((au x).drop 1))/\aY Pg 38 ((au x).drop 1)=some (sl cS x.Names):=⟨by rw[gO];kernel_rfl,by rw[gO];kernel_rfl⟩
theorem fT(x:az):bv Pg 89 (.eptr (au x)) 2=some (.eptr ((au x).drop 2))/\aY Pg 28 ((au x).drop 2)=some (.agg (ae x.Body)):=⟨by rw[gO];kernel_rfl,by rw[gO,bz];kernel_rfl⟩
theorem Nb(x:az)(r:List PVal):aY Pg 38 ((au x).drop 1++r)=some (sl cS x.Names):=by
 rw[gO];kernel_rfl
theorem Sy(x:az):1<=(au x).length:=by rw[wD];decide
theorem Nc(x:az)(r:List PVal):aY Pg 28 ((au x).drop 2++r)=some (.agg (ae x.Body)):=by
 rw[gO,bz];kernel_rfl
theorem Sz(x:az):2<=(au x).length:=by rw[wD];decide
theorem Ns(x:az)(v:ag):qba Pg au 2 28 x (⟨x.Con,x.Names,v⟩:az) (.agg (ae v)):=
 ⟨(ae v),rfl,(kh v).trans (by kernel_rfl),by kernel_rfl,BM v,by rw[gO,gO,bz];rfl,by rw[wD,kh];decide⟩
structure af where
 old:ai
 new:ai
deriving DecidableEq
def ak(x:af):List PVal:=[.str x.old,.str x.new]
theorem sM(x:af):ak x=[.str x.old,.str x.new]:=rfl
theorem bj(x:af):gZ 0 (ak x):=(aI vzz (aI vzz vzz))
abbrev mA(x:af):PVal:=.agg (ak x)
instance iE_syntax_pair:KE ak:=⟨bj⟩
theorem yM(x:af):(ak x).length=2:=by rw[sM];rfl
theorem mD(x:af):cj (mA x)=some (ak x):=rfl
theorem Jt(x:af):cj (.agg (ak x))=some [.str x.old,.str x.new]:=by rw[sM];rfl
theorem Jr(x:af):∀q∈ak x,q.one=true:=by
 intro q hq
 rw[sM]at hq
 simp only[vaB,vbV,or_false]at hq
 rcases hq with rfl|rfl<;>rfl
theorem Wd:Pg.cellsOf 137=2:=by kernel_rfl
theorem Lx(x:af):aY Pg 137 (ak x)=some (.agg (ak x)):=by
 have:=pp (P:=Pg) (t:=137) (l:=ak x) (r:=[]) (by kernel_rfl) (Wd.trans (yM x).symm)
 rwa[va6]at this
theorem jH(x0:ai)(x1:ai):dh Pg 137 [(0,.str x0),(1,.str x1)]=some (.agg (ak (⟨x0,x1⟩:af))):=by
 kernel_rfl
structure ax where
 n:Bool
 name:Bool
 least:Int
 most:Int
 params:Bool
 alts:Bool
 typesLeast:Int
 typesMost:Int
 types:Bool
deriving DecidableEq
def aD(x:ax):List PVal:=[.bool x.n,.bool x.name,.int .i64 x.least,.int .i64 x.most,.bool x.params,.bool x.alts,.int .i64 x.typesLeast,.int .i64 x.typesMost,.bool x.types]
theorem mB(x:ax):aD x=[.bool x.n,.bool x.name,.int .i64 x.least,.int .i64 x.most,.bool x.params,.bool x.alts,.int .i64 x.typesLeast,.int .i64 x.typesMost,.bool x.types]:=rfl
theorem Jp(x:ax):gZ 0 (aD x):=(aI vzz (aI vzz (aI vzz (aI vzz (aI vzz (aI vzz (aI vzz (aI vzz (aI vzz vzz)))))))))
instance iK_syntax_shape{x:ax}:K0l (aD x):=⟨Jp x⟩
theorem Hl(x:ax):(aD x).length=9:=by rw[mB];rfl
theorem yZ(x:ax):cj (.agg (aD x))=some (aD x):=rfl
theorem co(x:ax):cj (.agg (aD x))=some [.bool x.n,.bool x.name,.int .i64 x.least,.int .i64 x.most,.bool x.params,.bool x.alts,.int .i64 x.typesLeast,.int .i64 x.typesMost,.bool x.types]:=by rw[mB];rfl
theorem qb0:Pg.cellsOf 147=9:=by kernel_rfl
theorem wE(x:ax)(r:List PVal):aY Pg 147 ([.bool x.n,.bool x.name,.int .i64 x.least,.int .i64 x.most,.bool x.params,.bool x.alts,.int .i64 x.typesLeast,.int .i64 x.typesMost,.bool x.types]++r)=some (.agg (aD x)):=by
 rw[<-mB];exact pp (by kernel_rfl) (qb0.trans (Hl x).symm)
theorem cF(x:ax):PVal.agg [.bool x.n,.bool x.name,.int .i64 x.least,.int .i64 x.most,.bool x.params,.bool x.alts,.int .i64 x.typesLeast,.int .i64 x.typesMost,.bool x.types]=.agg (aD x):=by rw[mB]
theorem E5:dh Pg 147 []=some (.agg (aD (⟨false,false,0,0,false,false,0,0,false⟩:ax))):=by
 kernel_rfl
theorem E3(x0:Bool):dh Pg 147 [(0,.bool x0)]=some (.agg (aD (⟨x0,false,0,0,false,false,0,0,false⟩:ax))):=by
 kernel_rfl
theorem zi(x1:Bool)(x2:Int)(x3:Int):dh Pg 147 [(1,.bool x1),(2,.int .i64 x2),(3,.int .i64 x3)]=some (.agg (aD (⟨false,x1,x2,x3,false,false,0,0,false⟩:ax))):=by
 kernel_rfl
theorem lA(x1:Bool)(x2:Int)(x3:Int)(x8:Bool)(x7:Int):dh Pg 147 [(1,.bool x1),(2,.int .i64 x2),(3,.int .i64 x3),(8,.bool x8),(7,.int .i64 x7)]=some (.agg (aD (⟨false,x1,x2,x3,false,false,0,x7,x8⟩:ax))):=by
 kernel_rfl
theorem wt(x1:Bool)(x3:Int)(x8:Bool)(x7:Int):dh Pg 147 [(1,.bool x1),(3,.int .i64 x3),(8,.bool x8),(7,.int .i64 x7)]=some (.agg (aD (⟨false,x1,0,x3,false,false,0,x7,x8⟩:ax))):=by
 kernel_rfl
theorem E4(x1:Bool):dh Pg 147 [(1,.bool x1)]=some (.agg (aD (⟨false,x1,0,0,false,false,0,0,false⟩:ax))):=by
 kernel_rfl
theorem lK(x2:Int)(x3:Int):dh Pg 147 [(2,.int .i64 x2),(3,.int .i64 x3)]=some (.agg (aD (⟨false,false,x2,x3,false,false,0,0,false⟩:ax))):=by
 kernel_rfl
theorem tR(x2:Int)(x3:Int)(x8:Bool)(x6:Int)(x7:Int):dh Pg 147 [(2,.int .i64 x2),(3,.int .i64 x3),(8,.bool x8),(6,.int .i64 x6),(7,.int .i64 x7)]=some (.agg (aD (⟨false,false,x2,x3,false,false,x6,x7,x8⟩:ax))):=by
 kernel_rfl
theorem zj(x4:Bool)(x2:Int)(x3:Int):dh Pg 147 [(4,.bool x4),(2,.int .i64 x2),(3,.int .i64 x3)]=some (.agg (aD (⟨false,false,x2,x3,x4,false,0,0,false⟩:ax))):=by
 kernel_rfl
theorem zk(x5:Bool)(x2:Int)(x3:Int):dh Pg 147 [(5,.bool x5),(2,.int .i64 x2),(3,.int .i64 x3)]=some (.agg (aD (⟨false,false,x2,x3,false,x5,0,0,false⟩:ax))):=by
 kernel_rfl
theorem tT(x:ax):bv Pg 147 (.eptr (aD x)) 1=some (.eptr ((aD x).drop 1))/\aY Pg 4 ((aD x).drop 1)=some (.bool x.name):=⟨by kernel_rfl,by kernel_rfl⟩
theorem tU(x:ax):bv Pg 147 (.eptr (aD x)) 2=some (.eptr ((aD x).drop 2))/\aY Pg 3 ((aD x).drop 2)=some (.int .i64 x.least):=⟨by kernel_rfl,by kernel_rfl⟩
theorem tV(x:ax):bv Pg 147 (.eptr (aD x)) 3=some (.eptr ((aD x).drop 3))/\aY Pg 3 ((aD x).drop 3)=some (.int .i64 x.most):=⟨by kernel_rfl,by kernel_rfl⟩
theorem tW(x:ax):bv Pg 147 (.eptr (aD x)) 4=some (.eptr ((aD x).drop 4))/\aY Pg 4 ((aD x).drop 4)=some (.bool x.params):=⟨by kernel_rfl,by kernel_rfl⟩
theorem lB(x:ax):bv Pg 147 (.eptr (aD x)) 5=some (.eptr ((aD x).drop 5))/\aY Pg 4 ((aD x).drop 5)=some (.bool x.alts):=⟨by kernel_rfl,by kernel_rfl⟩
theorem tX(x:ax):bv Pg 147 (.eptr (aD x)) 6=some (.eptr ((aD x).drop 6))/\aY Pg 3 ((aD x).drop 6)=some (.int .i64 x.typesLeast):=⟨by kernel_rfl,by kernel_rfl⟩
theorem tY(x:ax):bv Pg 147 (.eptr (aD x)) 7=some (.eptr ((aD x).drop 7))/\aY Pg 3 ((aD x).drop 7)=some (.int .i64 x.typesMost):=⟨by kernel_rfl,by kernel_rfl⟩
theorem cR:tP Pg 23 28 ae:=⟨underlying23,λx=>(kh x).trans We.symm,by kernel_rfl,by rw[We];decide,by kernel_rfl,va7 (by kernel_rfl),BM,a8⟩
theorem er:tP Pg 24 85 aj:=⟨underlying24,λx=>(sQ x).trans Yf.symm,by kernel_rfl,by rw[Yf];decide,by kernel_rfl,va7 (by kernel_rfl),SD,bH⟩
theorem dc:tP Pg 25 89 au:=⟨underlying25,λx=>(wD x).trans Yg.symm,by kernel_rfl,by rw[Yg];decide,by kernel_rfl,va7 (by kernel_rfl),W0,dm⟩
theorem dZ:tP Pg 26 60 ah:=⟨underlying26,λx=>(Hn x).trans Ye.symm,by kernel_rfl,by rw[Ye];decide,by kernel_rfl,va7 (by kernel_rfl),UM,bU⟩
theorem qb6:Pg.cellsOf 9=1:=by kernel_rfl
theorem b8:tP Pg 38 9 cS:=⟨underlying38,λ_=>qb6.symm,by kernel_rfl,by rw[qb6];decide,by kernel_rfl,va7 (by kernel_rfl),qd2,uB⟩
theorem ni:tP Pg 56 58 av:=⟨underlying56,λx=>(Hm x).trans Yd.symm,by kernel_rfl,by rw[Yd];decide,by kernel_rfl,va7 (by kernel_rfl),UL,pV⟩
theorem Mb:tP Pg 92 137 ak:=⟨underlying92,λx=>(yM x).trans Wd.symm,by kernel_rfl,by rw[Wd];decide,by kernel_rfl,va7 (by kernel_rfl),Jr,bj⟩
theorem qcC:Pg.cellsOf 5=1:=by kernel_rfl
theorem qcs:tP Pg 169 5 (cI .u8):=⟨underlying169,λ_=>qcC.symm,by kernel_rfl,by rw[qcC];decide,by kernel_rfl,va7 (by kernel_rfl),(qd1 .u8),(qfB .u8)⟩
theorem gD(l:List ai)(n:Nat)(hn:(decide (l.length=n)&&decide (n * 1<=16777216))=true):eV Pg 38 n ((l.map PVal.str).zipIdx 0|>.map λx=>(x.2,x.1))=some (sl cS l):=b8.mk' (v:=PVal.str) qaF l n (by rw[qb6];exact hn)
theorem qeK:(Pg.underlying 4).any RC=true:=by kernel_rfl
theorem BZ:(Pg.underlying 9).any RC=true:=by kernel_rfl
theorem Jx:(Pg.underlying 92).any RC=true:=by kernel_rfl
theorem qef:HM Pg 4=some (PVal.bool false):=by kernel_rfl
theorem qfK:eD Pg 3=some [.int .i64 0]:=by kernel_rfl
theorem qeH:eD Pg 4=some [.bool false]:=by kernel_rfl
theorem rH:eD Pg 28=some [.int .i64 0,.str ([]:ai),.int .i64 0,sl ae ([]:List ag),sl aj ([]:List am),sl au ([]:List az),sl ah ([]:List al)]:=by kernel_rfl
theorem qd4:eD Pg 35=some [.int .i64 0]:=by kernel_rfl
theorem qd5:eD Pg 38=some [sl cS ([]:List ai)]:=by kernel_rfl
theorem YQ:eD Pg 58=some [.int .i64 0,.str ([]:ai),.int .i64 0,sl av ([]:List aw)]:=by kernel_rfl
theorem SP:eD Pg 60=some [.int .i64 0,.str ([]:ai),sl ah ([]:List al),sl cS ([]:List ai),.int .i64 0,.str ([]:ai),.int .i64 0,sl av ([]:List aw),sl av ([]:List aw)]:=by kernel_rfl
theorem U1:eD Pg 85=some [.str ([]:ai),.int .i64 0,.str ([]:ai),sl ah ([]:List al),sl cS ([]:List ai),.int .i64 0,.str ([]:ai),.int .i64 0,sl av ([]:List aw),sl av ([]:List aw)]:=by kernel_rfl
theorem Jv:eD Pg 89=some [.str ([]:ai),sl cS ([]:List ai),.int .i64 0,.str ([]:ai),.int .i64 0,sl ae ([]:List ag),sl aj ([]:List am),sl au ([]:List az),sl ah ([]:List al)]:=by kernel_rfl
theorem qcm:eD Pg 91=some [.val .nilFunc]:=by kernel_rfl
theorem qcn:eD Pg 92=some [sl ak ([]:List af)]:=by kernel_rfl
theorem qco:eD Pg 95=some [.val .nilFunc,.val .nilFunc]:=by kernel_rfl
theorem qck:eD Pg 109=some [.val (.pointer none)]:=by kernel_rfl
theorem qcl:eD Pg 112=some [.val .nilFunc]:=by kernel_rfl
theorem Zo:eD Pg 147=some [.bool false,.bool false,.int .i64 0,.int .i64 0,.bool false,.bool false,.int .i64 0,.int .i64 0,.bool false]:=by kernel_rfl
def jS:List Int:=[1,10,100,1000,10000,100000,1000000,10000000,100000000,1000000000,10000000000,100000000000,1000000000000,10000000000000,100000000000000,1000000000000000,10000000000000000,100000000000000000,1000000000000000000,10000000000000000000]
theorem qb2:Pg.cellsOf 216=20:=by kernel_rfl
theorem qb1:Pg.cellsOf 201=1:=by kernel_rfl
def gE:List ai:=[([97,110,100]:ai),([97,115,115,117,109,101]:ai),([98,111,111,108]:ai),([98,111,117,110,100]:ai),([99,97,115,101]:ai),([99,101,108,108]:ai),([99,108,97,115,115]:ai),([100,97,116,97]:ai),([100,101,102]:ai),([100,105,118]:ai),([101,108,115,101]:ai),([101,110,100]:ai),([102,97,108,115,101]:ai),([102,111,114,97,108,108]:ai),([102,117,110]:ai),([103,101,116]:ai),([105,102]:ai),([105,110]:ai),([105,110,115,116]:ai),([105,110,116]:ai),([105,110,118,97,114,105,97,110,116]:ai),([108,101,116]:ai),([109,97,116,99,104]:ai),([109,101,97,115,117,114,101]:ai),([109,101,116,114,105,99]:ai),([109,111,100]:ai),([109,117]:ai),([110,101,119]:ai),([110,111,116]:ai),([111,102]:ai),([111,114]:ai),([113,117,97,108]:ai),([114,101,102,108,101,99,116]:ai),([115,101,116]:ai),([116,104,101,110]:ai),([116,114,117,101]:ai),([117,115,101]:ai),([118]:ai),([118,97,108]:ai),([116,97,103]:ai),([119,104,101,114,101]:ai),([119,105,116,104]:ai)]
theorem qb3:Pg.cellsOf 218=42:=by kernel_rfl
theorem Fs:aY Pg 218 (gE.map PVal.str)=some (.agg (gE.map PVal.str)):=by kernel_rfl
theorem Fr{k:IntKind}{i:Int}{x:ai}(h:ey gE i=some x):yk Pg 218 (.agg (gE.map PVal.str)) (.int k i)=some (PVal.str x):=qbz underlying218 qb6 (by kernel_rfl) (by kernel_rfl) (by kernel_rfl) h
def wH:List Int:=[0,1,28,2,29,14,24,3,30,22,20,15,25,17,4,8,31,27,13,23,21,19,16,7,26,12,18,6,11,5,10,9]
theorem qb4:Pg.cellsOf 223=32:=by kernel_rfl
def wI:List Int:=[0,1,56,2,57,49,28,3,61,58,42,50,38,29,17,4,62,47,59,36,45,43,51,22,53,39,33,30,24,18,12,5,63,55,48,27,60,41,37,16,46,35,44,21,52,32,23,11,54,26,40,15,34,20,31,10,25,14,19,9,13,8,7,6]
theorem qb5:Pg.cellsOf 224=64:=by kernel_rfl
def GE:List (Nat×List PVal):=[(0,jS.map (PVal.int .u64)),(1,gE.map PVal.str),(2,wH.map (PVal.int .u8)),(3,wI.map (PVal.int .u8))]
abbrev OV(f:FuncId)(args:List PVal){R:Type}(o:Option R)(res:R->PVal)(ro:List (Nat×TypeId)):Prop:=qa9 Pg GE f args o res ro
abbrev OG(f:FuncId)(args:List PVal)(oa:List ((Nat×Nat)×TypeId))(H:List aA){R:Type}(o:Option R)(res:R->PVal)(ro:List (Nat×TypeId))(H':R->List aA):Prop:=qa8 Pg GE f args oa H o res ro H'
abbrev ON(f:FuncId)(args:List PVal){R:Type}(o:Option R)(res:R->PVal)(ro:List (Nat×TypeId))(H':R->List aA):Prop:=qej Pg GE f args o res ro H'
abbrev OJ(m:Nat)(c:Code){X:Type}(o:Option X)(e:Exit)(so:X->aB)(st:aB):Prop:=qaS Pg GE m c o e so st
abbrev OU(m:Nat)(c:Code){X:Type}(o:Option X)(e:Exit)(u:X->List (Nat×PVal))(st:aB):Prop:=qaS Pg GE m c o e (λx=>qfP st (u x)) st
abbrev OK(m:Nat)(c:Code){X:Type}(o:Option X)(ex:X->Exit)(so:X->aB)(st:aB):Prop:=qcw Pg GE m c o ex so st
abbrev OL(m:Nat)(c:Code){σ X:Type}(o:Option (σ⊕X))(S:σ->aB)(ex:X->Exit)(so:X->aB)(st:aB):Prop:=qaT Pg GE m c o S ex so st
abbrev waA:=List ai
abbrev waB:=List al
abbrev waC:=List am
abbrev waD:=List az
abbrev waE:=List ag
abbrev waF:=List aw
theorem QP:∀n,(∀l,Sh Pg n 58 l->∃x,l=av x):=by
 intro n
 induction n using Nat.strongRecOn with
 | ind n ih =>
  cases n with
  |zero=>exact λl h=>h.elim
  | succ n =>
   exact λl h=>by
    unfold Sh at h
    rw[underlying58]at h
    obtain⟨a0,b0,rfl,_,h0,a1,b1,rfl,_,h1,a2,b2,rfl,_,h2,a3,b3,rfl,_,h3,rfl⟩:=h
    obtain⟨x0,rfl⟩:=(Wn underlying55) n _ h0
    obtain⟨x1,rfl⟩:=(PB underlying9) n _ h1
    obtain⟨x2,rfl⟩:=(Wn underlying3) n _ h2
    obtain⟨x3,rfl⟩:=QO underlying56 (c:=av) (λm hm=>(ih m (by omega))) _ h3
    exact⟨(⟨x0,x1,x2,x3⟩:aw),by rw[dX];rfl⟩
theorem QQ:∀n,(∀l,Sh Pg n 60 l->∃x,l=ah x):=by
 intro n
 induction n using Nat.strongRecOn with
 | ind n ih =>
  cases n with
  |zero=>exact λl h=>h.elim
  | succ n =>
   exact λl h=>by
    unfold Sh at h
    rw[underlying60]at h
    obtain⟨a0,b0,rfl,_,h0,a1,b1,rfl,_,h1,a2,b2,rfl,_,h2,a3,b3,rfl,_,h3,a4,b4,rfl,_,h4,a5,b5,rfl,_,h5,rfl⟩:=h
    obtain⟨x0,rfl⟩:=(Wn underlying54) n _ h0
    obtain⟨x1,rfl⟩:=(PB underlying9) n _ h1
    obtain⟨x2,rfl⟩:=QO underlying26 (c:=ah) (λm hm=>(ih m (by omega))) _ h2
    obtain⟨x3,rfl⟩:=(Wo underlying38 (PB underlying9)) n _ h3
    obtain⟨x4,rfl⟩:=QP n _ h4
    obtain⟨x5,rfl⟩:=(Wo underlying56 QP) n _ h5
    exact⟨(⟨x0,x1,x2,x3,x4,x5⟩:al),by rw[dl];(try simp only[dX]);rfl⟩
theorem Ux:∀n,(∀l,Sh Pg n 85 l->∃x,l=aj x):=by
 intro n
 induction n using Nat.strongRecOn with
 | ind n ih =>
  cases n with
  |zero=>exact λl h=>h.elim
  | succ n =>
   exact λl h=>by
    unfold Sh at h
    rw[underlying85]at h
    obtain⟨a0,b0,rfl,_,h0,a1,b1,rfl,_,h1,rfl⟩:=h
    obtain⟨x0,rfl⟩:=(PB underlying9) n _ h0
    obtain⟨x1,rfl⟩:=QQ n _ h1
    exact⟨(⟨x0,x1⟩:am),by rw[eR];(try simp only[dl]);(try simp only[dX]);rfl⟩
theorem PC:∀n,(∀l,Sh Pg n 28 l->∃x,l=ae x)/\(∀l,Sh Pg n 89 l->∃x,l=au x):=by
 intro n
 induction n using Nat.strongRecOn with
 | ind n ih =>
  cases n with
  |zero=>exact⟨λl h=>h.elim,λl h=>h.elim⟩
  | succ n =>
   exact⟨(λl h=>by
    unfold Sh at h
    rw[underlying28]at h
    obtain⟨a0,b0,rfl,_,h0,a1,b1,rfl,_,h1,a2,b2,rfl,_,h2,a3,b3,rfl,_,h3,a4,b4,rfl,_,h4,a5,b5,rfl,_,h5,a6,b6,rfl,_,h6,rfl⟩:=h
    obtain⟨x0,rfl⟩:=(Wn underlying22) n _ h0
    obtain⟨x1,rfl⟩:=(PB underlying9) n _ h1
    obtain⟨x2,rfl⟩:=(Wn underlying3) n _ h2
    obtain⟨x3,rfl⟩:=QO underlying23 (c:=ae) (λm hm=>(ih m (by omega)).1) _ h3
    obtain⟨x4,rfl⟩:=(Wo underlying24 Ux) n _ h4
    obtain⟨x5,rfl⟩:=QO underlying25 (c:=au) (λm hm=>(ih m (by omega)).2) _ h5
    obtain⟨x6,rfl⟩:=(Wo underlying26 QQ) n _ h6
    exact⟨(⟨x0,x1,x2,x3,x4,x5,x6⟩:ag),by rw[bz];rfl⟩),(λl h=>by
    unfold Sh at h
    rw[underlying89]at h
    obtain⟨a0,b0,rfl,_,h0,a1,b1,rfl,_,h1,a2,b2,rfl,_,h2,rfl⟩:=h
    obtain⟨x0,rfl⟩:=(PB underlying9) n _ h0
    obtain⟨x1,rfl⟩:=(Wo underlying38 (PB underlying9)) n _ h1
    obtain⟨x2,rfl⟩:=(ih n (vb6 n)).1 _ h2
    exact⟨(⟨x0,x1,x2⟩:az),by rw[gO];(try simp only[bz]);rfl⟩)⟩
theorem Wp:In Pg 28 ae:=λn=>(PC n).1
end Go.Proofs.YtkdahfeiedaahaaGreatDoor
namespace Go.Proofs
open Go.Shelf
noncomputable def Tryz.laysM171_ren : Go.Shelf.Ren := ⟨fun | 171 => 98 | 243 => 134 | 246 => 156 | 283 => 182 | 284 => 183 | 285 => 184 | 286 => 185 | 129 => 181 | 317 => 202 | 318 => 203 | 319 => 204 | 320 => 205 | 337 => 212 | 338 => 213 | n => n, fun | 3 => 3 | 9 => 9 | 2 => 2 | 4 => 4 | 171 => 202 | 0 => 0 | 53 => 201 | 37 => 169 | 5 => 5 | 173 => 204 | 212 => 216 | 51 => 199 | 20 => 20 | 213 => 217 | 46 => 182 | 232 => 223 | 233 => 224 | n => n, fun | 17 => 0 | 18 => 2 | 19 => 3 | n => n⟩
theorem Tryz.laysM171 : Go.Proofs.LaysM.n171 Tryz.prog Tryz.laysM171_ren := {
 mixed := by kernel_rfl
 f129 := Tryz.func181.trans (congrArg some (by kernel_rfl))
 f171 := Tryz.func98.trans (congrArg some (by kernel_rfl))
 f243 := Tryz.func134.trans (congrArg some (by kernel_rfl))
 f246 := Tryz.func156.trans (congrArg some (by kernel_rfl))
 f283 := Tryz.func182.trans (congrArg some (by kernel_rfl))
 f284 := Tryz.func183.trans (congrArg some (by kernel_rfl))
 f285 := Tryz.func184.trans (congrArg some (by kernel_rfl))
 f286 := Tryz.func185.trans (congrArg some (by kernel_rfl))
 f317 := Tryz.func202.trans (congrArg some (by kernel_rfl))
 f318 := Tryz.func203.trans (congrArg some (by kernel_rfl))
 f319 := Tryz.func204.trans (congrArg some (by kernel_rfl))
 f320 := Tryz.func205.trans (congrArg some (by kernel_rfl))
 f337 := Tryz.func212.trans (congrArg some (by kernel_rfl))
 f338 := Tryz.func213.trans (congrArg some (by kernel_rfl))
 t0 := Tryz.underlying0
 a0 := Tryz.isAgg0
 z0 := Tryz.sizeOf0
 v0 := Tryz.zeroValue0
 t2 := Tryz.underlying2
 a2 := Tryz.isAgg2
 z2 := Tryz.sizeOf2
 v2 := Tryz.zeroValue2
 t3 := Tryz.underlying3
 a3 := Tryz.isAgg3
 z3 := Tryz.sizeOf3
 v3 := Tryz.zeroValue3
 t4 := Tryz.underlying4
 a4 := Tryz.isAgg4
 z4 := Tryz.sizeOf4
 v4 := Tryz.zeroValue4
 t5 := Tryz.underlying5
 a5 := Tryz.isAgg5
 z5 := Tryz.sizeOf5
 v5 := Tryz.zeroValue5
 t9 := Tryz.underlying9
 a9 := Tryz.isAgg9
 z9 := Tryz.sizeOf9
 v9 := Tryz.zeroValue9
 t20 := Tryz.underlying20
 a20 := Tryz.isAgg20
 z20 := Tryz.sizeOf20
 v20 := Tryz.zeroValue20
 t37 := Tryz.underlying169
 a37 := Tryz.isAgg169
 z37 := Tryz.sizeOf169
 v37 := Tryz.zeroValue169
 t46 := Tryz.underlying182
 a46 := Tryz.isAgg182
 z46 := Tryz.sizeOf182
 v46 := Tryz.zeroValue182
 t51 := Tryz.underlying199
 a51 := Tryz.isAgg199
 z51 := Tryz.sizeOf199
 v51 := Tryz.zeroValue199
 t53 := Tryz.underlying201
 a53 := Tryz.isAgg201
 z53 := Tryz.sizeOf201
 v53 := Tryz.zeroValue201
 t171 := Tryz.underlying202
 a171 := Tryz.isAgg202
 z171 := Tryz.sizeOf202
 v171 := Tryz.zeroValue202
 t173 := Tryz.underlying204
 a173 := Tryz.isAgg204
 z173 := Tryz.sizeOf204
 v173 := Tryz.zeroValue204
 t212 := Tryz.underlying216
 a212 := Tryz.isAgg216
 z212 := Tryz.sizeOf216
 v212 := Tryz.zeroValue216
 t213 := Tryz.underlying217
 a213 := Tryz.isAgg217
 z213 := Tryz.sizeOf217
 t232 := Tryz.underlying223
 a232 := Tryz.isAgg223
 z232 := Tryz.sizeOf223
 v232 := Tryz.zeroValue223
 t233 := Tryz.underlying224
 a233 := Tryz.isAgg224
 z233 := Tryz.sizeOf224
 v233 := Tryz.zeroValue224
 g17 := by kernel_rfl
 g18 := by kernel_rfl
 g19 := by kernel_rfl
 i0 := by kernel_rfl
 i2 := by kernel_rfl
 i3 := by kernel_rfl
 i4 := by kernel_rfl
 i5 := by kernel_rfl
 i9 := by kernel_rfl
 i20 := by kernel_rfl
 i37 := by kernel_rfl
 i46 := by kernel_rfl
 i51 := by kernel_rfl
 i53 := by kernel_rfl
 i171 := by kernel_rfl
 i173 := by kernel_rfl
 i212 := by kernel_rfl
 i232 := by kernel_rfl
 i233 := by kernel_rfl
 m17 := by kernel_rfl
 m18 := by kernel_rfl
 m19 := by kernel_rfl }
noncomputable def Tryz.lays190_ren : Go.Shelf.Ren := ⟨fun | 190 => 127 | 125 => 154 | 258 => 153 | 128 => 180 | 129 => 181 | 302 => 171 | 303 => 172 | 304 => 173 | 305 => 174 | 306 => 175 | 307 => 176 | 308 => 177 | 309 => 178 | 310 => 179 | 333 => 196 | 329 => 197 | 330 => 198 | 334 => 199 | 335 => 200 | 336 => 201 | 344 => 211 | n => n, fun | 31 => 38 | 9 => 9 | 3 => 3 | 46 => 182 | 0 => 0 | 51 => 199 | 53 => 201 | 4 => 4 | 183 => 191 | 182 => 190 | 131 => 196 | 5 => 5 | 218 => 208 | 222 => 212 | 228 => 219 | 229 => 220 | n => n, fun | n => n⟩
theorem Tryz.lays190 : Go.Proofs.Lays.n190 Tryz.prog Tryz.lays190_ren := {
 mixed := by kernel_rfl
 f125 := Tryz.func154.trans (congrArg some (by kernel_rfl))
 f128 := Tryz.func180.trans (congrArg some (by kernel_rfl))
 f129 := Tryz.func181.trans (congrArg some (by kernel_rfl))
 f190 := Tryz.func127.trans (congrArg some (by kernel_rfl))
 f258 := Tryz.func153.trans (congrArg some (by kernel_rfl))
 f302 := Tryz.func171.trans (congrArg some (by kernel_rfl))
 f303 := Tryz.func172.trans (congrArg some (by kernel_rfl))
 f304 := Tryz.func173.trans (congrArg some (by kernel_rfl))
 f305 := Tryz.func174.trans (congrArg some (by kernel_rfl))
 f306 := Tryz.func175.trans (congrArg some (by kernel_rfl))
 f307 := Tryz.func176.trans (congrArg some (by kernel_rfl))
 f308 := Tryz.func177.trans (congrArg some (by kernel_rfl))
 f309 := Tryz.func178.trans (congrArg some (by kernel_rfl))
 f310 := Tryz.func179.trans (congrArg some (by kernel_rfl))
 f329 := Tryz.func197.trans (congrArg some (by kernel_rfl))
 f330 := Tryz.func198.trans (congrArg some (by kernel_rfl))
 f333 := Tryz.func196.trans (congrArg some (by kernel_rfl))
 f334 := Tryz.func199.trans (congrArg some (by kernel_rfl))
 f335 := Tryz.func200.trans (congrArg some (by kernel_rfl))
 f336 := Tryz.func201.trans (congrArg some (by kernel_rfl))
 f344 := Tryz.func211.trans (congrArg some (by kernel_rfl))
 t0 := Tryz.underlying0
 a0 := Tryz.isAgg0
 z0 := Tryz.sizeOf0
 v0 := Tryz.zeroValue0
 t3 := Tryz.underlying3
 a3 := Tryz.isAgg3
 z3 := Tryz.sizeOf3
 v3 := Tryz.zeroValue3
 t4 := Tryz.underlying4
 a4 := Tryz.isAgg4
 z4 := Tryz.sizeOf4
 v4 := Tryz.zeroValue4
 t5 := Tryz.underlying5
 a5 := Tryz.isAgg5
 z5 := Tryz.sizeOf5
 v5 := Tryz.zeroValue5
 t9 := Tryz.underlying9
 a9 := Tryz.isAgg9
 z9 := Tryz.sizeOf9
 v9 := Tryz.zeroValue9
 t31 := Tryz.underlying38
 a31 := Tryz.isAgg38
 z31 := Tryz.sizeOf38
 v31 := Tryz.zeroValue38
 t46 := Tryz.underlying182
 a46 := Tryz.isAgg182
 z46 := Tryz.sizeOf182
 v46 := Tryz.zeroValue182
 t51 := Tryz.underlying199
 a51 := Tryz.isAgg199
 z51 := Tryz.sizeOf199
 v51 := Tryz.zeroValue199
 t53 := Tryz.underlying201
 a53 := Tryz.isAgg201
 z53 := Tryz.sizeOf201
 v53 := Tryz.zeroValue201
 t131 := Tryz.underlying196
 a131 := Tryz.isAgg196
 z131 := Tryz.sizeOf196
 v131 := Tryz.zeroValue196
 t182 := Tryz.underlying190
 a182 := Tryz.isAgg190
 z182 := Tryz.sizeOf190
 v182 := Tryz.zeroValue190
 t183 := Tryz.underlying191
 a183 := Tryz.isAgg191
 z183 := Tryz.sizeOf191
 v183 := Tryz.zeroValue191
 t218 := Tryz.underlying208
 a218 := Tryz.isAgg208
 z218 := Tryz.sizeOf208
 v218 := Tryz.zeroValue208
 t222 := Tryz.underlying212
 a222 := Tryz.isAgg212
 z222 := Tryz.sizeOf212
 v222 := Tryz.zeroValue212
 t228 := Tryz.underlying219
 a228 := Tryz.isAgg219
 z228 := Tryz.sizeOf219
 v228 := Tryz.zeroValue219
 t229 := Tryz.underlying220
 a229 := Tryz.isAgg220
 z229 := Tryz.sizeOf220
 v229 := Tryz.zeroValue220 }
noncomputable def Tryz.lc104_ren : Go.Shelf.Ren := ⟨fun | 41 => 104 | n => n, fun | 22 => 92 | 23 => 137 | 4 => 4 | n => n, fun | n => n⟩
theorem Tryz.lc104 : Go.Proofs.SlLaysE0.n41 Tryz.prog Tryz.lc104_ren := {
 mixed := by kernel_rfl
 f41 := ⟨Tryz.f104.name, by decide, Tryz.func104.trans (congrArg some (by kernel_rfl))⟩
 t4 := Tryz.underlying4
 a4 := Tryz.isAgg4
 z4 := Tryz.sizeOf4
 v4 := Tryz.zeroValue4
 t22 := Tryz.underlying92
 a22 := Tryz.isAgg92
 z22 := Tryz.sizeOf92
 v22 := Tryz.zeroValue92 }
noncomputable def Tryz.lc125_ren : Go.Shelf.Ren := ⟨fun | 41 => 125 | n => n, fun | 22 => 38 | 23 => 9 | 4 => 4 | n => n, fun | n => n⟩
theorem Tryz.lc125 : Go.Proofs.SlLaysE0.n41 Tryz.prog Tryz.lc125_ren := {
 mixed := by kernel_rfl
 f41 := ⟨Tryz.f125.name, by decide, Tryz.func125.trans (congrArg some (by kernel_rfl))⟩
 t4 := Tryz.underlying4
 a4 := Tryz.isAgg4
 z4 := Tryz.sizeOf4
 v4 := Tryz.zeroValue4
 t22 := Tryz.underlying38
 a22 := Tryz.isAgg38
 z22 := Tryz.sizeOf38
 v22 := Tryz.zeroValue38 }
end Go.Proofs
namespace Go.Proofs.YtkdahfeiedaahaaGreatDoor
open Go Go.Proofs.Tryz
set_option linter.unusedVariables false
set_option linter.defProp false
set_option maxRecDepth 100000
theorem Sf:qd Pg 104 137:=NK Tryz.lc104 rfl rfl (by kernel_rfl) call104
theorem uC{l r:List af}(h:pj l=some r):CC Pg GE 104 [sl ak l] (sl ak r) [(0,137)]:=Mb.cloneCC Sf h
theorem Sg:qd Pg 125 9:=NK Tryz.lc125 rfl rfl (by kernel_rfl) call125
theorem Am{l r:List ai}(h:pj l=some r):CC Pg GE 125 [sl cS l] (sl cS r) [(0,9)]:=b8.cloneCC Sg h
def TD(n:Int):Option ai:=if(decide (-9223372036854775808<=n)&&decide (n<=9223372036854775807))=true then some (Lib.itoa n)else none
theorem Xh:jS=Lib.pow10Tab:=by kernel_rfl
theorem Yt{n:Int}{r:ai}(h:TD n=some r):CC Pg GE 98 [.int .i64 n] (.str r) []:=by
 rcases qaX h with⟨b,h⟩|⟨b,h⟩
 ·obtain rfl:=lf h
  simp only[vad,vao]at b
  refine CC.grownIS call98 λE Γ bs ow w a st hE hS=>?_
  have htab:Lib.TabIs Pg w "internal/strconv.uint64pow10" .u64 Lib.pow10Tab:=qaN hS (g:=0) (by rw[hE,←Xh];simp[GE]) (by kernel_rfl)
  refine(Any.strconv_Itoa Tryz.laysM171 n b.1 b.2 w htab).mono λe w' he=>?_
  obtain⟨rfl,k,os,rfl⟩:=he
  exact⟨rfl,.of_grow _ _ _⟩
 ·cases h
open Go
abbrev G6(GE:List (Nat×List PVal))(Γ:aP)(w:World):lh:=⟨GE,Γ,w,λ_=>False⟩
structure Ms(GE:List (Nat×List PVal))(Γ:aP)(w:World):Prop where
 wi:∀b n,Γ b=some n->∃c t fr,w.heap[b]? =some (.cells c t fr)/\n<=c.size
 gl:∀g cs,(g,cs)∈GE->VR Γ [] w (.eptr cs) (.pointer (some ⟨g,0,none⟩))
 gc:∀g cs,(g,cs)∈GE->gZ 0 cs
 gx:∀g cs,(g,cs)∈GE->g<w.heap.size/\∃c t fr,w.heap[g]? =some (.cells c t fr)/\c.size=cs.length
theorem VR.clo{Γ:aP}{bs bs':be}{w:World}{p:PVal}{v:Value}(h:VR Γ bs w p v)(hc:p.cl 0):VR Γ bs' w p v:=h.restrict (n:=0) hc λi b hi _=>absurd hi (vaS _)
section
variable{P:Program}{E:lh}{Γ:aP}{bs:be}{ow:Nat->Option iL}{w:World}{a:Array Value}{st:aB}
theorem SR.base(h:SR P E Γ bs ow w a st):Ms E.GE Γ w where
 wi:=h.wi
 gl:=λg cs hg=>(h.gl g cs hg).clo (by simp only[PVal.cl];exact h.gc g cs hg)
 gc:=h.gc
 gx:=λg cs hg=>⟨(h.gnow hg).1,(h.gnow hg).2.2.2⟩
theorem Ms.good{GE:List (Nat×List PVal)}(hB:Ms GE Γ w):nj GE 0 (G6 GE Γ w) where
 ge:=rfl
 low:=λb n h=>by obtain⟨c,t,fr,h1,_⟩:=hB.wi b n h;exact(vaj.1 h1).1
 nt:=λ_ _ hb=>hb
 gl:=hB.gl
theorem Ms.fresh{GE:List (Nat×List PVal)}(hB:Ms GE Γ w)(k:Nat){tmps:List PVal}(hs:a.size=tmps.length)(hv:∀(t:Nat) p v,tmps[t]? =some p->a[t]? =some v->VR Γ [] w p v):SR P (G6 GE Γ w) Γ (List.replicate k none) (λ_=>none) w a ⟨tmps,List.replicate k .dead,[]⟩:=by
 have hno:∀(i b:Nat),(List.replicate k (none:Option Nat))[i]? =some (some b)->False:=λi b h=>by
  rw[vaW]at h
  split at h<;>simp at h
 exact{
  wi:=hB.wi
  sz:=hs
  tm:=λt p v hp hv'=>(hv t p v hp hv').mono (.refl _ _) (λi b h=>by simp at h)
  bl:=by simp
  bx:=λi b B hb=>(hno i b hb).elim
  inj:=λi j b hb=>(hno i b hb).elim
  bn:=λi b hb=>(hno i b hb).elim
  on:=λb L hL=>by cases hL
  ot:=λt k e he=>by simp at he
  ob:=λi j e cs own b _ _ hb=>(hno i b hb).elim
  gl:=λg cs hg=>(hB.gl g cs hg).mono (.refl _ _) (λi b h=>by simp at h)
  gc:=hB.gc
  gx:=λg cs hg=>⟨(hB.gx g cs hg).1,λh=>h,(hB.gx g cs hg).2⟩
  step:=.refl _ _ _ _}
theorem SR.again(h:SR P E Γ bs ow w a st)(hc:gZ 0 st.tmps){GE:List (Nat×List PVal)}{Γ':aP}{w':World}(hB:Ms GE Γ' w')(hle:Γ.Le w Γ' w')(k:Nat):SR P (G6 GE Γ' w') Γ' (List.replicate k none) (λ_=>none) w' a ⟨st.tmps,List.replicate k .dead,[]⟩:=
 hB.fresh k h.sz λt p v hp hv=>((h.tm t p v hp hv).clo (kr hc hp)).mono hle (.refl _)
theorem SR.aside(h:SR P E Γ bs ow w a st){GE:List (Nat×List PVal)}{Γ':aP}{bs':be}{ow':Nat->Option iL}{w':World}{a':Array Value}{st':aB}(h':SR P (G6 GE Γ w) Γ' bs' ow' w' a' st'):SR P E Γ' bs ow w' a st:=
 h.world (λ_=>False) h'.step.le h'.wi h'.step.os h'.step.tape h'.step.output h'.step.size (λb hb _=>h'.step.keep b hb id) (λ_ hx=>hx.elim) (λ_ _ _ hx=>hx) (λ_ _ _ hx=>hx) h'.step.drawn
theorem SR.putOther(h:SR P E Γ bs ow w a st){l:Nat}{o:Obj}(hT:¬aN bs ow l)(hE:E.T l\/E.w.heap.size<=l)(ho:∀c t fr,w.heap[l]? ≠some (.cells c t fr)):SR P E Γ bs ow (w.putObj l o) a st/\Γ.Le w Γ (w.putObj l o):=by
 have hg:∀b n,Γ b=some n->b≠l:=λb n hb e=>by
  obtain⟨c,t,fr,h1,_⟩:=h.wi b n hb
  exact ho c t fr (e▸h1)
 have hle:Γ.Le w Γ (w.putObj l o):=λb n hb _=>⟨n,hb,var _,λk _=>bZ (World.putObj_heap_other (hg b n hb)) k⟩
 refine⟨h.world (λb=>b=l) hle (λb n hb=>?_) rfl rfl rfl (by simp) (λb _ hb=>⟨World.putObj_heap_other hb,rfl⟩) (λb hb=>hb▸hE) (λi b hb e=>hT (.inl ⟨i,e▸hb⟩)) (λb L hL e=>hT (.inr (by rw[<-e,hL];simp))),hle⟩
 obtain⟨c,t,fr,h1,h2⟩:=h.wi b n hb
 exact⟨c,t,fr,(World.putObj_heap_other (hg b n hb)).trans h1,h2⟩
theorem SR.rebase(h:SR P E Γ bs ow w a st):SR P ⟨E.GE,Γ,w,aN bs ow⟩ Γ bs ow w a st:=
 { h with
  bn:=λi b hb=>.inl (.inl ⟨i,hb⟩)
  on:=λb L hL=>⟨(h.on b L hL).1,.inl (.inr (by rw[hL];simp))⟩
  gx:=λg cs hg=>by
   obtain⟨k1,k2,k3,k4⟩:=h.gnow hg
   refine⟨k1,λhT=>?_,k4⟩
   rcases hT with⟨i,hi⟩|hT
   ·exact k2 i g hi rfl
   ·exact hT k3
  step:=.refl _ _ _ _}
theorem SR.touchE(h:SR P E Γ bs ow w a st){b:Nat}(hb:aN bs ow b):E.T b\/E.w.heap.size<=b:=by
 rcases hb with⟨i,hi⟩|hb
 ·exact h.bn i b hi
 ·cases hL:ow b with
  |none=>exact absurd hL hb
  |some L=>exact(h.on b L hL).2
theorem SR.unbase(h:SR P E Γ bs ow w a st){Γ':aP}{bs':be}{ow':Nat->Option iL}{w':World}{a':Array Value}{st':aB}(h':SR P ⟨E.GE,Γ,w,aN bs ow⟩ Γ' bs' ow' w' a' st'):SR P E Γ' bs' ow' w' a' st':=by
 have hT:∀b,aN bs ow b\/w.heap.size<=b->E.T b\/E.w.heap.size<=b:=λb hb=>hb.elim h.touchE λhb=>.inr (vaH h.step.size hb)
 exact{h' with
  bn:=λi b hb=>hT b (h'.bn i b hb)
  on:=λb L hL=>⟨(h'.on b L hL).1,hT b (h'.on b L hL).2⟩
  gx:=h.gx
  step:={
   os:=h'.step.os.trans h.step.os
   tape:=h'.step.tape.trans h.step.tape
   output:=h'.step.output.trans h.step.output
   size:=vaH h.step.size h'.step.size
   drawn:=vaH h.step.drawn h'.step.drawn
   keep:=λb hb hTb=>by
    have hlt:b<w.heap.size:=vaM hb h.step.size
    have hn:¬aN bs ow b:=λhx=>(h.touchE hx).elim hTb λhx=>absurd hx (vcD.2 hb)
    obtain⟨k1,k2⟩:=h'.step.keep b hlt hn
    obtain⟨q1,q2⟩:=h.step.keep b hb hTb
    exact⟨k1.trans q1,k2.trans q2⟩
   le:=h.step.le.trans h'.step.le}}
theorem d8.on{m:Nat}{c:Code}{Q:Exit->aB->Prop}(hS:d8 P E.GE m c Q st)(hm:m≠0)(h:SR P E Γ bs ow w a st)(hl:m % 1000<=bs.length)(ro:Option Nat)(ds:List Deferred):He ro P c (λe a' w'=>a'.defers=ds/\∃Γ' bs' ow' st',SR P E Γ' bs' ow' w' a'.tmps st'/\Q e st'/\(∀i:Nat,i<m % 1000->bs'[i]? =bs[i]?)/\Γ.Le w Γ' w'/\w.heap.size<=w'.heap.size/\
   ∀b,b<w.heap.size->¬aN bs ow b->w'.heap[b]? =w.heap[b]?/\¬aN bs' ow' b) ⟨a,ds⟩ w:=by
 have hE:nj E.GE m ⟨E.GE,Γ,w,aN bs ow⟩:={
  ge:=rfl
  low:=λb n hb=>h.lt_of_ghost hb
  nt:=λh0=>absurd h0 hm
  gl:=h.base.gl}
 have hlen:(bs.take (m % 1000)).length=m % 1000:=by simp;omega
 refine ek (hS ro ⟨E.GE,Γ,w,aN bs ow⟩ (bs.take (m % 1000)) ⟨a,ds⟩ w hE hlen ⟨Γ,bs,ow,h.rebase,λi hi=>?_⟩) λe a' w' hq=>?_
 ·rw[vap (by omega)]
 obtain⟨hd,st',⟨Γ',bs',ow',h',hk⟩,hQ⟩:=hq
 refine⟨hd,Γ',bs',ow',st',h.unbase h',hQ,λi hi=>?_,h'.step.le,h'.step.size,λb hb hT=>⟨(h'.step.keep b hb hT).1,λhx=>?_⟩⟩
 ·rw[hk i (by omega),vap hi]
 ·exact(h'.touchE hx).elim hT λhx=>absurd hx (vcD.2 hb)
theorem d8.wide{GE:List (Nat×List PVal)}{c:Code}{Q:Exit->aB->Prop}{st0:aB}(hS:d8 P GE 0 c Q st0)(hB:Ms GE Γ w){ow:Nat->Option iL}{bs:be}(h:SR P (G6 GE Γ w) Γ bs ow w a st0)(n:Nat)(ds:List Deferred):c.wpIn Fence.wide n P (λe a' w'=>a'.defers=ds/\∃Γ' bs' ow' st',SR P (G6 GE Γ w) Γ' bs' ow' w' a'.tmps st'/\Q e st') ⟨a,ds⟩ w:=
 wpIn_wide.2 (wp_mono (hS none (G6 GE Γ w) [] ⟨a,ds⟩ w hB.good rfl ⟨Γ,bs,ow,h,λi hi=>absurd hi (vaS _)⟩) λe a' w' hq=>by
  obtain⟨hd,st',⟨Γ',bs',ow',h',_⟩,hQ⟩:=hq
  exact⟨hd,Γ',bs',ow',st',h',hQ⟩)
theorem d8.wideE{GE:List (Nat×List PVal)}{c:Code}{Q:Exit->aB->Prop}(hS:d8 P GE 0 c Q st)(hE:nj GE 0 E)(h:SR P E Γ bs ow w a st)(n:Nat)(ds:List Deferred):c.wpIn Fence.wide n P (λe a' w'=>a'.defers=ds/\∃Γ' bs' ow' st',SR P E Γ' bs' ow' w' a'.tmps st'/\Q e st') ⟨a,ds⟩ w:=
 wpIn_wide.2 (wp_mono (hS none E [] ⟨a,ds⟩ w hE rfl ⟨Γ,bs,ow,h,λi hi=>absurd hi (vaS _)⟩) λe a' w' hq=>by
  obtain⟨hd,st',⟨Γ',bs',ow',h',_⟩,hQ⟩:=hq
  exact⟨hd,Γ',bs',ow',st',h',hQ⟩)
theorem SR.allocO(h:SR P E Γ bs ow w a st)(o:Obj):SR P E Γ bs ow (w.alloc o) a st/\Γ.Le w Γ (w.alloc o):=by
 have hlt:∀b n,Γ b=some n->b<w.heap.size:=λb n hb=>h.lt_of_ghost hb
 have hle:Γ.Le w Γ (w.alloc o):=λb n hb _=>⟨n,hb,var _,λk _=>bZ (dF w o (hlt b n hb)) k⟩
 refine⟨h.world (λ_=>False) hle (λb n hb=>?_) rfl rfl rfl (by simp[World.size_alloc]) (λb hb _=>⟨dF w o hb,rfl⟩) (λ_ hx=>hx.elim) (λ_ _ _ hx=>hx) (λ_ _ _ hx=>hx),hle⟩
 obtain⟨c,t,fr,h1,h2⟩:=h.wi b n hb
 exact⟨c,t,fr,(dF w o (hlt b n hb)).trans h1,h2⟩
theorem SR.forgetT(h:SR P E Γ bs ow w a st){tm:List PVal}(hf:Mr st.tmps tm=tm):SR P E Γ bs ow w a {st with tmps:=tm}:=
 { h with
  sz:=by rw[h.sz,<-Pr (l:=st.tmps) (bs:=tm),hf]
  tm:=λt p v hp hv=>by
   rw[<-hf]at hp
   rcases Pq hp with rfl|hp'
   ·exact .undef v
   ·exact h.tm t p v hp' hv}
theorem SR.back(h:SR P E Γ bs ow w a st)(ho:st.own=[]){Γ':aP}{bs':be}{ow':Nat->Option iL}{w':World}{a':Array Value}{st':aB}{H':List aA}(h':SR P E Γ' bs' ow' w' a' st')(hle:Γ.Le w Γ' w')
  (hbs:∀i:Nat,i<bs.length->bs'[i]? =bs[i]?) (hH:dg H'.length st'.boxes H') (hl:H'.length=bs.length):
  ∃ow'',SR P E Γ' bs ow'' w' a {st with boxes:=H'}/\∀b,aN bs ow'' b->aN bs' ow' b:=by
 have hf:=h'.finish (H':=H') (v:=undef) (r:=.undef) (src:=λk=>(0,k)) (ro:=[]) (.undef _) trivial hH (λx hx=>by simp at hx) (λx hx=>by simp at hx)
 have hb:bs'.take H'.length=bs:=by
  obtain⟨h1,_⟩:=mc hH
  have h2:H'.length<=bs'.length:=by rw[h'.bl];exact h1
  refine vbf λi=>?_
  by_cases hi:i<H'.length
  ·rw[vap hi];exact hbs i (by omega)
  ·rw[vcr (by omega),vaK (by omega)]
 rw[hb]at hf
 refine⟨_,{hf with
  sz:=h.sz
  tm:=λt p v hp hv=>(h.tm t p v hp hv).mono hle (.refl _)
  ot:=λt k e he=>by simp only[ho]at he;simp at he},λb hb=>?_⟩
 rcases hb with⟨i,hi⟩|hb
 ·exact .inl ⟨i,(hbs i (aq hi)).trans hi⟩
 ·refine .inr λe=>hb ?_
  simp[wy,e]
end
section
variable{P:Program}{n:Nat}{a:Act}{w:World}{next:Act->World->Prop}{Q:Exit->Act->World->Prop}
theorem UN{o:Oper}(hd:ee o=true)(h:o.wp P a w next Q):o.wpIn Fence.wide n P a w next Q:=by
 refine⟨λ_ _=>trivial,?_⟩
 have hs:o.semAt (Fence.wide).round a.eval=execOp a.eval o:=Oper.semAt_eq _ _ _ λc hc=>by unfold ee at hd;rw[hc]at hd;cases hd
 rw[hs]
 unfold Oper.wp at h
 generalize (execOp a.eval o).run P w=r at *
 have hdep:(Fence.wide).depth.isSome=true->1<=n:=λh=>by simp[Fence.wide]at h
 cases r with
 | ok x w' =>
  cases x<;>simp only[Oper.upon]at h<;>simp only[Oper.uponIn]<;>first
   |exact h.elim
   |exact h
   |exact⟨hdep,callsIn_wide.2 h⟩
   | exact ⟨hdep,fun c cs _ => by
     obtain⟨v,w',r,s⟩:=h c cs
     exact⟨v,w',r,stepsIn_wide.2 s⟩⟩
 |halt x w'=>cases x<;>simp only[Oper.upon]at h<;>simp only[Oper.uponIn]<;>exact h
theorem S6{o:Oper}{f:Operand}{args:Array Operand}{tys:Array TypeId}(ho:o.op=.call {callee:=.value f,args:=args,argTypes:=tys}){l:Nat}(hf:a.eval f=.func (.yield l) #[] #[])
  {R:Ending->World->Prop} (h:YieldAt Fence.wide (n - 1) P l (args.map a.eval) w R) (hR:∀e w',R e w'->∃v,e=.returned v/\next (a.put o.dst v) w'):o.wpIn Fence.wide n P a w next Q:=by
 refine⟨λ_ _=>trivial,?_⟩
 have hs:o.semAt (Fence.wide).round a.eval=execOp a.eval o:=Oper.semAt_eq _ _ _ λc hc=>by rw[ho]at hc;cases hc
 obtain⟨fn,tmps,assign,body,hy,hr⟩:=h
 have hrun:(execOp a.eval o).run P w=.ok (.round l fn tmps assign body) w:=by
  simp[execOp,ho,resolve,hf,Deferred.ofValue,invoke,hy]
 rw[hs,hrun,Oper.uponIn_round]
 refine⟨λh=>by simp[Fence.wide]at h,hr.mono λe w' hr=>?_⟩
 obtain⟨v,rfl,hx⟩:=hR e w' hr
 exact hx
theorem LL{ops:Array Oper}{i:Nat}{rest:List Nat}{o:Oper}(ho:ops[i]? =some o)(hg:o.guard=none)(h:o.wpIn Fence.wide n P a w (wpOpsIn Fence.wide n P ops Q rest) Q):wpOpsIn Fence.wide n P ops Q (i::rest) a w:=by
 unfold wpOpsIn
 simp only[ho,Region.wanted,hg,if_true]
 exact h
theorem HH{E:lh}{A:List Nat}{ops:Array Oper}{K:aB->Prop}{rest:List Nat}{ds:List Deferred}
  (hK:∀Γ bs ow a w st,SR P E Γ bs ow w a st->K st->wpOpsIn Fence.wide n P ops Q rest ⟨a,ds⟩ w):
  ∀(L:List Oper) (is:List Nat) (Γ:aP) (bs:be) (ow:Nat->Option iL) (a:Array Value) (w:World) (st:aB),is.map (λi=>ops[i]?)=L.map some->
   (∀o∈L,o.guard=none/\ee o=true/\aE o.op=false)->SR P E Γ bs ow w a st->cU P E.GE A ops K L 0 st->wpOpsIn Fence.wide n P ops Q (is++rest) ⟨a,ds⟩ w
 |[],[],Γ,bs,ow,a,w,st,_,_,h,hp=>hK Γ bs ow a w st h hp
 |o::L,i::is,Γ,bs,ow,a,w,st,hi,hg,h,hp=>by
  obtain⟨g1,g2,g3⟩:=hg o (by simp)
  unfold cU at hp
  simp only[g1]at hp
  simp only[vaz,vbN]at hi
  refine LL hi.1 g1 (UN g2 (Oper.wp_mono (λa' w' hA=>?_) (FO (a:=⟨a,ds⟩) h (λhm=>by rw[g3]at hm;cases hm) hp Q)))
  obtain⟨hd,Γ',bs',ow',st',h1,h2,_⟩:=hA
  obtain⟨a1,ds1⟩:=a'
  simp only at hd h1
  subst hd
  refine HH (A:=A) hK L is Γ' bs' ow' a1 w' st' hi.2 (λo ho=>hg o (vaZ _ ho)) h1 ?_
  rw[g3]at h2
  exact h2
end
def rF:Code->Array Oper
 |.region _ ops _=>ops
 |_=>#[]
def qeE:Code->Nat
 |.region id _ _=>id
 |_=>0
def JY(c:Code)(i:Nat):Oper:=(rF c)[i]?.getD default
def qct(o:Oper):Array TypeId:=match o.op with
 |.call c=>c.argTypes
 |_=>#[]
def HK(o:Oper):Bool:=o.guard.isNone&&ee o&&!aE o.op
theorem N7{L:List Oper}(h:L.all HK=true):∀o∈L,o.guard=none/\ee o=true/\aE o.op=false:=λo ho=>by
 have:=vas.1 h o ho
 simpa[HK,and_assoc]using this
theorem pL{P:Program}{GE:List (Nat×List PVal)}{A:List Nat}{ops:Array Oper}{K K':aB->Prop}(hK:∀st,K st->K' st):∀(L:List Oper) (id:Nat) (st:aB),cU P GE A ops K L id st->cU P GE A ops K' L id st
 |[],_,st,h=>hK st h
 | o :: L,id,st,h => by
  unfold cU at h ⊢
  split at h
  ·exact p8 (λst hx=>pL hK L _ st hx) h
  ·split at h
   ·exact⟨λhx=>p8 (λst hx=>pL hK L _ st hx) (h.1 hx),λhx=>pL hK L _ _ (h.2 hx)⟩
   ·exact h
theorem TW{P:Program}{GE:List (Nat×List PVal)}{A:List Nat}{ops:Array Oper}{L:List Oper}{st st0:aB}{sc:List It}{F:Prop}(h:PS sc F)(he:F=Id P GE A ops (λ_ st=>FG st st0) L 0 0 sc st):cU P GE A ops (λst=>FG st st0) L 0 st:=
 pL (λst ⟨_,hx⟩=>hx) L 0 st (sL L 0 0 sc st (Eq.mp he h))
theorem FG.sr{P:Program}{E:lh}{Γ:aP}{bs:be}{ow:Nat->Option iL}{w:World}{a:Array Value}{st st0:aB}(h:SR P E Γ bs ow w a st)(hf:FG st st0):∃Γ' bs' ow',SR P E Γ' bs' ow' w a st0:=by
 obtain⟨Γ',bs',ow',h',_⟩:=(hf.weak (P:=P) (m:=0)) E [] ⟨a,[]⟩ w rfl ⟨Γ,bs,ow,h,λi hi=>absurd hi (vaS _)⟩
 exact⟨Γ',bs',ow',h'⟩
def qcq:Code->Code
 |.rangeFunc _ _ a _=>a
 |_=>.skip
def qcr:Code->Code
 |.rangeFunc _ _ _ b=>b
 |_=>.skip
theorem ip{w:World}{b:Nat}{o:Obj}(h:w.heap[b]? =some o):b<w.heap.size:=(vaj.1 h).1
structure Sd(P:Program)(GE:List (Nat×List PVal)){S:Type}(J:Bool->S->aP->World->Prop):Prop where
 base:∀b s Γ w,J b s Γ w->Ms GE Γ w
 side:∀b s Γ w,J b s Γ w->∀Γ' bs' ow' w' a' st',SR P (G6 GE Γ w) Γ' bs' ow' w' a' st'->J b s Γ' w'
def VG(P:Program){S:Type}(J:Bool->S->aP->World->Prop)(Γ0:aP)(w0:World)(b:Bool)(s:S)(st:aB)(a:Array Value)(w:World):Prop:=∃Γ,J b s Γ w/\Γ0.Le w0 Γ w/\∃E bs ow,SR P E Γ bs ow w a st
structure Dg(st:aB)(k:Nat):Prop where
 c:gZ 0 st.tmps
 b:st.boxes=List.replicate k .dead
 o:st.own=[]
abbrev qE(l:Nat):PVal:=.val (.func (.yield l) #[] #[])
section
variable{P:Program}{GE:List (Nat×List PVal)}{S:Type}{J:Bool->S->aP->World->Prop}{l:Nat}{Γ0:aP}{w0:World}{b:Bool}{s:S}{st0 st1 stA stB:aB}{k kA kB:Nat}{a:Array Value}{w:World}{n:Nat}{ds:List Deferred}
theorem qaV{N:Nat}{L:List (Nat×PVal)}(h:Yb 0 L)(k:Nat){H:List aA}(hH:H=List.replicate k .dead):Dg (aO N L H []) k:=⟨yL h,hH,rfl⟩
theorem VG.again(hY:Sd P GE J)(hD:Dg st0 k)(h:VG P J Γ0 w0 b s st0 a w):∃Γ,J b s Γ w/\Γ0.Le w0 Γ w/\SR P (G6 GE Γ w) Γ (List.replicate k none) (λ_=>none) w a st0:=by
 obtain⟨Γ,hJ,hle,E,bs,ow,hS⟩:=h
 obtain⟨tm,H,own⟩:=st0
 have hb:H=_:=hD.b
 have ho:own=[]:=hD.o
 subst hb;subst ho
 exact⟨Γ,hJ,hle,hS.again hD.c (hY.base _ _ _ _ hJ) (.refl _ _) k⟩
theorem VG.piece(hY:Sd P GE J){c:Code}{e:Exit}(hS:d8 P GE 0 c (EX e st1) st0)(hD:Dg st0 k)(h:VG P J Γ0 w0 b s st0 a w):c.wpIn Fence.wide n P (λe' a' w'=>e'=e/\a'.defers=ds/\VG P J Γ0 w0 b s st1 a'.tmps w') ⟨a,ds⟩ w:=by
 obtain⟨Γ,hJ,hle,hR⟩:=h.again hY hD
 refine wpIn_mono (hS.wide (hY.base _ _ _ _ hJ) hR n ds) ?_
 rintro e' a' w' ⟨hd,Γ',bs',ow',st',h',rfl,rfl⟩
 exact⟨rfl,hd,Γ',hY.side _ _ _ _ hJ _ _ _ _ _ _ h',hle.trans h'.step.le,_,_,_,h'⟩
theorem VG.reg(hY:Sd P GE J){id:Nat}{ops:Array Oper}{is1 is2:List Nat}{i:Nat}{L1 L2:List Oper}{o:Oper}(hrg:List.range ops.size=is1++i::(is2++[]))
  (p1:is1.map (λi=>ops[i]?)=L1.map some) (p2:L1.all HK=true) (ho:ops[i]? =some o) (hg:o.guard=none) (q1:is2.map (λi=>ops[i]?)=L2.map some) (q2:L2.all HK=true)
  (hD:Dg st0 k) (hDB:Dg stB kB) (hpre:cU P GE [] ops (λst=>FG st stA) L1 0 st0) (hsuf:cU P GE [] ops (λst=>FG st st1) L2 0 stB) {r:Bool×S}
  (hcall:∀a w (next:Act->World->Prop) (Q:Exit->Act->World->Prop),VG P J Γ0 w0 b s stA a w->(∀a' w',VG P J Γ0 w0 r.1 r.2 stB a' w'->next ⟨a',ds⟩ w')->o.wpIn Fence.wide n P ⟨a,ds⟩ w next Q)
  (h:VG P J Γ0 w0 b s st0 a w):(Code.region id ops false).wpIn Fence.wide n P (λe' a' w'=>e'=.normal/\a'.defers=ds/\VG P J Γ0 w0 r.1 r.2 st1 a'.tmps w') ⟨a,ds⟩ w:=by
 refine wpIn_region ?_
 rw[hrg]
 obtain⟨Γ,hJ,hle,hS⟩:=h.again hY hD
 refine HH (A:=[]) (K:=λst=>FG st stA) (λΓ' bs' ow' a' w' st hS' hK=>?_) _ _ Γ _ _ a w st0 p1 (N7 p2) hS hpre
 obtain⟨Γ2,bs2,ow2,hS2⟩:=FG.sr hS' hK
 refine LL ho hg (hcall a' w' _ _ ⟨Γ2,hY.side _ _ _ _ hJ _ _ _ _ _ _ hS2,hle.trans hS2.step.le,_,_,_,hS2⟩ λa3 w3 h3=>?_)
 obtain⟨Γ3,hJ3,hle3,hS3⟩:=h3.again hY hDB
 refine HH (A:=[]) (K:=λst=>FG st st1) (λΓ' bs' ow' a' w' st hS' hK=>?_) _ _ Γ3 _ _ a3 w3 stB q1 (N7 q2) hS3 hsuf
 obtain⟨Γ4,bs4,ow4,hS4⟩:=FG.sr hS' hK
 exact⟨rfl,rfl,Γ4,hY.side _ _ _ _ hJ3 _ _ _ _ _ _ hS4,hle3.trans hS4.step.le,_,_,_,hS4⟩
theorem VG.ev(h:VG P J Γ0 w0 b s st0 a w){t:Nat}{x:Bool}(ht:st0.tmps.getD t .undef=.bool x):(Act.mk a ds).eval (.tmp t)=.bool x:=by
 obtain⟨Γ,hJ,hle,E,bs,ow,hS⟩:=h
 have h1:=hS.opv ds (.tmp t)
 have e1:opv E.GE st0.tmps (.tmp t)=.bool x:=ht
 rw[e1]at h1
 generalize (Act.mk a ds).eval (.tmp t)=v at h1
 cases h1
 rfl
theorem VG.put(hY:Sd P GE J)(hD:Dg stA kA){Γ Γ':aP}{w':World}{E:lh}{bs:be}{ow:Nat->Option iL}(hS:SR P E Γ bs ow w a stA)(hle:Γ0.Le w0 Γ w)(hle':Γ.Le w Γ' w'){r:Bool×S}(hJ':J r.1 r.2 Γ' w'){d:Nat}(hB:stB=⟨stA.tmps.set d (.bool r.1),List.replicate kA .dead,[]⟩):VG P J Γ0 w0 r.1 r.2 stB (a.setIfInBounds d (.bool r.1)) w':=by
 have hS':=(hS.again hD.c (hY.base _ _ _ _ hJ') hle' kA).set (d:=d) (p:=.bool r.1) (v:=.bool r.1) (.bool _)
 exact⟨Γ',hJ',hle.trans hle',_,_,_,hB▸hS'⟩
theorem VG.yield2(hY:Sd P GE J)(hD:Dg stA kA){r:Bool×S}{i:Int}{cs:List PVal}(hcl:gZ 0 cs)
  (hy:∀Γ w v,J true s Γ w->VR Γ [] w (.agg cs) v->YieldAt Fence.wide (n - 1) P l #[.int .i64 i,v] w λe w'=>∃Γ',e=.returned (.bool r.1)/\Γ.Le w Γ' w'/\J r.1 r.2 Γ' w')
  {o:Oper} {f x y d:Nat} {tys:Array TypeId} (h7:stA.tmps.getD f .undef=qE l) (h8:stA.tmps.getD x .undef=.int .i64 i) (h9:stA.tmps.getD y .undef=.agg cs)
  (ho:o.op=.call {callee:=.value (.tmp f),args:=#[.tmp x,.tmp y],argTypes:=tys}) (hd:o.dst=some d) (hB:stB=⟨stA.tmps.set d (.bool r.1),List.replicate kA .dead,[]⟩)
  {next:Act->World->Prop} {Q:Exit->Act->World->Prop} (h:VG P J Γ0 w0 true s stA a w) (hn:∀a' w',VG P J Γ0 w0 r.1 r.2 stB a' w'->next ⟨a',ds⟩ w'):o.wpIn Fence.wide n P ⟨a,ds⟩ w next Q:=by
 obtain⟨Γ,hJ,hle,hS⟩:=h.again hY hD
 have h1:=hS.opv ds (.tmp f)
 have h2:=hS.opv ds (.tmp x)
 have h3:=hS.opv ds (.tmp y)
 have e1:opv (G6 GE Γ w).GE stA.tmps (.tmp f)=qE l:=h7
 have e2:opv (G6 GE Γ w).GE stA.tmps (.tmp x)=.int .i64 i:=h8
 have e3:opv (G6 GE Γ w).GE stA.tmps (.tmp y)=.agg cs:=h9
 rw[e1]at h1;rw[e2]at h2;rw[e3]at h3
 have hev:(Act.mk a ds).eval (.tmp f)=.func (.yield l) #[] #[]:=by
  generalize (Act.mk a ds).eval (.tmp f)=v at h1
  cases h1;rfl
 have hex:(Act.mk a ds).eval (.tmp x)=.int .i64 i:=by
  generalize (Act.mk a ds).eval (.tmp x)=v at h2
  cases h2;rfl
 refine S6 ho hev (R:=λe w'=>∃Γ',e=.returned (.bool r.1)/\Γ.Le w Γ' w'/\J r.1 r.2 Γ' w') ?_ ?_
 ·have:=hy Γ w _ hJ (h3.clo (by simp only[PVal.cl];exact hcl))
  simpa[hex]using this
 ·rintro e w' ⟨Γ',rfl,hle',hJ'⟩
  refine⟨_,rfl,?_⟩
  rw[hd]
  exact hn _ _ (VG.put hY hD hS hle hle' hJ' hB)
end
def S3{α S:Type}(step:S->α->Option (Bool×S)):List α->S->Option (Bool×S)
 |[],s=>some (true,s)
 |x::l,s=>(step s x).bind λr=>match r.1 with
  |false=>some (false,r.2)
  |true=>S3 step l r.2
theorem XB{α:Type}(l:List α){j:Nat}(h:j<l.length):(l.take (j+1)).reverse=l[j]::(l.take j).reverse:=by
 rw[vay h,vc2];rfl
end Go.Proofs.YtkdahfeiedaahaaGreatDoor
