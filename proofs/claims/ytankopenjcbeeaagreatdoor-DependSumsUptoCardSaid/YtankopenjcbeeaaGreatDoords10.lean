/- PROVED: a part of the proof. Conditions: none. -/
import Derived.Test.YtankopenjcbeeaaGreatDoords9
import Derived.Test.YtankopenjcbeeaaGreatDoorChecked
import Derived.RangeFuncRecord
import Derived.RangeFuncSeq
set_option linter.unusedSimpArgs false
set_option linter.unusedVariables false
noncomputable section
namespace Go.Proofs.YtankopenjcbeeaaGreatDoor
open Go
class K0 (p:PVal):Prop where h:p.cl 0
class K0l (l:List PVal):Prop where h:eP 0 l
class KE {α:Type} (c:α->List PVal):Prop where h:∀x,eP 0 (c x)
class KF {α:Type} (f:α->PVal):Prop where h:∀x,(f x).cl 0
class LTc (i n:Nat):Prop where h:i<n
class ATc (ρ:List Nat) (i:Nat) (j:outParam Nat):Prop where h:ρ[i]? =some j
instance iq1{n:Nat}:LTc 0 (n+1):=⟨by omega⟩
instance iq2{i n:Nat}[q:LTc i n]:LTc (i+1) (n+1):=⟨by have:=q.h;omega⟩
instance iq3{j:Nat}{ρ:List Nat}:ATc (j::ρ) 0 j:=⟨rfl⟩
instance iq4{i j k:Nat}{ρ:List Nat}[q:ATc ρ i j]:ATc (k::ρ) (i+1) j:=⟨by simpa using q.h⟩
instance iq6{k:IntKind}{n:Int}:K0 (.int k n):=⟨vzz⟩
instance iq7{b:Bool}:K0 (.bool b):=⟨vzz⟩
instance iq8{s:ac}:K0 (.str s):=⟨vzz⟩
instance iq9{v:Value}:K0 (.val v):=⟨vzz⟩
instance iq10{l:List PVal}[q:K0l l]:K0 (.agg l):=⟨q.h⟩
instance iq11{l:List PVal}[q:K0l l]:K0 (.tuple l):=⟨q.h⟩
instance iq12{l:List PVal}[q:K0l l]:K0 (.eptr l):=⟨q.h⟩
instance iq13{fn:Fn}{f c:List PVal}[q:K0l f][q':K0l c]:K0 (.func fn f c):=⟨⟨q.h,q'.h⟩⟩
instance iq14:K0l []:=⟨vzz⟩
instance iq15{p:PVal}{l:List PVal}[q:K0 p][q':K0l l]:K0l (p::l):=⟨⟨q.h,q'.h⟩⟩
instance iq16{α:Type}{c:α->List PVal}{l:List α}[q:KE c]:K0 (sl c l):=⟨ak q.h l⟩
instance iq18{k:IntKind}:KE (cI k):=⟨RD k⟩
instance iq20:KE cS:=⟨eU⟩
instance iq22{α:Type}{c:α->List PVal}{l:List α}[q:KE c]:K0l (cL c l):=⟨qbX q.h l⟩
instance iq25{b:Bool}:K0l (cB b):=⟨qeN b⟩
instance iq26:KF PVal.bool:=⟨λ_=>trivial⟩
class KC (n:Nat) (p:PVal):Prop where h:p.cl n
class KCl (n:Nat) (l:List PVal):Prop where h:eP n l
class KCb (n:Nat) (B:ax):Prop where h:Tm n B
class KCs (n:Nat) (H:List ax):Prop where h:Hg n H
instance iq29{n:Nat}{p:PVal}[q:K0 p]:KC n p:=⟨up q.h⟩
instance iq30{n i off:Nat}[q:LTc i n]:KC n (.bptr i off):=⟨by simp only[PVal.cl];exact q.h⟩
instance iq32{n i:Nat}[q:LTc i n]:KC n (.mapr i):=⟨by simp only[PVal.cl];exact q.h⟩
instance iq33{n i:Nat}{T:TypeId}[q:LTc i n]:KC n (.nptr i T):=⟨by simp only[PVal.cl];exact q.h⟩
instance iq35{n:Nat}{l:List PVal}[q:KCl n l]:KC n (.tuple l):=⟨q.h⟩
instance iq36{n:Nat}{l:List PVal}[q:KCl n l]:KC n (.eptr l):=⟨q.h⟩
instance iq37{n:Nat}{fn:Fn}{f c:List PVal}[q:KCl n f][q':KCl n c]:KC n (.func fn f c):=⟨⟨q.h,q'.h⟩⟩
instance iq38{n:Nat}{l:List PVal}[q:K0l l]:KCl n l:=⟨cT q.h⟩
instance iq39{n:Nat}:KCl n []:=⟨vzz⟩
instance iq40{n:Nat}{p:PVal}{l:List PVal}[q:KC n p][q':KCl n l]:KCl n (p::l):=⟨⟨q.h,q'.h⟩⟩
instance iq41{n:Nat}:KCb n .dead:=⟨vzz⟩
instance iq42{n:Nat}{cs:List PVal}{own:List (Nat×TypeId)}[q:KCl n cs]:KCb n (.cells cs own):=⟨q.h⟩
instance iq43{n:Nat}{α:Type}{f:α->PVal}{l:List (ac×α)}[q:KF f]:KCb n (.map (bA f l)):=⟨Hh f q.h l⟩
instance iq45{n:Nat}:KCs n []:=⟨vzz⟩
instance iq46{n:Nat}{B:ax}{H:List ax}[q:KCb n B][q':KCs n H]:KCs n (B::H):=⟨⟨q.h,q'.h⟩⟩
class RXc (ρ:List Nat) (q:PVal) (p:outParam PVal):Prop where h:uP ρ p q
class RXl (ρ:List Nat) (q:List PVal) (p:outParam (List PVal)):Prop where h:CP ρ p q
class RXb (ρ:List Nat) (q:ax) (p:outParam ax):Prop where h:OH ρ p q
class RXs (ρ:List Nat) (q:List ax) (p:outParam (List ax)):Prop where h:pT ρ p q
instance iq47{ρ:List Nat}{p:PVal}[q:K0 p]:RXc ρ p p:=⟨xR ρ p q.h⟩
instance iq48{ρ:List Nat}{i j off:Nat}[q:ATc ρ i j]:RXc ρ (.bptr i off) (.bptr j off):=⟨xB ρ i j off q.h⟩
instance iq49{ρ:List Nat}{i j:Nat}[q:ATc ρ i j]:RXc ρ (.mapr i) (.mapr j):=⟨xM ρ i j q.h⟩
instance iq50{ρ:List Nat}{i j:Nat}{T:TypeId}[q:ATc ρ i j]:RXc ρ (.nptr i T) (.nptr j T):=⟨xN ρ i j T q.h⟩
instance iq52{ρ:List Nat}{fn:Fn}{f c f' c':List PVal}[q:RXl ρ f f'][q':RXl ρ c c']:RXc ρ (.func fn f c) (.func fn f' c'):=⟨xF ρ fn f' c' f c q.h q'.h⟩
instance iq53{ρ:List Nat}{l l':List PVal}[q:RXl ρ l l']:RXc ρ (.agg l) (.agg l'):=⟨xA ρ l' l q.h⟩
instance iq54{ρ:List Nat}{l:List PVal}[q:K0l l]:RXl ρ l l:=⟨qdD ρ l q.h⟩
instance iq55{ρ:List Nat}:RXl ρ [] []:=⟨vzz⟩
instance iq56{ρ:List Nat}{p p':PVal}{l l':List PVal}[q:RXc ρ p p'][q':RXl ρ l l']:RXl ρ (p::l) (p'::l'):=⟨⟨q.h,q'.h⟩⟩
instance iq57{ρ:List Nat}{cs cs':List PVal}{own:List (Nat×TypeId)}[q:RXl ρ cs cs']:RXb ρ (.cells cs own) (.cells cs' own):=⟨⟨rfl,q.h⟩⟩
instance iq58{ρ:List Nat}{α:Type}{f:α->PVal}{l:List (ac×α)}[q:KF f]:RXb ρ (.map (bA f l)) (.map (bA f l)):=⟨⟨rfl,Hh (n:=0) f q.h l⟩⟩
instance iq59{ρ:List Nat}:RXs ρ [] []:=⟨vzz⟩
instance iq60{ρ:List Nat}{B B':ax}{H H':List ax}[q:RXb ρ B B'][q':RXs ρ H H']:RXs ρ (B::H) (B'::H'):=⟨⟨q.h,q'.h⟩⟩
def HI(ρ:List Nat):List ax->List ax->Prop
 |[],[]=>True
 |B::Bs,Bc::Hc=>(B=B/\OH ρ B Bc)/\HI ρ Bs Hc
 |_,_=>False
theorem HI.of{ρ:List Nat}:∀{Bs Hc:List ax},pT ρ Bs Hc->HI ρ Bs Hc
 |[],[],_=>trivial
 |[],_::_,h=>h.elim
 |_::_,[],h=>h.elim
 |_::_,_::_,h=>⟨⟨rfl,h.1⟩,HI.of h.2⟩
section
variable{R:Type}{Lf:R->Prop}{oo:Option R}{tr:Tr R}{F:Prop}{P:Program}{GE:List (Nat×List PVal)}
theorem tc(ρ:List Nat){g:FuncId}{args argsC:List PVal}{Bs Hc Bs' Hc':List ax}{r rc:PVal}{ro:List (Nat×TypeId)}(ok:C P GE g argsC [] Hc rc ro Hc')[q1:RXl ρ argsC args][q2:RXs ρ Hc Bs][q3:RXs ρ Hc' Bs'][q4:RXc ρ rc r](z:PV Lf oo tr F):PV Lf oo (.it (.cg ⟨ρ,argsC,[],Bs,Hc,Bs',Hc',r,rc,ro⟩) tr) (C P GE g argsC [] Hc rc ro Hc'/\CP ρ args argsC/\HI ρ Bs Hc/\pT ρ Bs' Hc'/\uP ρ r rc/\F):=
 ⟨z.1,λq=>⟨ok,q1.h,.of q2.h,q3.h,q4.h,z.2 q⟩⟩
theorem qdu(ρ:List Nat){g:FuncId}{args argsC:List PVal}{Bs Hc Hc':List ax}{r rc:PVal}{ro:List (Nat×TypeId)}(ok:C P GE g argsC [] Hc rc ro Hc')[q1:RXl ρ argsC args][q2:RXs ρ Hc Bs][q3:RXs ρ Hc' Bs][q4:RXc ρ rc r](z:PV Lf oo tr F):PV Lf oo (.it (.cg ⟨ρ,argsC,[],Bs,Hc,Bs,Hc',r,rc,ro⟩) tr) (Bs=Bs/\C P GE g argsC [] Hc rc ro Hc'/\CP ρ args argsC/\HI ρ Bs Hc/\pT ρ Bs Hc'/\uP ρ r rc/\F):=
 ⟨z.1,λq=>⟨rfl,ok,q1.h,.of q2.h,q3.h,q4.h,z.2 q⟩⟩
end
class KS (m:Nat) (s:ay):Prop where h:decide (m % 1000<=s.boxes.length)=true/\eP s.boxes.length s.tmps/\Hg s.boxes.length s.boxes
def UD(m:Nat)(s:ay):Prop:=s.tmps=s.tmps/\s.boxes=s.boxes/\true=true/\decide (m % 1000<=s.boxes.length)=true/\eP s.boxes.length s.tmps/\Hg s.boxes.length s.boxes
theorem KS.f{m:Nat}{s:ay}(q:KS m s):UD m s:=⟨rfl,rfl,rfl,q.h⟩
def qed(m:Nat){σ X:Type}(S:σ->ay)(ex:X->Exit)(so:X->ay):σ⊕X->Prop
 |.inl s=>Exit.normal=Exit.normal/\UD m (S s)
 |.inr x=>false=false/\ex x=ex x/\UD m (so x)
def We(P:Program)(GE:List (Nat×List PVal))(f:FuncId)(args:List PVal){R:Type}(o:Option R)(res:R->PVal)(ro:List (Nat×TypeId)):Prop:=∀r:R,o=some r->CC P GE f args (res r) ro
def XU(P:Program)(GE:List (Nat×List PVal))(f:FuncId)(args:List PVal)(oa:List ((Nat×Nat)×TypeId))(H:List ax){R:Type}(o:Option R)(res:R->PVal)(ro:List (Nat×TypeId))(H':R->List ax):Prop:=∀r:R,o=some r->C P GE f args oa H (res r) ro (H' r)
def qcP(P:Program)(GE:List (Nat×List PVal))(f:FuncId)(args:List PVal){R:Type}(o:Option R)(res:R->PVal)(ro:List (Nat×TypeId))(H':R->List ax):Prop:=∀r:R,o=some r->CN P GE f args (res r) ro (H' r)
def ZQ(P:Program)(GE:List (Nat×List PVal))(m:Nat)(c:Code){X:Type}(o:Option X)(e:Exit)(so:X->ay)(st:ay):Prop:=∀x:X,o=some x->cC P GE m c (EX e (so x)) st
def ZR(P:Program)(GE:List (Nat×List PVal))(m:Nat)(c:Code){X:Type}(o:Option X)(ex:X->Exit)(so:X->ay)(st:ay):Prop:=∀x:X,o=some x->cC P GE m c (EX (ex x) (so x)) st
def Wd(P:Program)(GE:List (Nat×List PVal))(m:Nat)(c:Code){σ X:Type}(o:Option (σ⊕X))(S:σ->ay)(ex:X->Exit)(so:X->ay)(st:ay):Prop:=∀y:σ⊕X,o=some y->cC P GE m c (LQ S ex so y) st
def ZF(P:Program)(A:List Nat)(f:FuncId)(fn:Func)(c:Code):Prop:=(∀vs w,(callFunc f vs).run P w=.ok (.enter f vs) w)/\P.funcs[f]? =some fn/\fn.body=some c/\P.follows .mixedOrders=true/\A=A
section
variable{P:Program}{GE:List (Nat×List PVal)}{A:List Nat}{f:FuncId}{fn:Func}{c:Code}{args:List PVal}{ro:List (Nat×TypeId)}{R:Type}{res:R->PVal}{o:Option R}{t:Tr R}{F:Prop}
theorem zf(h1:∀vs w,(callFunc f vs).run P w=.ok (.enter f vs) w)(h2:P.funcs[f]? =some fn)(h3:fn.body=some c)(h4:P.follows .mixedOrders=true):ZF P A f fn c:=⟨h1,h2,h3,h4,rfl⟩
theorem N5(h:∀r,o=some r->CC P GE f args (res r) ro):We P GE f args o res ro:=h
def LV(res:R->PVal)(r:R):Prop:=res r=res r/\(res r).cl 0
def qee(res:R->PVal)(r:R):Prop:=res r=res r/\(res r).cl 0/\(res r).isAgg=true
def KV(P:Program)(rs:List ResultVar)(res:R->PVal)(ro:List (Nat×TypeId)):Exit->Tr R->ay->Prop:=λe t st=>t.go λt=>t.fin λr=>FR P rs (res r) ro e [] st
theorem KV.at{r:R}{rs:List ResultVar}{e:Exit}{st:ay}(hv:t.val=some r)(h:KV P rs res ro e t st):FR P rs (res r) ro e [] st:=by
 obtain⟨t',v',h⟩:=Tr.go_ok hv h
 exact N0 (K:=λr=>FR P rs (res r) ro e [] st) v' h
theorem ZF.v0(g:ZF P A f fn c)(ha:eP 0 args)(hv:t.val=o)(hF:Cx P GE A 0 c t ⟨args++List.replicate (fn.ntmps - args.length) .undef,[],[]⟩ (KV P fn.results.toList res ro)):We P GE f args o res ro:=λ_ h=>
 ⟨ha,C.ofSat g.1 g.2.1 g.2.2.1 ((eX g.2.2.2.1 c t _ _ (hv.trans h) hF).imp λe st hx=>by obtain⟨t',v',hx⟩:=hx;exact(KV.at v' hx).to)⟩
theorem ZF.v(g:ZF P A f fn c)[ha:K0l args](z:PV (LV res) o t F)[hr:∀r,K0 (res r)](he:F=Cx P GE A 0 c t ⟨args++List.replicate (fn.ntmps - args.length) .undef,[],[]⟩ (KV P fn.results.toList res ro):=by kernel_rfl):We P GE f args o res ro:=
 ZF.v0 g ha.h z.1 (he▸z.2 λr=>⟨rfl,(hr r).h⟩)
theorem ZF.va(g:ZF P A f fn c)[ha:K0l args](z:PV (qee res) o t F)[hr:∀r,K0 (res r)](hg:∀r,(res r).isAgg=true:=by intro r;rfl)(he:F=Cx P GE A 0 c t ⟨args++List.replicate (fn.ntmps - args.length) .undef,[],[]⟩ (KV P fn.results.toList res ro):=by kernel_rfl):We P GE f args o res ro:=
 ZF.v0 g ha.h z.1 (he▸z.2 λr=>⟨rfl,(hr r).h,hg r⟩)
variable{H:List ax}{H':R->List ax}{oa:List ((Nat×Nat)×TypeId)}{m:Nat}
theorem N4(h:∀r,o=some r->C P GE f args oa H (res r) ro (H' r)):XU P GE f args oa H o res ro H':=h
def LG(res:R->PVal)(H':R->List ax)(n:Nat)(r:R):Prop:=res r=res r/\(res r).cl n/\H' r=H' r/\Hg n (H' r)
def KG(P:Program)(rs:List ResultVar)(res:R->PVal)(ro:List (Nat×TypeId))(H':R->List ax):Exit->Tr R->ay->Prop:=λe t st=>t.go λt=>t.fin λr=>VT P rs (res r) ro (H' r) e [] st
theorem KG.at{r:R}{rs:List ResultVar}{e:Exit}{st:ay}(hv:t.val=some r)(h:KG P rs res ro H' e t st):VT P rs (res r) ro (H' r) e [] st:=by
 obtain⟨t',v',h⟩:=Tr.go_ok hv h
 exact N0 (K:=λr=>VT P rs (res r) ro (H' r) e [] st) v' h
theorem ZF.g0(g:ZF P A f fn c)(hm:∀r,(decide (m % 1000=H.length)&&decide (m≠0)&&decide ((H' r).length=H.length))=true)(hv:t.val=o)(hF:Cx P GE A m c t ⟨args++List.replicate (fn.ntmps - args.length) .undef,H,oa⟩ (KG P fn.results.toList res ro H')):XU P GE f args oa H o res ro H':=by
 intro r h
 have hm:=hm r
 simp only[vaf,vap]at hm
 exact C.ofSatG hm.1.1 hm.1.2 g.1 g.2.1 g.2.2.1 hm.2 ((eX g.2.2.2.1 c t _ _ (hv.trans h) hF).imp λe st hx=>by obtain⟨t',v',hx⟩:=hx;exact(KG.at v' hx).to)
theorem ZF.g(g:ZF P A f fn c)(n:Nat)(z:PV (LG res H' n) o t F)[hr:∀r,KC n (res r)][hb:∀r,KCs n (H' r)](hm:∀r,(decide (n % 1000=H.length)&&decide (n≠0)&&decide ((H' r).length=H.length))=true:=by intro r;rfl)(he:F=Cx P GE A n c t ⟨args++List.replicate (fn.ntmps - args.length) .undef,H,oa⟩ (KG P fn.results.toList res ro H'):=by kernel_rfl):XU P GE f args oa H o res ro H':=
 ZF.g0 g hm z.1 (he▸z.2 λr=>⟨rfl,(hr r).h,rfl,(hb r).h⟩)
theorem ZF.n(g:ZF P A f fn c)(n:Nat)(z:PV (LG res H' n) o t F)[hr:∀r,KC n (res r)][hb:∀r,KCs n (H' r)](he:F=Cx P GE A 0 c t ⟨args++List.replicate (fn.ntmps - args.length) .undef,[],[]⟩ (KG P fn.results.toList res ro H'):=by kernel_rfl):qcP P GE f args o res ro H':=by
 intro r h
 have hF:=z.2 λr=>⟨rfl,(hr r).h,rfl,(hb r).h⟩
 rw[he]at hF
 exact CN.ofSat g.1 g.2.1 g.2.2.1 ((eX g.2.2.2.1 c t _ _ (z.1.trans h) hF).imp λe st hx=>by obtain⟨t',v',hx⟩:=hx;exact(KG.at v' hx).to)
end
section
variable{P:Program}{GE:List (Nat×List PVal)}{A:List Nat}{f:FuncId}{fn:Func}{c0 c:Code}{m:Nat}{st:ay}{X σ:Type}{S:σ->ay}{ex:X->Exit}{so:X->ay}{F:Prop}
theorem ZF.k(g:ZF P A f fn c0){o:Option X}{t:Tr X}(z:PV (LJ ex so) o t F)(he:F=Cx P GE A m c t st (KJ ex so):=by kernel_rfl):ZR P GE m c o ex so st:=λ_ h=>SE g.2.2.2.1 h z he
theorem ZF.j(g:ZF P A f fn c0){e:Exit}{o:Option X}{t:Tr X}(z:PV (LJ (λ_=>e) so) o t F)(he:F=Cx P GE A m c t st (KJ (λ_=>e) so):=by kernel_rfl):ZQ P GE m c o e so st:=λ_ h=>SE (ex:=λ_=>e) g.2.2.2.1 h z he
theorem ZF.l(g:ZF P A f fn c0){o:Option (σ⊕X)}{t:Tr (σ⊕X)}(z:PV (LB S ex so) o t F)(he:F=Cx P GE A m c t st (KB S ex so):=by kernel_rfl):Wd P GE m c o S ex so st:=λ_ h=>W7 g.2.2.2.1 h z he
theorem ZF.lx(g:ZF P A f fn c0){o:Option (σ⊕X)}{t:Tr (σ⊕X)}(z:PV (qed m S ex so) o t F)[q:∀s,KS m (S s)][q':∀x,KS m (so x)](he:F=Cx P GE A m c t st (qcO m S ex so):=by kernel_rfl):Wd P GE m c o S ex so st:=λ_ h=>Vi g.2.2.2.1 h ⟨z.1,λ_=>z.2 λy=>match y with
 |.inl s=>⟨rfl,(q s).f⟩
 |.inr x=>⟨rfl,rfl,(q' x).f⟩⟩ he
theorem HK{body:σ->Option (σ⊕X)}{s:σ}(hb:∀s,Wd P GE m c (body s) S ex so (S s))(h1:st=S s:=by rfl):ZR P GE m (.loop c) (loop body s) ex so st:=λ_ h=>ZL (h1:=h1) h λs y hy=>hb s y hy
theorem sQ{e:Exit}{body:σ->Option (σ⊕X)}{s:σ}(hb:∀s,Wd P GE m c (body s) S (λ_=>e) so (S s))(h1:st=S s:=by rfl):ZQ P GE m (.loop c) (loop body s) e so st:=λ_ h=>ZL (ex:=λ_=>e) (h1:=h1) h λs y hy=>hb s y hy
end
open Go Go.Proofs.Tryz
set_option linter.unusedVariables false
set_option maxRecDepth 100000
noncomputable abbrev Pg:=Tryz.prog
theorem mixed:Pg.follows .mixedOrders=true:=by kernel_rfl
structure uj where
 Name:ac
 Sort_:ac
deriving DecidableEq
def cW(x:uj):List PVal:=[.str x.Name,.str x.Sort_]
theorem PX(x:uj):cW x=[.str x.Name,.str x.Sort_]:=rfl
theorem Fk(x:uj):eP 0 (cW x):=(aI vzz (aI vzz vzz))
instance iE_tVar:KE cW:=⟨Fk⟩
theorem Ss(x:uj):(cW x).length=2:=by rw[PX];rfl
theorem Sz(x:uj):∀q∈cW x,q.one=true:=by
 intro q hq
 rw[PX]at hq
 simp only[vaI,va8,or_false]at hq
 rcases hq with rfl|rfl<;>rfl
theorem Ua:Pg.cellsOf 212=2:=by kernel_rfl
theorem vM(x:uj):aH Pg 212 (.eptr (cW x)) 0=some (.eptr ((cW x).drop 0))/\aZ Pg 9 ((cW x).drop 0)=some (.str x.Name):=⟨by kernel_rfl,by kernel_rfl⟩
theorem C1(x:uj):aH Pg 212 (.eptr (cW x)) 1=some (.eptr ((cW x).drop 1))/\aZ Pg 117 ((cW x).drop 1)=some (.str x.Sort_):=⟨by kernel_rfl,by kernel_rfl⟩
inductive ag where
 |mk (Op:Int) (Name:ac) (N:Int) (Kids:(List ag))
def ag.Op:ag->Int
 |⟨x,_,_,_⟩=>x
def ag.Name:ag->ac
 |⟨_,x,_,_⟩=>x
def ag.N:ag->Int
 |⟨_,_,x,_⟩=>x
def ag.Kids:ag->(List ag)
 |⟨_,_,_,x⟩=>x
mutual
def aa:ag->List PVal
 |⟨x0,x1,x2,x3⟩=>[.int .i64 x0,.str x1,.int .i64 x2,.slice (vQ x3)]
def vQ:List ag->List (List PVal)
 |[]=>[]
 |x::r=>aa x::vQ r
end
theorem JY:∀(l:List ag),vQ l=l.map aa
 |[]=>by simp[vQ]
 |x::r=>by simp[vQ,JY r]
mutual
theorem aJ:∀(x:ag),eP 0 (aa x)
 |⟨x0,x1,x2,x3⟩=>by rw[aa];exact(aI vzz (aI vzz (aI vzz (aI (LO x3) trivial))))
theorem LO:∀(l:List ag),ut 0 (vQ l)
 |[]=>by simp[vQ,ut]
 |x::r=>by rw[vQ];exact⟨aJ x,LO r⟩
end
theorem da:∀(x:ag),aa x=[.int .i64 x.Op,.str x.Name,.int .i64 x.N,sl aa x.Kids]
 |⟨x0,x1,x2,x3⟩=>by
  simp only[aa,JY]
  rfl
instance iK_tPred{x:ag}:K0l (aa x):=⟨aJ x⟩
instance iE_tPred:KE aa:=⟨aJ⟩
theorem Hs(x:ag):(aa x).length=4:=by rw[da];rfl
theorem fy(x:ag):bO (.agg (aa x))=some (aa x):=rfl
theorem mt(x:ag):bO (.agg (aa x))=some [.int .i64 x.Op,.str x.Name,.int .i64 x.N,sl aa x.Kids]:=by rw[da];rfl
theorem Q9(x:ag):∀q∈aa x,q.one=true:=by
 intro q hq
 rw[da]at hq
 simp only[vaI,va8,or_false]at hq
 rcases hq with rfl|rfl|rfl|rfl<;>rfl
theorem Tq:Pg.cellsOf 59=4:=by kernel_rfl
theorem co(x:ag):aZ Pg 59 (aa x)=some (.agg (aa x)):=by
 have:=kO (P:=Pg) (t:=59) (l:=aa x) (r:=[]) (by kernel_rfl) (Tq.trans (Hs x).symm)
 rwa[vbh]at this
theorem iS(x:ag)(r:List PVal):aZ Pg 59 ([.int .i64 x.Op,.str x.Name,.int .i64 x.N,sl aa x.Kids]++r)=some (.agg (aa x)):=by
 rw[<-da];exact kO (by kernel_rfl) (Tq.trans (Hs x).symm)
theorem OT:cF Pg 59 []=some (.agg (aa (⟨0,([]:ac),0,([]:List ag)⟩:ag))):=by
 simp only[da]
 kernel_rfl
theorem OR:wL Pg 59 [] [(3,59)]:=by
 exact⟨[.int .i64 0,.str ([]:ac),.int .i64 0,.val dv],by kernel_rfl,(aI rfl vzz)⟩
theorem aK(x:ag):aH Pg 59 (.eptr (aa x)) 0=some (.eptr ((aa x).drop 0))/\aZ Pg 56 ((aa x).drop 0)=some (.int .i64 x.Op):=⟨by rw[da];kernel_rfl,by rw[da];kernel_rfl⟩
theorem cQ(x:ag):aH Pg 59 (.eptr (aa x)) 1=some (.eptr ((aa x).drop 1))/\aZ Pg 9 ((aa x).drop 1)=some (.str x.Name):=⟨by rw[da];kernel_rfl,by rw[da];kernel_rfl⟩
theorem bU(x:ag):aH Pg 59 (.eptr (aa x)) 2=some (.eptr ((aa x).drop 2))/\aZ Pg 3 ((aa x).drop 2)=some (.int .i64 x.N):=⟨by rw[da];kernel_rfl,by rw[da];kernel_rfl⟩
theorem Lm(x:ag):aH Pg 59 (.eptr (aa x)) 3=some (.eptr ((aa x).drop 3)):=by rw[da];kernel_rfl
theorem aL(x:ag):aH Pg 59 (.eptr (aa x)) 3=some (.eptr ((aa x).drop 3))/\aZ Pg 57 ((aa x).drop 3)=some (sl aa x.Kids):=⟨by rw[da];kernel_rfl,by rw[da];kernel_rfl⟩
theorem Lq(x:ag):aZ Pg 57 ((aa x).drop 3)=some (sl aa x.Kids):=by rw[da];kernel_rfl
inductive al where
 |mk (Op:Int) (Name:ac) (Args:(List al)) (Names:(List ac)) (Pred:ag) (Preds:(List ag))
def al.Op:al->Int
 |⟨x,_,_,_,_,_⟩=>x
def al.Name:al->ac
 |⟨_,x,_,_,_,_⟩=>x
def al.Args:al->(List al)
 |⟨_,_,x,_,_,_⟩=>x
def al.Names:al->(List ac)
 |⟨_,_,_,x,_,_⟩=>x
def al.Pred:al->ag
 |⟨_,_,_,_,x,_⟩=>x
def al.Preds:al->(List ag)
 |⟨_,_,_,_,_,x⟩=>x
mutual
def ai:al->List PVal
 |⟨x0,x1,x2,x3,x4,x5⟩=>[.int .i64 x0,.str x1,.slice (vR x2),sl cS x3]++(aa x4++([sl aa x5]))
def vR:List al->List (List PVal)
 |[]=>[]
 |x::r=>ai x::vR r
end
theorem JZ:∀(l:List al),vR l=l.map ai
 |[]=>by simp[vR]
 |x::r=>by simp[vR,JZ r]
mutual
theorem bE:∀(x:al),eP 0 (ai x)
 |⟨x0,x1,x2,x3,x4,x5⟩=>by rw[ai];exact Ec.2 (aI ((aI vzz (aI vzz (aI (LP x2) (aI (ak eU x3) trivial))))) (Ec.2 (aI (aJ x4) ((aI (ak aJ x5) trivial)))))
theorem LP:∀(l:List al),ut 0 (vR l)
 |[]=>by simp[vR,ut]
 |x::r=>by rw[vR];exact⟨bE x,LP r⟩
end
theorem cK:∀(x:al),ai x=[.int .i64 x.Op,.str x.Name,sl ai x.Args,sl cS x.Names,.int .i64 x.Pred.Op,.str x.Pred.Name,.int .i64 x.Pred.N,sl aa x.Pred.Kids,sl aa x.Preds]
 |⟨x0,x1,x2,x3,x4,x5⟩=>by
  simp only[ai,JZ,da,va1,va3]
  rfl
abbrev Qo(x:al):PVal:=.agg (ai x)
instance iK_tType{x:al}:K0l (ai x):=⟨bE x⟩
instance iE_tType:KE ai:=⟨bE⟩
theorem Ht(x:al):(ai x).length=9:=by rw[cK];rfl
theorem iC(x:al):bO (.agg (ai x))=some (ai x):=rfl
theorem Rf(x:al):bO (Qo x)=some (ai x):=rfl
theorem sR(x:al):bO (.agg (ai x))=some [.int .i64 x.Op,.str x.Name,sl ai x.Args,sl cS x.Names,.int .i64 x.Pred.Op,.str x.Pred.Name,.int .i64 x.Pred.N,sl aa x.Pred.Kids,sl aa x.Preds]:=by rw[cK];rfl
theorem Rb(x:al):∀q∈ai x,q.one=true:=by
 intro q hq
 rw[cK]at hq
 simp only[vaI,va8,or_false]at hq
 rcases hq with rfl|rfl|rfl|rfl|rfl|rfl|rfl|rfl|rfl<;>rfl
theorem Ts:Pg.cellsOf 61=9:=by kernel_rfl
theorem dP(x:al):aZ Pg 61 (ai x)=some (.agg (ai x)):=by
 have:=kO (P:=Pg) (t:=61) (l:=ai x) (r:=[]) (by kernel_rfl) (Ts.trans (Ht x).symm)
 rwa[vbh]at this
theorem mm(x:al)(r:List PVal):aZ Pg 61 ([.int .i64 x.Op,.str x.Name,sl ai x.Args,sl cS x.Names,.int .i64 x.Pred.Op,.str x.Pred.Name,.int .i64 x.Pred.N,sl aa x.Pred.Kids,sl aa x.Preds]++r)=some (.agg (ai x)):=by
 rw[<-cK];exact kO (by kernel_rfl) (Ts.trans (Ht x).symm)
theorem OU:cF Pg 61 []=some (.agg (ai (⟨0,([]:ac),([]:List al),([]:List ac),(⟨0,([]:ac),0,([]:List ag)⟩:ag),([]:List ag)⟩:al))):=by
 simp only[cK]
 kernel_rfl
theorem OS:wL Pg 61 [] [(2,61),(3,9),(7,59),(8,59)]:=by
 exact⟨[.int .i64 0,.str ([]:ac),.val dv,.val dv,.int .i64 0,.str ([]:ac),.int .i64 0,.val dv,.val dv],by kernel_rfl,(aI rfl (aI rfl (aI rfl (aI rfl vzz))))⟩
theorem JG(x0:Int)(x3:(List ac))(x2:(List al)):cF Pg 61 [(0,.int .i64 x0),(3,sl cS x3),(2,sl ai x2)]=some (.agg (ai (⟨x0,([]:ac),x2,x3,(⟨0,([]:ac),0,([]:List ag)⟩:ag),([]:List ag)⟩:al))):=by
 simp only[cK]
 kernel_rfl
theorem JD(x0:Int)(x3:(List ac))(x2:(List al)):wL Pg 61 [(0,.int .i64 x0),(3,sl cS x3),(2,sl ai x2)] [(7,59),(8,59)]:=by
 exact⟨[.int .i64 x0,.str ([]:ac),sl ai x2,sl cS x3,.int .i64 0,.str ([]:ac),.int .i64 0,.val dv,.val dv],by kernel_rfl,(aI rfl (aI rfl vzz))⟩
theorem JF(x0:Int):cF Pg 61 [(0,.int .i64 x0)]=some (.agg (ai (⟨x0,([]:ac),([]:List al),([]:List ac),(⟨0,([]:ac),0,([]:List ag)⟩:ag),([]:List ag)⟩:al))):=by
 simp only[cK]
 kernel_rfl
theorem JB(x0:Int):wL Pg 61 [(0,.int .i64 x0)] [(2,61),(3,9),(7,59),(8,59)]:=by
 exact⟨[.int .i64 x0,.str ([]:ac),.val dv,.val dv,.int .i64 0,.str ([]:ac),.int .i64 0,.val dv,.val dv],by kernel_rfl,(aI rfl (aI rfl (aI rfl (aI rfl vzz))))⟩
theorem aX(x:al):aH Pg 61 (.eptr (ai x)) 0=some (.eptr ((ai x).drop 0))/\aZ Pg 55 ((ai x).drop 0)=some (.int .i64 x.Op):=⟨by rw[cK];kernel_rfl,by rw[cK];kernel_rfl⟩
theorem dg(x:al):aH Pg 61 (.eptr (ai x)) 1=some (.eptr ((ai x).drop 1))/\aZ Pg 9 ((ai x).drop 1)=some (.str x.Name):=⟨by rw[cK];kernel_rfl,by rw[cK];kernel_rfl⟩
theorem bw(x:al):aH Pg 61 (.eptr (ai x)) 2=some (.eptr ((ai x).drop 2))/\aZ Pg 48 ((ai x).drop 2)=some (sl ai x.Args):=⟨by rw[cK];kernel_rfl,by rw[cK];kernel_rfl⟩
theorem ct(x:al):aH Pg 61 (.eptr (ai x)) 3=some (.eptr ((ai x).drop 3))/\aZ Pg 32 ((ai x).drop 3)=some (sl cS x.Names):=⟨by rw[cK];kernel_rfl,by rw[cK];kernel_rfl⟩
theorem dJ(x:al):aH Pg 61 (.eptr (ai x)) 4=some (.eptr ((ai x).drop 4))/\aZ Pg 59 ((ai x).drop 4)=some (.agg (aa x.Pred)):=⟨by rw[cK];kernel_rfl,by rw[cK,da];kernel_rfl⟩
theorem cE(x:al):aH Pg 61 (.eptr (ai x)) 5=some (.eptr ((ai x).drop 8))/\aZ Pg 57 ((ai x).drop 8)=some (sl aa x.Preds):=⟨by rw[cK];kernel_rfl,by rw[cK];kernel_rfl⟩
structure VL where
 Name:ac
 Names:(List ac)
 Fields:(List al)
def OW(x:VL):List PVal:=[.str x.Name,sl cS x.Names,sl ai x.Fields]
theorem Tn(x:VL):eP 0 (OW x):=(aI vzz (aI (ak eU x.Names) (aI (ak bE x.Fields) trivial)))
structure eZ where
 Name:ac
 Vars:(List ac)
 Preds:(List uj)
 Cons:(List VL)
def kc(x:eZ):List PVal:=[.str x.Name,sl cS x.Vars,sl cW x.Preds,sl OW x.Cons]
theorem NL(x:eZ):kc x=[.str x.Name,sl cS x.Vars,sl cW x.Preds,sl OW x.Cons]:=rfl
theorem NE(x:eZ):eP 0 (kc x):=(aI vzz (aI (ak eU x.Vars) (aI (ak Fk x.Preds) (aI (ak Tn x.Cons) trivial))))
theorem QY(x:eZ):(kc x).length=4:=by rw[NL];rfl
theorem Q6(x:eZ):∀q∈kc x,q.one=true:=by
 intro q hq
 rw[NL]at hq
 simp only[vaI,va8,or_false]at hq
 rcases hq with rfl|rfl|rfl|rfl<;>rfl
theorem T6:Pg.cellsOf 116=4:=by kernel_rfl
structure Jp where
 Name:ac
 Type_:al
def Cs(x:Jp):List PVal:=[.str x.Name]++(ai x.Type_)
theorem O9(x:Jp):Cs x=[.str x.Name,.int .i64 x.Type_.Op,.str x.Type_.Name,sl ai x.Type_.Args,sl cS x.Type_.Names,.int .i64 x.Type_.Pred.Op,.str x.Type_.Pred.Name,.int .i64 x.Type_.Pred.N,sl aa x.Type_.Pred.Kids,sl aa x.Type_.Preds]:=by
 unfold Cs
 simp only[cK,va1,va3]
theorem OZ(x:Jp):eP 0 (Cs x):=by rw[O9];exact(aI vzz (aI vzz (aI vzz (aI (ak bE x.Type_.Args) (aI (ak eU x.Type_.Names) (aI vzz (aI vzz (aI vzz (aI (ak aJ x.Type_.Pred.Kids) (aI (ak aJ x.Type_.Preds) trivial))))))))))
structure dO where
 Name:ac
 Var:ac
 Methods:(List Jp)
def Ba(x:dO):List PVal:=[.str x.Name,.str x.Var,sl Cs x.Methods]
theorem QK(x:dO):eP 0 (Ba x):=(aI vzz (aI vzz (aI (ak OZ x.Methods) trivial)))
structure cR where
 Class:ac
 Var:ac
deriving DecidableEq
def bv(x:cR):List PVal:=[.str x.Class,.str x.Var]
theorem NM(x:cR):bv x=[.str x.Class,.str x.Var]:=rfl
theorem ff(x:cR):eP 0 (bv x):=(aI vzz (aI vzz vzz))
instance iE_tNeed:KE bv:=⟨ff⟩
theorem QZ(x:cR):(bv x).length=2:=by rw[NM];rfl
theorem Q8(x:cR):∀q∈bv x,q.one=true:=by
 intro q hq
 rw[NM]at hq
 simp only[vaI,va8,or_false]at hq
 rcases hq with rfl|rfl<;>rfl
theorem Ub:Pg.cellsOf 223=2:=by kernel_rfl
structure aU where
 Name:ac
 Type_:al
def aD(x:aU):List PVal:=[.str x.Name]++(ai x.Type_)
theorem ki(x:aU):aD x=[.str x.Name,.int .i64 x.Type_.Op,.str x.Type_.Name,sl ai x.Type_.Args,sl cS x.Type_.Names,.int .i64 x.Type_.Pred.Op,.str x.Type_.Pred.Name,.int .i64 x.Type_.Pred.N,sl aa x.Type_.Pred.Kids,sl aa x.Type_.Preds]:=by
 unfold aD
 simp only[cK,va1,va3]
theorem dh(x:aU):eP 0 (aD x):=by rw[ki];exact(aI vzz (aI vzz (aI vzz (aI (ak bE x.Type_.Args) (aI (ak eU x.Type_.Names) (aI vzz (aI vzz (aI vzz (aI (ak aJ x.Type_.Pred.Kids) (aI (ak aJ x.Type_.Preds) trivial))))))))))
instance iK_tParam{x:aU}:K0l (aD x):=⟨dh x⟩
instance iE_tParam:KE aD:=⟨dh⟩
theorem Eu(x:aU):(aD x).length=10:=by rw[ki];rfl
theorem L6(x:aU):bO (.agg (aD x))=some (aD x):=rfl
theorem yU(x:aU):bO (.agg (aD x))=some [.str x.Name,.int .i64 x.Type_.Op,.str x.Type_.Name,sl ai x.Type_.Args,sl cS x.Type_.Names,.int .i64 x.Type_.Pred.Op,.str x.Type_.Pred.Name,.int .i64 x.Type_.Pred.N,sl aa x.Type_.Pred.Kids,sl aa x.Type_.Preds]:=by rw[ki];rfl
theorem Pm(x:aU):∀q∈aD x,q.one=true:=by
 intro q hq
 rw[ki]at hq
 simp only[vaI,va8,or_false]at hq
 rcases hq with rfl|rfl|rfl|rfl|rfl|rfl|rfl|rfl|rfl|rfl<;>rfl
theorem PR:Pg.cellsOf 185=10:=by kernel_rfl
theorem Cz(x:aU):aZ Pg 185 (aD x)=some (.agg (aD x)):=by
 have:=kO (P:=Pg) (t:=185) (l:=aD x) (r:=[]) (by kernel_rfl) (PR.trans (Eu x).symm)
 rwa[vbh]at this
theorem J4(x:aU)(r:List PVal):aZ Pg 185 ([.str x.Name,.int .i64 x.Type_.Op,.str x.Type_.Name,sl ai x.Type_.Args,sl cS x.Type_.Names,.int .i64 x.Type_.Pred.Op,.str x.Type_.Pred.Name,.int .i64 x.Type_.Pred.N,sl aa x.Type_.Pred.Kids,sl aa x.Type_.Preds]++r)=some (.agg (aD x)):=by
 rw[<-ki];exact kO (by kernel_rfl) (PR.trans (Eu x).symm)
theorem kM(x:aU):aH Pg 185 (.eptr (aD x)) 0=some (.eptr ((aD x).drop 0))/\aZ Pg 9 ((aD x).drop 0)=some (.str x.Name):=⟨by rw[ki];kernel_rfl,by rw[ki];kernel_rfl⟩
theorem ga(x:aU):aH Pg 185 (.eptr (aD x)) 1=some (.eptr ((aD x).drop 1))/\aZ Pg 61 ((aD x).drop 1)=some (.agg (ai x.Type_)):=⟨by rw[ki];kernel_rfl,by rw[ki,cK];kernel_rfl⟩
mutual
inductive am where
 |mk (Op:Int) (Name:ac) (N:Int) (Kids:(List am)) (Params:(List aU)) (Alts:(List ca)) (Types:(List al))
inductive ca where
 |mk (Con:ac) (Names:(List ac)) (Body:am)
end
def am.Op:am->Int
 |⟨x,_,_,_,_,_,_⟩=>x
def am.Name:am->ac
 |⟨_,x,_,_,_,_,_⟩=>x
def am.N:am->Int
 |⟨_,_,x,_,_,_,_⟩=>x
def am.Kids:am->(List am)
 |⟨_,_,_,x,_,_,_⟩=>x
def am.Params:am->(List aU)
 |⟨_,_,_,_,x,_,_⟩=>x
def am.Alts:am->(List ca)
 |⟨_,_,_,_,_,x,_⟩=>x
def am.Types:am->(List al)
 |⟨_,_,_,_,_,_,x⟩=>x
def ca.Con:ca->ac
 |⟨x,_,_⟩=>x
def ca.Names:ca->(List ac)
 |⟨_,x,_⟩=>x
def ca.Body:ca->am
 |⟨_,_,x⟩=>x
mutual
def aj:am->List PVal
 |⟨x0,x1,x2,x3,x4,x5,x6⟩=>[.int .i64 x0,.str x1,.int .i64 x2,.slice (vP x3),sl aD x4,.slice (Bv x5),sl ai x6]
def aN:ca->List PVal
 |⟨x0,x1,x2⟩=>[.str x0,sl cS x1]++(aj x2)
def vP:List am->List (List PVal)
 |[]=>[]
 |x::r=>aj x::vP r
def Bv:List ca->List (List PVal)
 |[]=>[]
 |x::r=>aN x::Bv r
end
theorem JX:∀(l:List am),vP l=l.map aj
 |[]=>by simp[vP]
 |x::r=>by simp[vP,JX r]
theorem LZ:∀(l:List ca),Bv l=l.map aN
 |[]=>by simp[Bv]
 |x::r=>by simp[Bv,LZ r]
mutual
theorem b7:∀(x:am),eP 0 (aj x)
 |⟨x0,x1,x2,x3,x4,x5,x6⟩=>by rw[aj];exact(aI vzz (aI vzz (aI vzz (aI (LN x3) (aI (ak dh x4) (aI (NG x5) (aI (ak bE x6) trivial)))))))
theorem dy:∀(x:ca),eP 0 (aN x)
 |⟨x0,x1,x2⟩=>by rw[aN];exact Ec.2 (aI ((aI vzz (aI (ak eU x1) trivial))) (b7 x2))
theorem LN:∀(l:List am),ut 0 (vP l)
 |[]=>by simp[vP,ut]
 |x::r=>by rw[vP];exact⟨b7 x,LN r⟩
theorem NG:∀(l:List ca),ut 0 (Bv l)
 |[]=>by simp[Bv,ut]
 |x::r=>by rw[Bv];exact⟨dy x,NG r⟩
end
theorem cy:∀(x:am),aj x=[.int .i64 x.Op,.str x.Name,.int .i64 x.N,sl aj x.Kids,sl aD x.Params,sl aN x.Alts,sl ai x.Types]
 |⟨x0,x1,x2,x3,x4,x5,x6⟩=>by
  simp only[aj,JX,LZ]
  rfl
abbrev Qn(x:am):PVal:=.agg (aj x)
instance iK_tExpr{x:am}:K0l (aj x):=⟨b7 x⟩
instance iE_tExpr:KE aj:=⟨b7⟩
theorem Hr(x:am):(aj x).length=7:=by rw[cy];rfl
theorem cO(x:am):bO (.agg (aj x))=some (aj x):=rfl
theorem Re(x:am):bO (Qn x)=some (aj x):=rfl
theorem ms(x:am):bO (.agg (aj x))=some [.int .i64 x.Op,.str x.Name,.int .i64 x.N,sl aj x.Kids,sl aD x.Params,sl aN x.Alts,sl ai x.Types]:=by rw[cy];rfl
theorem Q7(x:am):∀q∈aj x,q.one=true:=by
 intro q hq
 rw[cy]at hq
 simp only[vaI,va8,or_false]at hq
 rcases hq with rfl|rfl|rfl|rfl|rfl|rfl|rfl<;>rfl
theorem Tp:Pg.cellsOf 50=7:=by kernel_rfl
theorem PQ:Pg.cellsOf 124=9:=by kernel_rfl
theorem aY(x:am):aZ Pg 50 (aj x)=some (.agg (aj x)):=by
 have:=kO (P:=Pg) (t:=50) (l:=aj x) (r:=[]) (by kernel_rfl) (Tp.trans (Hr x).symm)
 rwa[vbh]at this
theorem eg(x:am)(r:List PVal):aZ Pg 50 ([.int .i64 x.Op,.str x.Name,.int .i64 x.N,sl aj x.Kids,sl aD x.Params,sl aN x.Alts,sl ai x.Types]++r)=some (.agg (aj x)):=by
 rw[<-cy];exact kO (by kernel_rfl) (Tp.trans (Hr x).symm)
theorem Eb:cF Pg 50 []=some (.agg (aj (⟨0,([]:ac),0,([]:List am),([]:List aU),([]:List ca),([]:List al)⟩:am))):=by
 simp only[cy]
 kernel_rfl
theorem D9:wL Pg 50 [] [(3,50),(4,185),(5,124),(6,61)]:=by
 exact⟨[.int .i64 0,.str ([]:ac),.int .i64 0,.val dv,.val dv,.val dv,.val dv],by kernel_rfl,(aI rfl (aI rfl (aI rfl (aI rfl vzz))))⟩
theorem JE(x0:Int)(x1:ac)(x3:(List am)):cF Pg 50 [(0,.int .i64 x0),(1,.str x1),(3,sl aj x3)]=some (.agg (aj (⟨x0,x1,0,x3,([]:List aU),([]:List ca),([]:List al)⟩:am))):=by
 simp only[cy]
 kernel_rfl
theorem JA(x0:Int)(x1:ac)(x3:(List am)):wL Pg 50 [(0,.int .i64 x0),(1,.str x1),(3,sl aj x3)] [(4,185),(5,124),(6,61)]:=by
 exact⟨[.int .i64 x0,.str x1,.int .i64 0,sl aj x3,.val dv,.val dv,.val dv],by kernel_rfl,(aI rfl (aI rfl (aI rfl vzz)))⟩
theorem Mv(x0:Int)(x2:Int):cF Pg 50 [(0,.int .i64 x0),(2,.int .i64 x2)]=some (.agg (aj (⟨x0,([]:ac),x2,([]:List am),([]:List aU),([]:List ca),([]:List al)⟩:am))):=by
 simp only[cy]
 kernel_rfl
theorem Mr(x0:Int)(x2:Int):wL Pg 50 [(0,.int .i64 x0),(2,.int .i64 x2)] [(3,50),(4,185),(5,124),(6,61)]:=by
 exact⟨[.int .i64 x0,.str ([]:ac),.int .i64 x2,.val dv,.val dv,.val dv,.val dv],by kernel_rfl,(aI rfl (aI rfl (aI rfl (aI rfl vzz))))⟩
theorem bu(x:am):aH Pg 50 (.eptr (aj x)) 0=some (.eptr ((aj x).drop 0))/\aZ Pg 44 ((aj x).drop 0)=some (.int .i64 x.Op):=⟨by rw[cy];kernel_rfl,by rw[cy];kernel_rfl⟩
theorem bM(x:am):aH Pg 50 (.eptr (aj x)) 1=some (.eptr ((aj x).drop 1))/\aZ Pg 9 ((aj x).drop 1)=some (.str x.Name):=⟨by rw[cy];kernel_rfl,by rw[cy];kernel_rfl⟩
theorem cq(x:am):aH Pg 50 (.eptr (aj x)) 2=some (.eptr ((aj x).drop 2))/\aZ Pg 3 ((aj x).drop 2)=some (.int .i64 x.N):=⟨by rw[cy];kernel_rfl,by rw[cy];kernel_rfl⟩
theorem az(x:am):aH Pg 50 (.eptr (aj x)) 3=some (.eptr ((aj x).drop 3))/\aZ Pg 45 ((aj x).drop 3)=some (sl aj x.Kids):=⟨by rw[cy];kernel_rfl,by rw[cy];kernel_rfl⟩
theorem aW(x:am):aH Pg 50 (.eptr (aj x)) 4=some (.eptr ((aj x).drop 4))/\aZ Pg 46 ((aj x).drop 4)=some (sl aD x.Params):=⟨by rw[cy];kernel_rfl,by rw[cy];kernel_rfl⟩
theorem aE(x:am):aH Pg 50 (.eptr (aj x)) 5=some (.eptr ((aj x).drop 5))/\aZ Pg 47 ((aj x).drop 5)=some (sl aN x.Alts):=⟨by rw[cy];kernel_rfl,by rw[cy];kernel_rfl⟩
theorem av(x:am):aH Pg 50 (.eptr (aj x)) 6=some (.eptr ((aj x).drop 6))/\aZ Pg 48 ((aj x).drop 6)=some (sl ai x.Types):=⟨by rw[cy];kernel_rfl,by rw[cy];kernel_rfl⟩
theorem pH:∀(x:ca),aN x=[.str x.Con,sl cS x.Names,.int .i64 x.Body.Op,.str x.Body.Name,.int .i64 x.Body.N,sl aj x.Body.Kids,sl aD x.Body.Params,sl aN x.Body.Alts,sl ai x.Body.Types]
 |⟨x0,x1,x2⟩=>by
  simp only[aN,cy,va1,va3]
  rfl
instance iK_tAlt{x:ca}:K0l (aN x):=⟨dy x⟩
instance iE_tAlt:KE aN:=⟨dy⟩
theorem J1(x:ca):(aN x).length=9:=by rw[pH];rfl
theorem Na(x:ca):bO (.agg (aN x))=some (aN x):=rfl
theorem kY(x:ca):bO (.agg (aN x))=some [.str x.Con,sl cS x.Names,.int .i64 x.Body.Op,.str x.Body.Name,.int .i64 x.Body.N,sl aj x.Body.Kids,sl aD x.Body.Params,sl aN x.Body.Alts,sl ai x.Body.Types]:=by rw[pH];rfl
theorem Sx(x:ca):∀q∈aN x,q.one=true:=by
 intro q hq
 rw[pH]at hq
 simp only[vaI,va8,or_false]at hq
 rcases hq with rfl|rfl|rfl|rfl|rfl|rfl|rfl|rfl|rfl<;>rfl
theorem mX(x:ca):aZ Pg 124 (aN x)=some (.agg (aN x)):=by
 have:=kO (P:=Pg) (t:=124) (l:=aN x) (r:=[]) (by kernel_rfl) (PQ.trans (J1 x).symm)
 rwa[vbh]at this
theorem N1(x:ca)(r:List PVal):aZ Pg 124 ([.str x.Con,sl cS x.Names,.int .i64 x.Body.Op,.str x.Body.Name,.int .i64 x.Body.N,sl aj x.Body.Kids,sl aD x.Body.Params,sl aN x.Body.Alts,sl ai x.Body.Types]++r)=some (.agg (aN x)):=by
 rw[<-pH];exact kO (by kernel_rfl) (PQ.trans (J1 x).symm)
theorem vH(x:ca):aH Pg 124 (.eptr (aN x)) 0=some (.eptr ((aN x).drop 0))/\aZ Pg 9 ((aN x).drop 0)=some (.str x.Con):=⟨by rw[pH];kernel_rfl,by rw[pH];kernel_rfl⟩
theorem lX(x:ca):aH Pg 124 (.eptr (aN x)) 1=some (.eptr ((aN x).drop 1))/\aZ Pg 32 ((aN x).drop 1)=some (sl cS x.Names):=⟨by rw[pH];kernel_rfl,by rw[pH];kernel_rfl⟩
theorem s9(x:ca):aH Pg 124 (.eptr (aN x)) 2=some (.eptr ((aN x).drop 2))/\aZ Pg 50 ((aN x).drop 2)=some (.agg (aj x.Body)):=⟨by rw[pH];kernel_rfl,by rw[pH,cy];kernel_rfl⟩
structure eT where
 Name:ac
 Sort_:ac
deriving DecidableEq
def bP(x:eT):List PVal:=[.str x.Name,.str x.Sort_]
theorem PW(x:eT):bP x=[.str x.Name,.str x.Sort_]:=rfl
theorem jb(x:eT):eP 0 (bP x):=(aI vzz (aI vzz vzz))
theorem Sr(x:eT):(bP x).length=2:=by rw[PW];rfl
theorem Sw(x:eT):∀q∈bP x,q.one=true:=by
 intro q hq
 rw[PW]at hq
 simp only[vaI,va8,or_false]at hq
 rcases hq with rfl|rfl<;>rfl
theorem T9:Pg.cellsOf 194=2:=by kernel_rfl
theorem Fy(x:eT):aH Pg 194 (.eptr (bP x)) 0=some (.eptr ((bP x).drop 0))/\aZ Pg 9 ((bP x).drop 0)=some (.str x.Name):=⟨by kernel_rfl,by kernel_rfl⟩
theorem C0(x:eT):aH Pg 194 (.eptr (bP x)) 1=some (.eptr ((bP x).drop 1))/\aZ Pg 117 ((bP x).drop 1)=some (.str x.Sort_):=⟨by kernel_rfl,by kernel_rfl⟩
structure bT where
 Name:ac
 Vars:(List uj)
 Hyp:ag
 Goal:ag
def aS(x:bT):List PVal:=[.str x.Name,sl cW x.Vars]++(aa x.Hyp++(aa x.Goal))
theorem Cy(x:bT):aS x=[.str x.Name,sl cW x.Vars,.int .i64 x.Hyp.Op,.str x.Hyp.Name,.int .i64 x.Hyp.N,sl aa x.Hyp.Kids,.int .i64 x.Goal.Op,.str x.Goal.Name,.int .i64 x.Goal.N,sl aa x.Goal.Kids]:=by
 unfold aS
 simp only[da,va1,va3]
theorem eA(x:bT):eP 0 (aS x):=by rw[Cy];exact(aI vzz (aI (ak Fk x.Vars) (aI vzz (aI vzz (aI vzz (aI (ak aJ x.Hyp.Kids) (aI vzz (aI vzz (aI vzz (aI (ak aJ x.Goal.Kids) trivial))))))))))
theorem J2(x:bT):(aS x).length=10:=by rw[Cy];rfl
theorem Pq(x:bT):bO (.agg (aS x))=some [.str x.Name,sl cW x.Vars,.int .i64 x.Hyp.Op,.str x.Hyp.Name,.int .i64 x.Hyp.N,sl aa x.Hyp.Kids,.int .i64 x.Goal.Op,.str x.Goal.Name,.int .i64 x.Goal.N,sl aa x.Goal.Kids]:=by rw[Cy];rfl
theorem Pl(x:bT):∀q∈aS x,q.one=true:=by
 intro q hq
 rw[Cy]at hq
 simp only[vaI,va8,or_false]at hq
 rcases hq with rfl|rfl|rfl|rfl|rfl|rfl|rfl|rfl|rfl|rfl<;>rfl
theorem R8:Pg.cellsOf 197=10:=by kernel_rfl
theorem Q2(x:bT):aZ Pg 197 (aS x)=some (.agg (aS x)):=by
 have:=kO (P:=Pg) (t:=197) (l:=aS x) (r:=[]) (by kernel_rfl) (R8.trans (J2 x).symm)
 rwa[vbh]at this
structure fQ where
 Vars:(List ac)
 Needs:(List cR)
 Abs:(List eT)
 Bounds:(List bT)
 Type_:al
 Metric:(List ag)
def bZ(x:fQ):List PVal:=[sl cS x.Vars,sl bv x.Needs,sl bP x.Abs,sl aS x.Bounds]++(ai x.Type_++([sl aa x.Metric]))
theorem fi(x:fQ):bZ x=[sl cS x.Vars,sl bv x.Needs,sl bP x.Abs,sl aS x.Bounds,.int .i64 x.Type_.Op,.str x.Type_.Name,sl ai x.Type_.Args,sl cS x.Type_.Names,.int .i64 x.Type_.Pred.Op,.str x.Type_.Pred.Name,.int .i64 x.Type_.Pred.N,sl aa x.Type_.Pred.Kids,sl aa x.Type_.Preds,sl aa x.Metric]:=by
 unfold bZ
 simp only[cK,va1,va3]
theorem MB(x:fQ):eP 0 (bZ x):=by rw[fi];exact(aI (ak eU x.Vars) (aI (ak ff x.Needs) (aI (ak jb x.Abs) (aI (ak eA x.Bounds) (aI vzz (aI vzz (aI (ak bE x.Type_.Args) (aI (ak eU x.Type_.Names) (aI vzz (aI vzz (aI vzz (aI (ak aJ x.Type_.Pred.Kids) (aI (ak aJ x.Type_.Preds) (aI (ak aJ x.Metric) trivial))))))))))))))
instance iK_tSig{x:fQ}:K0l (bZ x):=⟨MB x⟩
theorem TM(x:fQ):bO (.agg (bZ x))=some (bZ x):=rfl
theorem SO(x:fQ):PVal.agg [sl cS x.Vars,sl bv x.Needs,sl bP x.Abs,sl aS x.Bounds,.int .i64 x.Type_.Op,.str x.Type_.Name,sl ai x.Type_.Args,sl cS x.Type_.Names,.int .i64 x.Type_.Pred.Op,.str x.Type_.Pred.Name,.int .i64 x.Type_.Pred.N,sl aa x.Type_.Pred.Kids,sl aa x.Type_.Preds,sl aa x.Metric]=.agg (bZ x):=by rw[fi]
theorem QG(x4:al):cF Pg 63 [(4,.agg (ai x4))]=some (.agg (bZ (⟨([]:List ac),([]:List cR),([]:List eT),([]:List bT),x4,([]:List ag)⟩:fQ))):=by
 simp only[fi,cK]
 kernel_rfl
theorem QE(x4:al):wL Pg 63 [(4,.agg (ai x4))] [(0,9),(1,223),(2,194),(3,197),(13,59)]:=by
 simp only[cK]
 exact⟨[.val dv,.val dv,.val dv,.val dv,.int .i64 x4.Op,.str x4.Name,sl ai x4.Args,sl cS x4.Names,.int .i64 x4.Pred.Op,.str x4.Pred.Name,.int .i64 x4.Pred.N,sl aa x4.Pred.Kids,sl aa x4.Preds,.val dv],by kernel_rfl,(aI rfl (aI rfl (aI rfl (aI rfl (aI rfl vzz)))))⟩
theorem vJ(x:fQ):aH Pg 63 (.eptr (bZ x)) 0=some (.eptr ((bZ x).drop 0))/\aZ Pg 32 ((bZ x).drop 0)=some (sl cS x.Vars):=⟨by rw[fi];kernel_rfl,by rw[fi];kernel_rfl⟩
theorem vK(x:fQ):aH Pg 63 (.eptr (bZ x)) 1=some (.eptr ((bZ x).drop 1))/\aZ Pg 52 ((bZ x).drop 1)=some (sl bv x.Needs):=⟨by rw[fi];kernel_rfl,by rw[fi];kernel_rfl⟩
theorem ji(x:fQ):aH Pg 63 (.eptr (bZ x)) 2=some (.eptr ((bZ x).drop 2))/\aZ Pg 53 ((bZ x).drop 2)=some (sl bP x.Abs):=⟨by rw[fi];kernel_rfl,by rw[fi];kernel_rfl⟩
theorem FA(x:fQ):aH Pg 63 (.eptr (bZ x)) 3=some (.eptr ((bZ x).drop 3))/\aZ Pg 54 ((bZ x).drop 3)=some (sl aS x.Bounds):=⟨by rw[fi];kernel_rfl,by rw[fi];kernel_rfl⟩
theorem FB(x:fQ):aH Pg 63 (.eptr (bZ x)) 4=some (.eptr ((bZ x).drop 4))/\aZ Pg 61 ((bZ x).drop 4)=some (.agg (ai x.Type_)):=⟨by rw[fi];kernel_rfl,by rw[fi,cK];kernel_rfl⟩
theorem lY(x:fQ):aH Pg 63 (.eptr (bZ x)) 5=some (.eptr ((bZ x).drop 13))/\aZ Pg 57 ((bZ x).drop 13)=some (sl aa x.Metric):=⟨by rw[fi];kernel_rfl,by rw[fi];kernel_rfl⟩
structure bD where
 Name:ac
 Params:(List ac)
 Body:am
 Mode:Int
 Typed:Bool
 Sig:fQ
def aQ(x:bD):List PVal:=[.str x.Name,sl cS x.Params]++(aj x.Body++([.int .i64 x.Mode,.bool x.Typed]++(bZ x.Sig)))
theorem dD(x:bD):aQ x=[.str x.Name,sl cS x.Params,.int .i64 x.Body.Op,.str x.Body.Name,.int .i64 x.Body.N,sl aj x.Body.Kids,sl aD x.Body.Params,sl aN x.Body.Alts,sl ai x.Body.Types,.int .i64 x.Mode,.bool x.Typed,sl cS x.Sig.Vars,sl bv x.Sig.Needs,sl bP x.Sig.Abs,sl aS x.Sig.Bounds,.int .i64 x.Sig.Type_.Op,.str x.Sig.Type_.Name,sl ai x.Sig.Type_.Args,sl cS x.Sig.Type_.Names,.int .i64 x.Sig.Type_.Pred.Op,.str x.Sig.Type_.Pred.Name,.int .i64 x.Sig.Type_.Pred.N,sl aa x.Sig.Type_.Pred.Kids,sl aa x.Sig.Type_.Preds,sl aa x.Sig.Metric]:=by
 unfold aQ
 simp only[cy,fi,va1,va3]
theorem fZ(x:bD):eP 0 (aQ x):=by rw[dD];exact(aI vzz (aI (ak eU x.Params) (aI vzz (aI vzz (aI vzz (aI (ak b7 x.Body.Kids) (aI (ak dh x.Body.Params) (aI (ak dy x.Body.Alts) (aI (ak bE x.Body.Types) (aI vzz (aI vzz (aI (ak eU x.Sig.Vars) (aI (ak ff x.Sig.Needs) (aI (ak jb x.Sig.Abs) (aI (ak eA x.Sig.Bounds) (aI vzz (aI vzz (aI (ak bE x.Sig.Type_.Args) (aI (ak eU x.Sig.Type_.Names) (aI vzz (aI vzz (aI vzz (aI (ak aJ x.Sig.Type_.Pred.Kids) (aI (ak aJ x.Sig.Type_.Preds) (aI (ak aJ x.Sig.Metric) trivial)))))))))))))))))))))))))
abbrev H6(x:bD):PVal:=.agg (aQ x)
instance iK_tDef{x:bD}:K0l (aQ x):=⟨fZ x⟩
instance iE_tDef:KE aQ:=⟨fZ⟩
theorem J3(x:bD):(aQ x).length=25:=by rw[dD];rfl
theorem FY(x:bD):bO (.agg (aQ x))=some (aQ x):=rfl
theorem BF(x:bD):bO (H6 x)=some (aQ x):=rfl
theorem dQ(x:bD):bO (.agg (aQ x))=some [.str x.Name,sl cS x.Params,.int .i64 x.Body.Op,.str x.Body.Name,.int .i64 x.Body.N,sl aj x.Body.Kids,sl aD x.Body.Params,sl aN x.Body.Alts,sl ai x.Body.Types,.int .i64 x.Mode,.bool x.Typed,sl cS x.Sig.Vars,sl bv x.Sig.Needs,sl bP x.Sig.Abs,sl aS x.Sig.Bounds,.int .i64 x.Sig.Type_.Op,.str x.Sig.Type_.Name,sl ai x.Sig.Type_.Args,sl cS x.Sig.Type_.Names,.int .i64 x.Sig.Type_.Pred.Op,.str x.Sig.Type_.Pred.Name,.int .i64 x.Sig.Type_.Pred.N,sl aa x.Sig.Type_.Pred.Kids,sl aa x.Sig.Type_.Preds,sl aa x.Sig.Metric]:=by rw[dD];rfl
theorem Sy(x:bD):∀q∈aQ x,q.one=true:=by
 intro q hq
 rw[dD]at hq
 simp only[vaI,va8,or_false]at hq
 rcases hq with rfl|rfl|rfl|rfl|rfl|rfl|rfl|rfl|rfl|rfl|rfl|rfl|rfl|rfl|rfl|rfl|rfl|rfl|rfl|rfl|rfl|rfl|rfl|rfl|rfl<;>rfl
theorem Tt:Pg.cellsOf 65=25:=by kernel_rfl
theorem vS(x:bD):aZ Pg 65 (aQ x)=some (.agg (aQ x)):=by
 have:=kO (P:=Pg) (t:=65) (l:=aQ x) (r:=[]) (by kernel_rfl) (Tt.trans (J3 x).symm)
 rwa[vbh]at this
theorem mY(x:bD)(r:List PVal):aZ Pg 65 ([.str x.Name,sl cS x.Params,.int .i64 x.Body.Op,.str x.Body.Name,.int .i64 x.Body.N,sl aj x.Body.Kids,sl aD x.Body.Params,sl aN x.Body.Alts,sl ai x.Body.Types,.int .i64 x.Mode,.bool x.Typed,sl cS x.Sig.Vars,sl bv x.Sig.Needs,sl bP x.Sig.Abs,sl aS x.Sig.Bounds,.int .i64 x.Sig.Type_.Op,.str x.Sig.Type_.Name,sl ai x.Sig.Type_.Args,sl cS x.Sig.Type_.Names,.int .i64 x.Sig.Type_.Pred.Op,.str x.Sig.Type_.Pred.Name,.int .i64 x.Sig.Type_.Pred.N,sl aa x.Sig.Type_.Pred.Kids,sl aa x.Sig.Type_.Preds,sl aa x.Sig.Metric]++r)=some (.agg (aQ x)):=by
 rw[<-dD];exact kO (by kernel_rfl) (Tt.trans (J3 x).symm)
theorem KD(x:bD):PVal.agg [.str x.Name,sl cS x.Params,.int .i64 x.Body.Op,.str x.Body.Name,.int .i64 x.Body.N,sl aj x.Body.Kids,sl aD x.Body.Params,sl aN x.Body.Alts,sl ai x.Body.Types,.int .i64 x.Mode,.bool x.Typed,sl cS x.Sig.Vars,sl bv x.Sig.Needs,sl bP x.Sig.Abs,sl aS x.Sig.Bounds,.int .i64 x.Sig.Type_.Op,.str x.Sig.Type_.Name,sl ai x.Sig.Type_.Args,sl cS x.Sig.Type_.Names,.int .i64 x.Sig.Type_.Pred.Op,.str x.Sig.Type_.Pred.Name,.int .i64 x.Sig.Type_.Pred.N,sl aa x.Sig.Type_.Pred.Kids,sl aa x.Sig.Type_.Preds,sl aa x.Sig.Metric]=.agg (aQ x):=by rw[dD]
theorem QF:cF Pg 65 []=some (.agg (aQ (⟨([]:ac),([]:List ac),(⟨0,([]:ac),0,([]:List am),([]:List aU),([]:List ca),([]:List al)⟩:am),0,false,(⟨([]:List ac),([]:List cR),([]:List eT),([]:List bT),(⟨0,([]:ac),([]:List al),([]:List ac),(⟨0,([]:ac),0,([]:List ag)⟩:ag),([]:List ag)⟩:al),([]:List ag)⟩:fQ)⟩:bD))):=by
 simp only[dD]
 kernel_rfl
theorem QD:wL Pg 65 [] [(1,9),(5,50),(6,185),(7,124),(8,61),(11,9),(12,223),(13,194),(14,197),(17,61),(18,9),(22,59),(23,59),(24,59)]:=by
 exact⟨[.str ([]:ac),.val dv,.int .i64 0,.str ([]:ac),.int .i64 0,.val dv,.val dv,.val dv,.val dv,.int .i64 0,.bool false,.val dv,.val dv,.val dv,.val dv,.int .i64 0,.str ([]:ac),.val dv,.val dv,.int .i64 0,.str ([]:ac),.int .i64 0,.val dv,.val dv,.val dv],by kernel_rfl,(aI rfl (aI rfl (aI rfl (aI rfl (aI rfl (aI rfl (aI rfl (aI rfl (aI rfl (aI rfl (aI rfl (aI rfl (aI rfl (aI rfl vzz))))))))))))))⟩
theorem Fi(x0:ac)(x1:(List ac))(x2:am)(x4:Bool)(x5:fQ):cF Pg 65 [(0,.str x0),(1,sl cS x1),(2,.agg (aj x2)),(4,.bool x4),(5,.agg (bZ x5))]=some (.agg (aQ (⟨x0,x1,x2,0,x4,x5⟩:bD))):=by
 simp only[dD,cy,fi]
 kernel_rfl
theorem Hm(x:bD):aH Pg 65 (.eptr (aQ x)) 0=some (.eptr ((aQ x).drop 0))/\aZ Pg 9 ((aQ x).drop 0)=some (.str x.Name):=⟨by rw[dD];kernel_rfl,by rw[dD];kernel_rfl⟩
theorem MM(x:bD):aH Pg 65 (.eptr (aQ x)) 1=some (.eptr ((aQ x).drop 1)):=by rw[dD];kernel_rfl
theorem mU(x:bD):aH Pg 65 (.eptr (aQ x)) 1=some (.eptr ((aQ x).drop 1))/\aZ Pg 32 ((aQ x).drop 1)=some (sl cS x.Params):=⟨by rw[dD];kernel_rfl,by rw[dD];kernel_rfl⟩
theorem MN(x:bD):aH Pg 65 (.eptr (aQ x)) 2=some (.eptr ((aQ x).drop 2)):=by rw[dD];kernel_rfl
theorem jh(x:bD):aH Pg 65 (.eptr (aQ x)) 2=some (.eptr ((aQ x).drop 2))/\aZ Pg 50 ((aQ x).drop 2)=some (.agg (aj x.Body)):=⟨by rw[dD];kernel_rfl,by rw[dD,cy];kernel_rfl⟩
theorem mV(x:bD):aH Pg 65 (.eptr (aQ x)) 3=some (.eptr ((aQ x).drop 9))/\aZ Pg 51 ((aQ x).drop 9)=some (.int .i64 x.Mode):=⟨by rw[dD];kernel_rfl,by rw[dD];kernel_rfl⟩
theorem vI(x:bD):aH Pg 65 (.eptr (aQ x)) 4=some (.eptr ((aQ x).drop 10))/\aZ Pg 4 ((aQ x).drop 10)=some (.bool x.Typed):=⟨by rw[dD];kernel_rfl,by rw[dD];kernel_rfl⟩
theorem Er(x:bD):aH Pg 65 (.eptr (aQ x)) 5=some (.eptr ((aQ x).drop 11))/\aZ Pg 63 ((aQ x).drop 11)=some (.agg (bZ x.Sig)):=⟨by rw[dD];kernel_rfl,by rw[dD,fi];kernel_rfl⟩
theorem MZ(x:bD):aZ Pg 32 ((aQ x).drop 1)=some (sl cS x.Params):=by rw[dD];kernel_rfl
theorem M0(x:bD):aZ Pg 50 ((aQ x).drop 2)=some (.agg (aj x.Body)):=by
 rw[dD,cy];kernel_rfl
structure bR where
 Class:ac
 Type_:al
 Needs:(List cR)
 Defs:(List bD)
def jK(x:bR):List PVal:=[.str x.Class]++(ai x.Type_++([sl bv x.Needs,sl aQ x.Defs]))
theorem MJ(x:bR):jK x=[.str x.Class,.int .i64 x.Type_.Op,.str x.Type_.Name,sl ai x.Type_.Args,sl cS x.Type_.Names,.int .i64 x.Type_.Pred.Op,.str x.Type_.Pred.Name,.int .i64 x.Type_.Pred.N,sl aa x.Type_.Pred.Kids,sl aa x.Type_.Preds,sl bv x.Needs,sl aQ x.Defs]:=by
 unfold jK
 simp only[cK,va1,va3]
theorem MA(x:bR):eP 0 (jK x):=by rw[MJ];exact(aI vzz (aI vzz (aI vzz (aI (ak bE x.Type_.Args) (aI (ak eU x.Type_.Names) (aI vzz (aI vzz (aI vzz (aI (ak aJ x.Type_.Pred.Kids) (aI (ak aJ x.Type_.Preds) (aI (ak ff x.Needs) (aI (ak fZ x.Defs) trivial))))))))))))
structure Qm where
 Con:ac
 Names:(List ac)
 Body:ag
def Fj(x:Qm):List PVal:=[.str x.Con,sl cS x.Names]++(aa x.Body)
theorem Sb(x:Qm):Fj x=[.str x.Con,sl cS x.Names,.int .i64 x.Body.Op,.str x.Body.Name,.int .i64 x.Body.N,sl aa x.Body.Kids]:=by
 unfold Fj
 simp only[da,va1,va3]
theorem R6(x:Qm):eP 0 (Fj x):=by rw[Sb];exact(aI vzz (aI (ak eU x.Names) (aI vzz (aI vzz (aI vzz (aI (ak aJ x.Body.Kids) trivial))))))
structure cf where
 Name:ac
 Data:ac
 Result:ac
 Cases:(List Qm)
 Inv:ag
def d7(x:cf):List PVal:=[.str x.Name,.str x.Data,.str x.Result,sl Fj x.Cases]++(aa x.Inv)
theorem Bp(x:cf):d7 x=[.str x.Name,.str x.Data,.str x.Result,sl Fj x.Cases,.int .i64 x.Inv.Op,.str x.Inv.Name,.int .i64 x.Inv.N,sl aa x.Inv.Kids]:=by
 unfold d7
 simp only[da,va1,va3]
theorem Ic(x:cf):eP 0 (d7 x):=by rw[Bp];exact(aI vzz (aI vzz (aI vzz (aI (ak R6 x.Cases) (aI vzz (aI vzz (aI vzz (aI (ak aJ x.Inv.Kids) trivial))))))))
theorem MY(x:cf):(d7 x).length=8:=by rw[Bp];rfl
theorem M3(x:cf):∀q∈d7 x,q.one=true:=by
 intro q hq
 rw[Bp]at hq
 simp only[vaI,va8,or_false]at hq
 rcases hq with rfl|rfl|rfl|rfl|rfl|rfl|rfl|rfl<;>rfl
theorem T7:Pg.cellsOf 120=8:=by kernel_rfl
structure e8 where
 Name:ac
 Vars:(List uj)
 Body:ag
def ja(x:e8):List PVal:=[.str x.Name,sl cW x.Vars]++(aa x.Body)
theorem JN(x:e8):ja x=[.str x.Name,sl cW x.Vars,.int .i64 x.Body.Op,.str x.Body.Name,.int .i64 x.Body.N,sl aa x.Body.Kids]:=by
 unfold ja
 simp only[da,va1,va3]
theorem NF(x:e8):eP 0 (ja x):=by rw[JN];exact(aI vzz (aI (ak Fk x.Vars) (aI vzz (aI vzz (aI vzz (aI (ak aJ x.Body.Kids) trivial))))))
theorem Q0(x:e8):(ja x).length=6:=by rw[JN];rfl
theorem Ra(x:e8):∀q∈ja x,q.one=true:=by
 intro q hq
 rw[JN]at hq
 simp only[vaI,va8,or_false]at hq
 rcases hq with rfl|rfl|rfl|rfl|rfl|rfl<;>rfl
theorem T8:Pg.cellsOf 122=6:=by kernel_rfl
structure aw where
 Datas:(List eZ)
 Classes:(List dO)
 Instances:(List bR)
 Measures:(List cf)
 Quals:(List e8)
 Defs:(List bD)
def aq(x:aw):List PVal:=[sl kc x.Datas,sl Ba x.Classes,sl jK x.Instances,sl d7 x.Measures,sl ja x.Quals,sl aQ x.Defs]
theorem pd(x:aw):aq x=[sl kc x.Datas,sl Ba x.Classes,sl jK x.Instances,sl d7 x.Measures,sl ja x.Quals,sl aQ x.Defs]:=rfl
theorem bQ(x:aw):eP 0 (aq x):=(aI (ak NE x.Datas) (aI (ak QK x.Classes) (aI (ak MA x.Instances) (aI (ak Ic x.Measures) (aI (ak NF x.Quals) (aI (ak fZ x.Defs) trivial))))))
instance iK_tModule{x:aw}:K0l (aq x):=⟨bQ x⟩
theorem Ii(x:aw):(aq x).length=6:=by rw[pd];rfl
theorem dM(x:aw):bO (.agg (aq x))=some (aq x):=rfl
theorem Xd:Pg.cellsOf 29=6:=by kernel_rfl
theorem bN(x:aw):aZ Pg 29 (aq x)=some (.agg (aq x)):=by
 have:=kO (P:=Pg) (t:=29) (l:=aq x) (r:=[]) (by kernel_rfl) (Xd.trans (Ii x).symm)
 rwa[vbh]at this
theorem g7(x:aw)(r:List PVal):aZ Pg 29 ([sl kc x.Datas,sl Ba x.Classes,sl jK x.Instances,sl d7 x.Measures,sl ja x.Quals,sl aQ x.Defs]++r)=some (.agg (aq x)):=by
 rw[<-pd];exact kO (by kernel_rfl) (Xd.trans (Ii x).symm)
theorem Mw(x0:(List eZ)):cF Pg 29 [(0,sl kc x0)]=some (.agg (aq (⟨x0,([]:List dO),([]:List bR),([]:List cf),([]:List e8),([]:List bD)⟩:aw))):=by
 kernel_rfl
theorem Ms(x0:(List eZ)):wL Pg 29 [(0,sl kc x0)] [(1,164),(2,167),(3,120),(4,122),(5,65)]:=by
 exact⟨[sl kc x0,.val dv,.val dv,.val dv,.val dv,.val dv],by kernel_rfl,(aI rfl (aI rfl (aI rfl (aI rfl (aI rfl vzz)))))⟩
theorem Mx(x3:(List cf)):cF Pg 29 [(3,sl d7 x3)]=some (.agg (aq (⟨([]:List eZ),([]:List dO),([]:List bR),x3,([]:List e8),([]:List bD)⟩:aw))):=by
 kernel_rfl
theorem Mt(x3:(List cf)):wL Pg 29 [(3,sl d7 x3)] [(0,116),(1,164),(2,167),(4,122),(5,65)]:=by
 exact⟨[.val dv,.val dv,.val dv,sl d7 x3,.val dv,.val dv],by kernel_rfl,(aI rfl (aI rfl (aI rfl (aI rfl (aI rfl vzz)))))⟩
theorem My(x4:(List e8)):cF Pg 29 [(4,sl ja x4)]=some (.agg (aq (⟨([]:List eZ),([]:List dO),([]:List bR),([]:List cf),x4,([]:List bD)⟩:aw))):=by
 kernel_rfl
theorem Mu(x4:(List e8)):wL Pg 29 [(4,sl ja x4)] [(0,116),(1,164),(2,167),(3,120),(5,65)]:=by
 exact⟨[.val dv,.val dv,.val dv,.val dv,sl ja x4,.val dv],by kernel_rfl,(aI rfl (aI rfl (aI rfl (aI rfl (aI rfl vzz)))))⟩
theorem rZ(x5:(List bD)):cF Pg 29 [(5,sl aQ x5)]=some (.agg (aq (⟨([]:List eZ),([]:List dO),([]:List bR),([]:List cf),([]:List e8),x5⟩:aw))):=by
 kernel_rfl
theorem rY(x5:(List bD)):wL Pg 29 [(5,sl aQ x5)] [(0,116),(1,164),(2,167),(3,120),(4,122)]:=by
 exact⟨[.val dv,.val dv,.val dv,.val dv,.val dv,sl aQ x5],by kernel_rfl,(aI rfl (aI rfl (aI rfl (aI rfl (aI rfl vzz)))))⟩
theorem pP(x:aw):aH Pg 29 (.eptr (aq x)) 0=some (.eptr ((aq x).drop 0))/\aZ Pg 22 ((aq x).drop 0)=some (sl kc x.Datas):=⟨by kernel_rfl,by kernel_rfl⟩
theorem pQ(x:aw):aH Pg 29 (.eptr (aq x)) 3=some (.eptr ((aq x).drop 3))/\aZ Pg 25 ((aq x).drop 3)=some (sl d7 x.Measures):=⟨by kernel_rfl,by kernel_rfl⟩
theorem pR(x:aw):aH Pg 29 (.eptr (aq x)) 4=some (.eptr ((aq x).drop 4))/\aZ Pg 26 ((aq x).drop 4)=some (sl ja x.Quals):=⟨by kernel_rfl,by kernel_rfl⟩
theorem f8(x:aw):aH Pg 29 (.eptr (aq x)) 5=some (.eptr ((aq x).drop 5))/\aZ Pg 27 ((aq x).drop 5)=some (sl aQ x.Defs):=⟨by kernel_rfl,by kernel_rfl⟩
structure aF where
 level:Int
 left:Int
 right:Int
 sign:ac
deriving DecidableEq
def eh(x:aF):List PVal:=[.int .i64 x.level,.int .i64 x.left,.int .i64 x.right,.str x.sign]
theorem xn(x:aF):eh x=[.int .i64 x.level,.int .i64 x.left,.int .i64 x.right,.str x.sign]:=rfl
theorem Hi(x:aF):eP 0 (eh x):=(aI vzz (aI vzz (aI vzz (aI vzz vzz))))
instance iK_predtext_form{x:aF}:K0l (eh x):=⟨Hi x⟩
theorem bX(x:aF):bO (.agg (eh x))=some [.int .i64 x.level,.int .i64 x.left,.int .i64 x.right,.str x.sign]:=by rw[xn];rfl
theorem cr(x:aF):PVal.agg [.int .i64 x.level,.int .i64 x.left,.int .i64 x.right,.str x.sign]=.agg (eh x):=by rw[xn]
theorem Ea:cF Pg 254 []=some (.agg (eh (⟨0,0,0,([]:ac)⟩:aF))):=by
 kernel_rfl
theorem bz(x0:Int)(x1:Int)(x2:Int)(x3:ac):cF Pg 254 [(0,.int .i64 x0),(1,.int .i64 x1),(2,.int .i64 x2),(3,.str x3)]=some (.agg (eh (⟨x0,x1,x2,x3⟩:aF))):=by
 kernel_rfl
structure au where
 n:Bool
 name:Bool
 least:Int
 most:Int
 params:Bool
 alts:Bool
 typesLeast:Int
 typesMost:Int
 types:Bool
deriving DecidableEq
def aA(x:au):List PVal:=[.bool x.n,.bool x.name,.int .i64 x.least,.int .i64 x.most,.bool x.params,.bool x.alts,.int .i64 x.typesLeast,.int .i64 x.typesMost,.bool x.types]
theorem lO(x:au):aA x=[.bool x.n,.bool x.name,.int .i64 x.least,.int .i64 x.most,.bool x.params,.bool x.alts,.int .i64 x.typesLeast,.int .i64 x.typesMost,.bool x.types]:=rfl
theorem IM(x:au):eP 0 (aA x):=(aI vzz (aI vzz (aI vzz (aI vzz (aI vzz (aI vzz (aI vzz (aI vzz (aI vzz vzz)))))))))
instance iK_syntax_shape{x:au}:K0l (aA x):=⟨IM x⟩
theorem Hq(x:au):(aA x).length=9:=by rw[lO];rfl
theorem z6(x:au):bO (.agg (aA x))=some (aA x):=rfl
theorem cc(x:au):bO (.agg (aA x))=some [.bool x.n,.bool x.name,.int .i64 x.least,.int .i64 x.most,.bool x.params,.bool x.alts,.int .i64 x.typesLeast,.int .i64 x.typesMost,.bool x.types]:=by rw[lO];rfl
theorem Xa:Pg.cellsOf 237=9:=by kernel_rfl
theorem xp(x:au)(r:List PVal):aZ Pg 237 ([.bool x.n,.bool x.name,.int .i64 x.least,.int .i64 x.most,.bool x.params,.bool x.alts,.int .i64 x.typesLeast,.int .i64 x.typesMost,.bool x.types]++r)=some (.agg (aA x)):=by
 rw[<-lO];exact kO (by kernel_rfl) (Xa.trans (Hq x).symm)
theorem cp(x:au):PVal.agg [.bool x.n,.bool x.name,.int .i64 x.least,.int .i64 x.most,.bool x.params,.bool x.alts,.int .i64 x.typesLeast,.int .i64 x.typesMost,.bool x.types]=.agg (aA x):=by rw[lO]
theorem Fh:cF Pg 237 []=some (.agg (aA (⟨false,false,0,0,false,false,0,0,false⟩:au))):=by
 kernel_rfl
theorem Ff(x0:Bool):cF Pg 237 [(0,.bool x0)]=some (.agg (aA (⟨x0,false,0,0,false,false,0,0,false⟩:au))):=by
 kernel_rfl
theorem AB(x1:Bool)(x2:Int)(x3:Int):cF Pg 237 [(1,.bool x1),(2,.int .i64 x2),(3,.int .i64 x3)]=some (.agg (aA (⟨false,x1,x2,x3,false,false,0,0,false⟩:au))):=by
 kernel_rfl
theorem kp(x1:Bool)(x2:Int)(x3:Int)(x8:Bool)(x7:Int):cF Pg 237 [(1,.bool x1),(2,.int .i64 x2),(3,.int .i64 x3),(8,.bool x8),(7,.int .i64 x7)]=some (.agg (aA (⟨false,x1,x2,x3,false,false,0,x7,x8⟩:au))):=by
 kernel_rfl
theorem xf(x1:Bool)(x3:Int)(x8:Bool)(x7:Int):cF Pg 237 [(1,.bool x1),(3,.int .i64 x3),(8,.bool x8),(7,.int .i64 x7)]=some (.agg (aA (⟨false,x1,0,x3,false,false,0,x7,x8⟩:au))):=by
 kernel_rfl
theorem Fg(x1:Bool):cF Pg 237 [(1,.bool x1)]=some (.agg (aA (⟨false,x1,0,0,false,false,0,0,false⟩:au))):=by
 kernel_rfl
theorem kH(x2:Int)(x3:Int):cF Pg 237 [(2,.int .i64 x2),(3,.int .i64 x3)]=some (.agg (aA (⟨false,false,x2,x3,false,false,0,0,false⟩:au))):=by
 kernel_rfl
theorem ur(x2:Int)(x3:Int)(x8:Bool)(x6:Int)(x7:Int):cF Pg 237 [(2,.int .i64 x2),(3,.int .i64 x3),(8,.bool x8),(6,.int .i64 x6),(7,.int .i64 x7)]=some (.agg (aA (⟨false,false,x2,x3,false,false,x6,x7,x8⟩:au))):=by
 kernel_rfl
theorem AC(x4:Bool)(x2:Int)(x3:Int):cF Pg 237 [(4,.bool x4),(2,.int .i64 x2),(3,.int .i64 x3)]=some (.agg (aA (⟨false,false,x2,x3,x4,false,0,0,false⟩:au))):=by
 kernel_rfl
theorem AD(x5:Bool)(x2:Int)(x3:Int):cF Pg 237 [(5,.bool x5),(2,.int .i64 x2),(3,.int .i64 x3)]=some (.agg (aA (⟨false,false,x2,x3,false,x5,0,0,false⟩:au))):=by
 kernel_rfl
theorem uw(x:au):aH Pg 237 (.eptr (aA x)) 1=some (.eptr ((aA x).drop 1))/\aZ Pg 4 ((aA x).drop 1)=some (.bool x.name):=⟨by kernel_rfl,by kernel_rfl⟩
theorem uy(x:au):aH Pg 237 (.eptr (aA x)) 2=some (.eptr ((aA x).drop 2))/\aZ Pg 3 ((aA x).drop 2)=some (.int .i64 x.least):=⟨by kernel_rfl,by kernel_rfl⟩
theorem uz(x:au):aH Pg 237 (.eptr (aA x)) 3=some (.eptr ((aA x).drop 3))/\aZ Pg 3 ((aA x).drop 3)=some (.int .i64 x.most):=⟨by kernel_rfl,by kernel_rfl⟩
theorem uA(x:au):aH Pg 237 (.eptr (aA x)) 4=some (.eptr ((aA x).drop 4))/\aZ Pg 4 ((aA x).drop 4)=some (.bool x.params):=⟨by kernel_rfl,by kernel_rfl⟩
theorem kq(x:au):aH Pg 237 (.eptr (aA x)) 5=some (.eptr ((aA x).drop 5))/\aZ Pg 4 ((aA x).drop 5)=some (.bool x.alts):=⟨by kernel_rfl,by kernel_rfl⟩
theorem uB(x:au):aH Pg 237 (.eptr (aA x)) 6=some (.eptr ((aA x).drop 6))/\aZ Pg 3 ((aA x).drop 6)=some (.int .i64 x.typesLeast):=⟨by kernel_rfl,by kernel_rfl⟩
theorem uC(x:au):aH Pg 237 (.eptr (aA x)) 7=some (.eptr ((aA x).drop 7))/\aZ Pg 3 ((aA x).drop 7)=some (.int .i64 x.typesMost):=⟨by kernel_rfl,by kernel_rfl⟩
theorem XI:E2 Pg 22 116 kc:=⟨underlying22,λx=>(QY x).trans T6.symm,by kernel_rfl,by rw[T6];decide,by kernel_rfl,vaP (by kernel_rfl),Q6,NE⟩
theorem XJ:E2 Pg 25 120 d7:=⟨underlying25,λx=>(MY x).trans T7.symm,by kernel_rfl,by rw[T7];decide,by kernel_rfl,vaP (by kernel_rfl),M3,Ic⟩
theorem XK:E2 Pg 26 122 ja:=⟨underlying26,λx=>(Q0 x).trans T8.symm,by kernel_rfl,by rw[T8];decide,by kernel_rfl,vaP (by kernel_rfl),Ra,NF⟩
theorem AV:E2 Pg 27 65 aQ:=⟨underlying27,λx=>(J3 x).trans Tt.symm,by kernel_rfl,by rw[Tt];decide,by kernel_rfl,vaP (by kernel_rfl),Sy,fZ⟩
theorem Vl:Pg.cellsOf 9=1:=by kernel_rfl
theorem cz:E2 Pg 32 9 cS:=⟨underlying32,λ_=>Vl.symm,by kernel_rfl,by rw[Vl];decide,by kernel_rfl,vaP (by kernel_rfl),qcq,eU⟩
theorem fU:E2 Pg 45 50 aj:=⟨underlying45,λx=>(Hr x).trans Tp.symm,by kernel_rfl,by rw[Tp];decide,by kernel_rfl,vaP (by kernel_rfl),Q7,b7⟩
theorem tV:E2 Pg 46 185 aD:=⟨underlying46,λx=>(Eu x).trans PR.symm,by kernel_rfl,by rw[PR];decide,by kernel_rfl,vaP (by kernel_rfl),Pm,dh⟩
theorem gp:E2 Pg 47 124 aN:=⟨underlying47,λx=>(J1 x).trans PQ.symm,by kernel_rfl,by rw[PQ];decide,by kernel_rfl,vaP (by kernel_rfl),Sx,dy⟩
theorem dC:E2 Pg 48 61 ai:=⟨underlying48,λx=>(Ht x).trans Ts.symm,by kernel_rfl,by rw[Ts];decide,by kernel_rfl,vaP (by kernel_rfl),Rb,bE⟩
theorem qcz:E2 Pg 52 223 bv:=⟨underlying52,λx=>(QZ x).trans Ub.symm,by kernel_rfl,by rw[Ub];decide,by kernel_rfl,vaP (by kernel_rfl),Q8,ff⟩
theorem TS:E2 Pg 53 194 bP:=⟨underlying53,λx=>(Sr x).trans T9.symm,by kernel_rfl,by rw[T9];decide,by kernel_rfl,vaP (by kernel_rfl),Sw,jb⟩
theorem XL:E2 Pg 54 197 aS:=⟨underlying54,λx=>(J2 x).trans R8.symm,by kernel_rfl,by rw[R8];decide,by kernel_rfl,vaP (by kernel_rfl),Pl,eA⟩
theorem fl:E2 Pg 57 59 aa:=⟨underlying57,λx=>(Hs x).trans Tq.symm,by kernel_rfl,by rw[Tq];decide,by kernel_rfl,vaP (by kernel_rfl),Q9,aJ⟩
theorem X1:Pg.cellsOf 5=1:=by kernel_rfl
theorem SP:E2 Pg 104 5 (cI .u8):=⟨underlying104,λ_=>X1.symm,by kernel_rfl,by rw[X1];decide,by kernel_rfl,vaP (by kernel_rfl),(qcp .u8),(RD .u8)⟩
theorem Oj:E2 Pg 113 212 cW:=⟨underlying113,λx=>(Ss x).trans Ua.symm,by kernel_rfl,by rw[Ua];decide,by kernel_rfl,vaP (by kernel_rfl),Sz,Fk⟩
theorem bK(l:List ac)(n:Nat)(hn:(decide (l.length=n)&&decide (n * 1<=16777216))=true):ei Pg 32 n ((l.map PVal.str).zipIdx 0|>.map λx=>(x.2,x.1))=some (sl cS l):=cz.mk' (v:=PVal.str) VC l n (by rw[Vl];exact hn)
theorem Qk:(Pg.underlying 113).any GB=true:=by kernel_rfl
theorem VH:(Pg.underlying 32).any GB=true:=by kernel_rfl
theorem qdr:(Pg.underlying 4).any GB=true:=by kernel_rfl
theorem XM:(Pg.underlying 45).any GB=true:=by kernel_rfl
theorem VI:(Pg.underlying 48).any GB=true:=by kernel_rfl
theorem Iw:(Pg.underlying 9).any GB=true:=by kernel_rfl
theorem qfl:BZ Pg 3=some ((PVal.int .i64) 0):=by kernel_rfl
theorem V7:BZ Pg 4=some (PVal.bool false):=by kernel_rfl
theorem qe2:dZ Pg 3=some [.int .i64 0]:=by kernel_rfl
theorem TQ:dZ Pg 29=some [sl kc ([]:List eZ),sl Ba ([]:List dO),sl jK ([]:List bR),sl d7 ([]:List cf),sl ja ([]:List e8),sl aQ ([]:List bD)]:=by kernel_rfl
theorem qcs:dZ Pg 32=some [sl cS ([]:List ac)]:=by kernel_rfl
theorem Nk:dZ Pg 50=some [.int .i64 0,.str ([]:ac),.int .i64 0,sl aj ([]:List am),sl aD ([]:List aU),sl aN ([]:List ca),sl ai ([]:List al)]:=by kernel_rfl
theorem PA:dZ Pg 59=some [.int .i64 0,.str ([]:ac),.int .i64 0,sl aa ([]:List ag)]:=by kernel_rfl
theorem Rq:dZ Pg 61=some [.int .i64 0,.str ([]:ac),sl ai ([]:List al),sl cS ([]:List ac),.int .i64 0,.str ([]:ac),.int .i64 0,sl aa ([]:List ag),sl aa ([]:List ag)]:=by kernel_rfl
theorem qct:dZ Pg 63=some [sl cS ([]:List ac),sl bv ([]:List cR),sl bP ([]:List eT),sl aS ([]:List bT),.int .i64 0,.str ([]:ac),sl ai ([]:List al),sl cS ([]:List ac),.int .i64 0,.str ([]:ac),.int .i64 0,sl aa ([]:List ag),sl aa ([]:List ag),sl aa ([]:List ag)]:=by kernel_rfl
theorem zt:dZ Pg 65=some [.str ([]:ac),sl cS ([]:List ac),.int .i64 0,.str ([]:ac),.int .i64 0,sl aj ([]:List am),sl aD ([]:List aU),sl aN ([]:List ca),sl ai ([]:List al),.int .i64 0,.bool false,sl cS ([]:List ac),sl bv ([]:List cR),sl bP ([]:List eT),sl aS ([]:List bT),.int .i64 0,.str ([]:ac),sl ai ([]:List al),sl cS ([]:List ac),.int .i64 0,.str ([]:ac),.int .i64 0,sl aa ([]:List ag),sl aa ([]:List ag),sl aa ([]:List ag)]:=by kernel_rfl
theorem qcu:dZ Pg 91=some [.int .i64 0]:=by kernel_rfl
theorem XE:dZ Pg 94=some [.val (.pointer none)]:=by kernel_rfl
theorem qcv:dZ Pg 96=some [.val .nilFunc]:=by kernel_rfl
theorem XA:dZ Pg 106=some [.val (.pointer none),sl (cI .u8) ([]:List Int)]:=by kernel_rfl
theorem DN:dZ Pg 124=some [.str ([]:ac),sl cS ([]:List ac),.int .i64 0,.str ([]:ac),.int .i64 0,sl aj ([]:List am),sl aD ([]:List aU),sl aN ([]:List ca),sl ai ([]:List al)]:=by kernel_rfl
theorem Qg:dZ Pg 185=some [.str ([]:ac),.int .i64 0,.str ([]:ac),sl ai ([]:List al),sl cS ([]:List ac),.int .i64 0,.str ([]:ac),.int .i64 0,sl aa ([]:List ag),sl aa ([]:List ag)]:=by kernel_rfl
theorem XB:dZ Pg 197=some [.str ([]:ac),sl cW ([]:List uj),.int .i64 0,.str ([]:ac),.int .i64 0,sl aa ([]:List ag),.int .i64 0,.str ([]:ac),.int .i64 0,sl aa ([]:List ag)]:=by kernel_rfl
theorem Uo:dZ Pg 237=some [.bool false,.bool false,.int .i64 0,.int .i64 0,.bool false,.bool false,.int .i64 0,.int .i64 0,.bool false]:=by kernel_rfl
theorem XC:dZ Pg 248=some [.val .nilFunc]:=by kernel_rfl
theorem XD:dZ Pg 251=some [.val .nilFunc]:=by kernel_rfl
theorem SL:dZ Pg 254=some [.int .i64 0,.int .i64 0,.int .i64 0,.str ([]:ac)]:=by kernel_rfl
def g8:List ac:=[([]:ac),([]:ac),([]:ac),([]:ac),([]:ac),([]:ac),([]:ac),([]:ac),([]:ac),([]:ac),([43]:ac),([45]:ac),([42]:ac),([100,105,118]:ac),([109,111,100]:ac),([]:ac),([61,61]:ac),([60]:ac),([60,61]:ac),([38,38]:ac),([124,124]:ac)]
theorem W9:Pg.cellsOf 231=21:=by kernel_rfl
theorem BP{k:IntKind}{i:Int}{x:ac}(h:dw g8 i=some x):iq Pg 231 (.eptr (g8.map PVal.str)) (.int k i)=some (.eptr ((g8.map PVal.str).drop i.toNat)):=WJ underlying231 Vl (by kernel_rfl) (by kernel_rfl) h
theorem BQ{i:Int}{x:ac}(h:dw g8 i=some x):aZ Pg 9 ((g8.map PVal.str).drop i.toNat)=some (PVal.str x):=WL (by kernel_rfl) h
def fx:List ac:=[([97,110,100]:ac),([97,115,115,117,109,101]:ac),([98,111,111,108]:ac),([98,111,117,110,100]:ac),([99,97,115,101]:ac),([99,101,108,108]:ac),([99,108,97,115,115]:ac),([100,97,116,97]:ac),([100,101,102]:ac),([100,105,118]:ac),([101,108,115,101]:ac),([101,110,100]:ac),([102,97,108,115,101]:ac),([102,111,114,97,108,108]:ac),([102,117,110]:ac),([103,101,116]:ac),([105,102]:ac),([105,110]:ac),([105,110,115,116]:ac),([105,110,116]:ac),([105,110,118,97,114,105,97,110,116]:ac),([108,101,116]:ac),([109,97,116,99,104]:ac),([109,101,97,115,117,114,101]:ac),([109,101,116,114,105,99]:ac),([109,111,100]:ac),([109,117]:ac),([110,101,119]:ac),([110,111,116]:ac),([111,102]:ac),([111,114]:ac),([113,117,97,108]:ac),([114,101,102,108,101,99,116]:ac),([115,101,116]:ac),([116,104,101,110]:ac),([116,114,117,101]:ac),([117,115,101]:ac),([118]:ac),([118,97,108]:ac),([116,97,103]:ac),([119,104,101,114,101]:ac),([119,105,116,104]:ac)]
theorem Xb:Pg.cellsOf 257=42:=by kernel_rfl
theorem FO:aZ Pg 257 (fx.map PVal.str)=some (.agg (fx.map PVal.str)):=by kernel_rfl
theorem FM{k:IntKind}{i:Int}{x:ac}(h:dw fx i=some x):yV Pg 257 (.agg (fx.map PVal.str)) (.int k i)=some (PVal.str x):=WK underlying257 Vl (by kernel_rfl) (by kernel_rfl) (by kernel_rfl) h
def iB:List Int:=[1,10,100,1000,10000,100000,1000000,10000000,100000000,1000000000,10000000000,100000000000,1000000000000,10000000000000,100000000000000,1000000000000000,10000000000000000,100000000000000000,1000000000000000000,10000000000000000000]
theorem Xc:Pg.cellsOf 287=20:=by kernel_rfl
theorem W8:Pg.cellsOf 152=1:=by kernel_rfl
def xq:List Int:=[0,1,28,2,29,14,24,3,30,22,20,15,25,17,4,8,31,27,13,23,21,19,16,7,26,12,18,6,11,5,10,9]
theorem Xe:Pg.cellsOf 293=32:=by kernel_rfl
def xr:List Int:=[0,1,56,2,57,49,28,3,61,58,42,50,38,29,17,4,62,47,59,36,45,43,51,22,53,39,33,30,24,18,12,5,63,55,48,27,60,41,37,16,46,35,44,21,52,32,23,11,54,26,40,15,34,20,31,10,25,14,19,9,13,8,7,6]
theorem Xf:Pg.cellsOf 294=64:=by kernel_rfl
def Ow:ac:=[100,101,102,32]
def G9:ac:=[114,101,102,108,101,99,116,32]
def IG:ac:=[97,115,115,117,109,101,32]
def G2:ac:=[32,40]
def ee:ac:=[44,32]
def mE:ac:=[41]
def dA:ac:=[32,58,32]
def Ox:ac:=[102,111,114,97,108,108]
def wA:ac:=[32]
def Cn:ac:=[46,32]
def KY:ac:=[119,104,101,114,101,32]
def Mi:ac:=[60]
def SW:ac:=[73,110,116]
def PH:ac:=[66,111,111,108]
def PI:ac:=[67,101,108,108]
def IF:ac:=[62,46,32]
def KX:ac:=[98,111,117,110,100,32]
def qcM:ac:=[118]
def Ou:ac:=[41,32]
def SX:ac:=[116,114,117,101]
def wD:ac:=[60,61,62]
def G7:ac:=[61,62]
def G8:ac:=[124,124]
def G5:ac:=[38,38]
def Qs:ac:=[61]
def Cm:ac:=[33,61]
def G6:ac:=[60,61]
def Qr:ac:=[43]
def IE:ac:=[45]
def Qq:ac:=[42]
def mD:ac:=[40]
def Qt:ac:=[63]
def Qp:ac:=[33]
def wB:ac:=[32,45,62,32,40]
def ID:ac:=[41,46,32]
def uq:ac:=[32,45,62,32]
def Ay:ac:=[123,118,32,58,32]
def Oq:ac:=[32,60]
def Mk:ac:=[118,46,32]
def Uu:ac:=[62]
def jF:ac:=[41,32,45,62,32]
def IC:ac:=[32,124,32]
def Ux:ac:=[125]
def Cl:ac:=[32,109,101,116,114,105,99,32]
def wC:ac:=[32,61,32]
def Uv:ac:=[91]
def Uw:ac:=[93]
def IH:ac:=[102,117,110,32,40]
def Oy:ac:=[108,101,116,32]
def zE:ac:=[32,105,110,32]
def Qu:ac:=[105,102,32]
def G4:ac:=[32,116,104,101,110,32]
def G3:ac:=[32,101,108,115,101,32]
def Mj:ac:=[99,97,115,101,32]
def yz:ac:=[32,111,102,32,123,32]
def Ov:ac:=[59,32]
def Ot:ac:=[32,125]
def Oz:ac:=[117,115,101,32]
def Uz:ac:=[110,101,119]
def Uy:ac:=[103,101,116]
def UA:ac:=[115,101,116]
def qcL:ac:=[10]
def GE:List (Nat×List PVal):=[(0,g8.map PVal.str),(1,fx.map PVal.str),(2,iB.map (PVal.int .u64)),(4,xq.map (PVal.int .u8)),(5,xr.map (PVal.int .u8))]
abbrev OV(f:FuncId)(args:List PVal){R:Type}(o:Option R)(res:R->PVal)(ro:List (Nat×TypeId)):Prop:=We Pg GE f args o res ro
abbrev OG(f:FuncId)(args:List PVal)(oa:List ((Nat×Nat)×TypeId))(H:List ax){R:Type}(o:Option R)(res:R->PVal)(ro:List (Nat×TypeId))(H':R->List ax):Prop:=XU Pg GE f args oa H o res ro H'
abbrev ON(f:FuncId)(args:List PVal){R:Type}(o:Option R)(res:R->PVal)(ro:List (Nat×TypeId))(H':R->List ax):Prop:=qcP Pg GE f args o res ro H'
abbrev OJ(m:Nat)(c:Code){X:Type}(o:Option X)(e:Exit)(so:X->ay)(st:ay):Prop:=ZQ Pg GE m c o e so st
abbrev OK(m:Nat)(c:Code){X:Type}(o:Option X)(ex:X->Exit)(so:X->ay)(st:ay):Prop:=ZR Pg GE m c o ex so st
abbrev OL(m:Nat)(c:Code){σ X:Type}(o:Option (σ⊕X))(S:σ->ay)(ex:X->Exit)(so:X->ay)(st:ay):Prop:=Wd Pg GE m c o S ex so st
abbrev waA:=List ac
abbrev waB:=List ag
abbrev waC:=List al
abbrev waD:=List ca
abbrev waE:=List am
abbrev waF:=List aU
abbrev waG:=List bT
abbrev waH:=List cR
abbrev waI:=List eT
abbrev waJ:=List bD
abbrev wbA:=List uj
abbrev oW(GE:List (Nat×List PVal))(Γ:aP)(w:World):ko:=⟨GE,Γ,w,λ_=>False⟩
structure qk(GE:List (Nat×List PVal))(Γ:aP)(w:World):Prop where
 wi:∀b n,Γ b=some n->∃c t fr,w.heap[b]? =some (.cells c t fr)/\n<=c.size
 gl:∀g cs,(g,cs)∈GE->VR Γ [] w (.eptr cs) (.pointer (some ⟨g,0,none⟩))
 gc:∀g cs,(g,cs)∈GE->eP 0 cs
 gx:∀g cs,(g,cs)∈GE->g<w.heap.size/\∃c t fr,w.heap[g]? =some (.cells c t fr)/\c.size=cs.length
theorem VR.clo{Γ:aP}{bs bs':bg}{w:World}{p:PVal}{v:Value}(h:VR Γ bs w p v)(hc:p.cl 0):VR Γ bs' w p v:=h.restrict (n:=0) hc λi b hi _=>absurd hi (vaw _)
section
variable{P:Program}{E:ko}{Γ:aP}{bs:bg}{ow:Nat->Option fR}{w:World}{a:Array Value}{st:ay}
theorem SR.base(h:SR P E Γ bs ow w a st):qk E.GE Γ w where
 wi:=h.wi
 gl:=λg cs hg=>(h.gl g cs hg).clo (by simp only[PVal.cl];exact h.gc g cs hg)
 gc:=h.gc
 gx:=λg cs hg=>⟨(h.gnow hg).1,(h.gnow hg).2.2.2⟩
theorem qk.good{GE:List (Nat×List PVal)}(hB:qk GE Γ w):mj GE 0 (oW GE Γ w) where
 ge:=rfl
 low:=λb n h=>by obtain⟨c,t,fr,h1,_⟩:=hB.wi b n h;exact(vab.1 h1).1
 nt:=λ_ _ hb=>hb
 gl:=hB.gl
theorem qk.fresh{GE:List (Nat×List PVal)}(hB:qk GE Γ w)(k:Nat){tmps:List PVal}(hs:a.size=tmps.length)(hv:∀(t:Nat) p v,tmps[t]? =some p->a[t]? =some v->VR Γ [] w p v):SR P (oW GE Γ w) Γ (List.replicate k none) (λ_=>none) w a ⟨tmps,List.replicate k .dead,[]⟩:=by
 have hno:∀(i b:Nat),(List.replicate k (none:Option Nat))[i]? =some (some b)->False:=λi b h=>by
  rw[vaE]at h
  split at h<;>simp at h
 exact{
  wi:=hB.wi
  sz:=hs
  tm:=λt p v hp hv'=>(hv t p v hp hv').mono (.refl _ _) (λi b h=>by simp at h)
  bl:=by simp
  bx:=λi b B hb=>(hno i b hb).elim
  inj:=λi j b hb=>(hno i b hb).elim
  bn:=λi b hb=>(hno i b hb).elim
  on:=λb L hL=>by cases hL
  ot:=λt k e he=>by simp at he
  ob:=λi j e cs own b _ _ hb=>(hno i b hb).elim
  gl:=λg cs hg=>(hB.gl g cs hg).mono (.refl _ _) (λi b h=>by simp at h)
  gc:=hB.gc
  gx:=λg cs hg=>⟨(hB.gx g cs hg).1,λh=>h,(hB.gx g cs hg).2⟩
  step:=.refl _ _ _ _}
theorem SR.again(h:SR P E Γ bs ow w a st)(hc:eP 0 st.tmps){GE:List (Nat×List PVal)}{Γ':aP}{w':World}(hB:qk GE Γ' w')(hle:Γ.Le w Γ' w')(k:Nat):SR P (oW GE Γ' w') Γ' (List.replicate k none) (λ_=>none) w' a ⟨st.tmps,List.replicate k .dead,[]⟩:=
 hB.fresh k h.sz λt p v hp hv=>((h.tm t p v hp hv).clo (ke hc hp)).mono hle (.refl _)
theorem SR.aside(h:SR P E Γ bs ow w a st){GE:List (Nat×List PVal)}{Γ':aP}{bs':bg}{ow':Nat->Option fR}{w':World}{a':Array Value}{st':ay}(h':SR P (oW GE Γ w) Γ' bs' ow' w' a' st'):SR P E Γ' bs ow w' a st:=
 h.world (λ_=>False) h'.step.le h'.wi h'.step.os h'.step.tape h'.step.output h'.step.size (λb hb _=>h'.step.keep b hb id) (λ_ hx=>hx.elim) (λ_ _ _ hx=>hx) (λ_ _ _ hx=>hx) h'.step.drawn
theorem SR.putOther(h:SR P E Γ bs ow w a st){l:Nat}{o:Obj}(hT:¬aR bs ow l)(hE:E.T l\/E.w.heap.size<=l)(ho:∀c t fr,w.heap[l]? ≠some (.cells c t fr)):SR P E Γ bs ow (w.putObj l o) a st/\Γ.Le w Γ (w.putObj l o):=by
 have hg:∀b n,Γ b=some n->b≠l:=λb n hb e=>by
  obtain⟨c,t,fr,h1,_⟩:=h.wi b n hb
  exact ho c t fr (e▸h1)
 have hle:Γ.Le w Γ (w.putObj l o):=λb n hb _=>⟨n,hb,vaj _,λk _=>bj (World.putObj_heap_other (hg b n hb)) k⟩
 refine⟨h.world (λb=>b=l) hle (λb n hb=>?_) rfl rfl rfl (by simp) (λb _ hb=>⟨World.putObj_heap_other hb,rfl⟩) (λb hb=>hb▸hE) (λi b hb e=>hT (.inl ⟨i,e▸hb⟩)) (λb L hL e=>hT (.inr (by rw[<-e,hL];simp))),hle⟩
 obtain⟨c,t,fr,h1,h2⟩:=h.wi b n hb
 exact⟨c,t,fr,(World.putObj_heap_other (hg b n hb)).trans h1,h2⟩
theorem SR.rebase(h:SR P E Γ bs ow w a st):SR P ⟨E.GE,Γ,w,aR bs ow⟩ Γ bs ow w a st:=
 { h with
  bn:=λi b hb=>.inl (.inl ⟨i,hb⟩)
  on:=λb L hL=>⟨(h.on b L hL).1,.inl (.inr (by rw[hL];simp))⟩
  gx:=λg cs hg=>by
   obtain⟨k1,k2,k3,k4⟩:=h.gnow hg
   refine⟨k1,λhT=>?_,k4⟩
   rcases hT with⟨i,hi⟩|hT
   ·exact k2 i g hi rfl
   ·exact hT k3
  step:=.refl _ _ _ _}
theorem SR.touchE(h:SR P E Γ bs ow w a st){b:Nat}(hb:aR bs ow b):E.T b\/E.w.heap.size<=b:=by
 rcases hb with⟨i,hi⟩|hb
 ·exact h.bn i b hi
 ·cases hL:ow b with
  |none=>exact absurd hL hb
  |some L=>exact(h.on b L hL).2
theorem SR.unbase(h:SR P E Γ bs ow w a st){Γ':aP}{bs':bg}{ow':Nat->Option fR}{w':World}{a':Array Value}{st':ay}(h':SR P ⟨E.GE,Γ,w,aR bs ow⟩ Γ' bs' ow' w' a' st'):SR P E Γ' bs' ow' w' a' st':=by
 have hT:∀b,aR bs ow b\/w.heap.size<=b->E.T b\/E.w.heap.size<=b:=λb hb=>hb.elim h.touchE λhb=>.inr (vay h.step.size hb)
 exact{h' with
  bn:=λi b hb=>hT b (h'.bn i b hb)
  on:=λb L hL=>⟨(h'.on b L hL).1,hT b (h'.on b L hL).2⟩
  gx:=h.gx
  step:={
   os:=h'.step.os.trans h.step.os
   tape:=h'.step.tape.trans h.step.tape
   output:=h'.step.output.trans h.step.output
   size:=vay h.step.size h'.step.size
   drawn:=vay h.step.drawn h'.step.drawn
   keep:=λb hb hTb=>by
    have hlt:b<w.heap.size:=vau hb h.step.size
    have hn:¬aR bs ow b:=λhx=>(h.touchE hx).elim hTb λhx=>absurd hx (vcg.2 hb)
    obtain⟨k1,k2⟩:=h'.step.keep b hlt hn
    obtain⟨q1,q2⟩:=h.step.keep b hb hTb
    exact⟨k1.trans q1,k2.trans q2⟩
   le:=h.step.le.trans h'.step.le}}
theorem cC.on{m:Nat}{c:Code}{Q:Exit->ay->Prop}(hS:cC P E.GE m c Q st)(hm:m≠0)(h:SR P E Γ bs ow w a st)(hl:m % 1000<=bs.length)(ro:Option Nat)(ds:List Deferred):CQ ro P c (λe a' w'=>a'.defers=ds/\∃Γ' bs' ow' st',SR P E Γ' bs' ow' w' a'.tmps st'/\Q e st'/\(∀i:Nat,i<m % 1000->bs'[i]? =bs[i]?)/\Γ.Le w Γ' w'/\w.heap.size<=w'.heap.size/\
   ∀b,b<w.heap.size->¬aR bs ow b->w'.heap[b]? =w.heap[b]?/\¬aR bs' ow' b) ⟨a,ds⟩ w:=by
 have hE:mj E.GE m ⟨E.GE,Γ,w,aR bs ow⟩:={
  ge:=rfl
  low:=λb n hb=>h.lt_of_ghost hb
  nt:=λh0=>absurd h0 hm
  gl:=h.base.gl}
 have hlen:(bs.take (m % 1000)).length=m % 1000:=by simp;omega
 refine ew (hS ro ⟨E.GE,Γ,w,aR bs ow⟩ (bs.take (m % 1000)) ⟨a,ds⟩ w hE hlen ⟨Γ,bs,ow,h.rebase,λi hi=>?_⟩) λe a' w' hq=>?_
 ·rw[vao (by omega)]
 obtain⟨hd,st',⟨Γ',bs',ow',h',hk⟩,hQ⟩:=hq
 refine⟨hd,Γ',bs',ow',st',h.unbase h',hQ,λi hi=>?_,h'.step.le,h'.step.size,λb hb hT=>⟨(h'.step.keep b hb hT).1,λhx=>?_⟩⟩
 ·rw[hk i (by omega),vao hi]
 ·exact(h'.touchE hx).elim hT λhx=>absurd hx (vcg.2 hb)
theorem cC.wide{GE:List (Nat×List PVal)}{c:Code}{Q:Exit->ay->Prop}{st0:ay}(hS:cC P GE 0 c Q st0)(hB:qk GE Γ w){ow:Nat->Option fR}{bs:bg}(h:SR P (oW GE Γ w) Γ bs ow w a st0)(n:Nat)(ds:List Deferred):c.wpIn Fence.wide n P (λe a' w'=>a'.defers=ds/\∃Γ' bs' ow' st',SR P (oW GE Γ w) Γ' bs' ow' w' a'.tmps st'/\Q e st') ⟨a,ds⟩ w:=
 wpIn_wide.2 (wp_mono (hS none (oW GE Γ w) [] ⟨a,ds⟩ w hB.good rfl ⟨Γ,bs,ow,h,λi hi=>absurd hi (vaw _)⟩) λe a' w' hq=>by
  obtain⟨hd,st',⟨Γ',bs',ow',h',_⟩,hQ⟩:=hq
  exact⟨hd,Γ',bs',ow',st',h',hQ⟩)
theorem cC.wideE{GE:List (Nat×List PVal)}{c:Code}{Q:Exit->ay->Prop}(hS:cC P GE 0 c Q st)(hE:mj GE 0 E)(h:SR P E Γ bs ow w a st)(n:Nat)(ds:List Deferred):c.wpIn Fence.wide n P (λe a' w'=>a'.defers=ds/\∃Γ' bs' ow' st',SR P E Γ' bs' ow' w' a'.tmps st'/\Q e st') ⟨a,ds⟩ w:=
 wpIn_wide.2 (wp_mono (hS none E [] ⟨a,ds⟩ w hE rfl ⟨Γ,bs,ow,h,λi hi=>absurd hi (vaw _)⟩) λe a' w' hq=>by
  obtain⟨hd,st',⟨Γ',bs',ow',h',_⟩,hQ⟩:=hq
  exact⟨hd,Γ',bs',ow',st',h',hQ⟩)
theorem SR.allocO(h:SR P E Γ bs ow w a st)(o:Obj):SR P E Γ bs ow (w.alloc o) a st/\Γ.Le w Γ (w.alloc o):=by
 have hlt:∀b n,Γ b=some n->b<w.heap.size:=λb n hb=>h.lt_of_ghost hb
 have hle:Γ.Le w Γ (w.alloc o):=λb n hb _=>⟨n,hb,vaj _,λk _=>bj (alloc_old w o (hlt b n hb)) k⟩
 refine⟨h.world (λ_=>False) hle (λb n hb=>?_) rfl rfl rfl (by simp[World.size_alloc]) (λb hb _=>⟨alloc_old w o hb,rfl⟩) (λ_ hx=>hx.elim) (λ_ _ _ hx=>hx) (λ_ _ _ hx=>hx),hle⟩
 obtain⟨c,t,fr,h1,h2⟩:=h.wi b n hb
 exact⟨c,t,fr,(alloc_old w o (hlt b n hb)).trans h1,h2⟩
theorem SR.forgetT(h:SR P E Γ bs ow w a st){tm:List PVal}(hf:If st.tmps tm=tm):SR P E Γ bs ow w a {st with tmps:=tm}:=
 { h with
  sz:=by rw[h.sz,<-MR (l:=st.tmps) (bs:=tm),hf]
  tm:=λt p v hp hv=>by
   rw[<-hf]at hp
   rcases MQ hp with rfl|hp'
   ·exact .undef v
   ·exact h.tm t p v hp' hv}
theorem SR.back(h:SR P E Γ bs ow w a st)(ho:st.own=[]){Γ':aP}{bs':bg}{ow':Nat->Option fR}{w':World}{a':Array Value}{st':ay}{H':List ax}(h':SR P E Γ' bs' ow' w' a' st')(hle:Γ.Le w Γ' w')
  (hbs:∀i:Nat,i<bs.length->bs'[i]? =bs[i]?) (hH:cU H'.length st'.boxes H') (hl:H'.length=bs.length):
  ∃ow'',SR P E Γ' bs ow'' w' a {st with boxes:=H'}/\∀b,aR bs ow'' b->aR bs' ow' b:=by
 have hf:=h'.finish (H':=H') (v:=undef) (r:=.undef) (src:=λk=>(0,k)) (ro:=[]) (.undef _) trivial hH (λx hx=>by simp at hx) (λx hx=>by simp at hx)
 have hb:bs'.take H'.length=bs:=by
  obtain⟨h1,_⟩:=kT hH
  have h2:H'.length<=bs'.length:=by rw[h'.bl];exact h1
  refine vaL λi=>?_
  by_cases hi:i<H'.length
  ·rw[vao hi];exact hbs i (by omega)
  ·rw[vb7 (by omega),vav (by omega)]
 rw[hb]at hf
 refine⟨_,{hf with
  sz:=h.sz
  tm:=λt p v hp hv=>(h.tm t p v hp hv).mono hle (.refl _)
  ot:=λt k e he=>by simp only[ho]at he;simp at he},λb hb=>?_⟩
 rcases hb with⟨i,hi⟩|hb
 ·exact .inl ⟨i,(hbs i (ah hi)).trans hi⟩
 ·refine .inr λe=>hb ?_
  simp[s8,e]
end
section
variable{P:Program}{n:Nat}{a:Act}{w:World}{next:Act->World->Prop}{Q:Exit->Act->World->Prop}
theorem Rc{o:Oper}(hd:db o=true)(h:o.wp P a w next Q):o.wpIn Fence.wide n P a w next Q:=by
 refine⟨λ_ _=>trivial,?_⟩
 have hs:o.semAt (Fence.wide).round a.eval=execOp a.eval o:=Oper.semAt_eq _ _ _ λc hc=>by unfold db at hd;rw[hc]at hd;cases hd
 rw[hs]
 unfold Oper.wp at h
 generalize (execOp a.eval o).run P w=r at *
 have hdep:(Fence.wide).depth.isSome=true->1<=n:=λh=>by simp[Fence.wide]at h
 cases r with
 | ok x w' =>
  cases x<;>simp only[Oper.upon]at h<;>simp only[Oper.uponIn]<;>first
   |exact h.elim
   |exact h
   |exact⟨hdep,callsIn_wide.2 h⟩
   | exact ⟨hdep,fun c cs _ => by
     obtain⟨v,w',r,s⟩:=h c cs
     exact⟨v,w',r,stepsIn_wide.2 s⟩⟩
 |halt x w'=>cases x<;>simp only[Oper.upon]at h<;>simp only[Oper.uponIn]<;>exact h
theorem QJ{o:Oper}{f:Operand}{args:Array Operand}{tys:Array TypeId}(ho:o.op=.call {callee:=.value f,args:=args,argTypes:=tys}){g:FuncId}{fs cs:Array Value}(hf:a.eval f=.func (.func g) fs cs)
  (hc:∀vs w,(callFunc g vs).run P w=.ok (.enter g vs) w) {R:Ending->World->Prop} (h:CallsIn Fence.wide (n - 1) P g (fs++args.map a.eval++cs) w R) (hR:∀e w',R e w'->∃v,e=.returned v/\next (a.put o.dst v) w'):o.wpIn Fence.wide n P a w next Q:=by
 refine⟨λ_ _=>trivial,?_⟩
 have hs:o.semAt (Fence.wide).round a.eval=execOp a.eval o:=Oper.semAt_eq _ _ _ λc hc=>by rw[ho]at hc;cases hc
 have hrun:(execOp a.eval o).run P w=.ok (.enter g (fs++args.map a.eval++cs)) w:=by
  simp[execOp,ho,resolve,hf,Deferred.ofValue,invoke,hc]
 rw[hs,hrun,Oper.uponIn_enter]
 refine⟨λh=>by simp[Fence.wide]at h,h.mono λe w' hr=>?_⟩
 obtain⟨v,rfl,hx⟩:=hR e w' hr
 exact hx
theorem PG{o:Oper}{f:Operand}{args:Array Operand}{tys:Array TypeId}(ho:o.op=.call {callee:=.value f,args:=args,argTypes:=tys}){l:Nat}(hf:a.eval f=.func (.yield l) #[] #[])
  {R:Ending->World->Prop} (h:YieldAt Fence.wide (n - 1) P l (args.map a.eval) w R) (hR:∀e w',R e w'->∃v,e=.returned v/\next (a.put o.dst v) w'):o.wpIn Fence.wide n P a w next Q:=by
 refine⟨λ_ _=>trivial,?_⟩
 have hs:o.semAt (Fence.wide).round a.eval=execOp a.eval o:=Oper.semAt_eq _ _ _ λc hc=>by rw[ho]at hc;cases hc
 obtain⟨fn,tmps,assign,body,hy,hr⟩:=h
 have hrun:(execOp a.eval o).run P w=.ok (.round l fn tmps assign body) w:=by
  simp[execOp,ho,resolve,hf,Deferred.ofValue,invoke,hy]
 rw[hs,hrun,Oper.uponIn_round]
 refine⟨λh=>by simp[Fence.wide]at h,hr.mono λe w' hr=>?_⟩
 obtain⟨v,rfl,hx⟩:=hR e w' hr
 exact hx
theorem Ey{ops:Array Oper}{i:Nat}{rest:List Nat}{o:Oper}(ho:ops[i]? =some o)(hg:o.guard=none)(h:o.wpIn Fence.wide n P a w (wpOpsIn Fence.wide n P ops Q rest) Q):wpOpsIn Fence.wide n P ops Q (i::rest) a w:=by
 unfold wpOpsIn
 simp only[ho,Region.wanted,hg,if_true]
 exact h
theorem CD{E:ko}{A:List Nat}{ops:Array Oper}{K:ay->Prop}{rest:List Nat}{ds:List Deferred}
  (hK:∀Γ bs ow a w st,SR P E Γ bs ow w a st->K st->wpOpsIn Fence.wide n P ops Q rest ⟨a,ds⟩ w):
  ∀(L:List Oper) (is:List Nat) (Γ:aP) (bs:bg) (ow:Nat->Option fR) (a:Array Value) (w:World) (st:ay),is.map (λi=>ops[i]?)=L.map some->
   (∀o∈L,o.guard=none/\db o=true/\aB o.op=false)->SR P E Γ bs ow w a st->b8 P E.GE A ops K L 0 st->wpOpsIn Fence.wide n P ops Q (is++rest) ⟨a,ds⟩ w
 |[],[],Γ,bs,ow,a,w,st,_,_,h,hp=>hK Γ bs ow a w st h hp
 |o::L,i::is,Γ,bs,ow,a,w,st,hi,hg,h,hp=>by
  obtain⟨g1,g2,g3⟩:=hg o (by simp)
  unfold b8 at hp
  simp only[g1]at hp
  simp only[vaZ,vbC]at hi
  refine Ey hi.1 g1 (Rc g2 (Oper.wp_mono (λa' w' hA=>?_) (zr (a:=⟨a,ds⟩) h (λhm=>by rw[g3]at hm;cases hm) hp Q)))
  obtain⟨hd,Γ',bs',ow',st',h1,h2,_⟩:=hA
  obtain⟨a1,ds1⟩:=a'
  simp only at hd h1
  subst hd
  refine CD (A:=A) hK L is Γ' bs' ow' a1 w' st' hi.2 (λo ho=>hg o (vaO _ ho)) h1 ?_
  rw[g3]at h2
  exact h2
end
def gf:Code->Array Oper
 |.region _ ops _=>ops
 |_=>#[]
def Nt:Code->Nat
 |.region id _ _=>id
 |_=>0
def AL(c:Code)(i:Nat):Oper:=(gf c)[i]?.getD default
def LD(o:Oper):Array TypeId:=match o.op with
 |.call c=>c.argTypes
 |_=>#[]
def EB(o:Oper):Bool:=o.guard.isNone&&db o&&!aB o.op
theorem pk{L:List Oper}(h:L.all EB=true):∀o∈L,o.guard=none/\db o=true/\aB o.op=false:=λo ho=>by
 have:=vaq.1 h o ho
 simpa[EB,and_assoc]using this
theorem kZ{P:Program}{GE:List (Nat×List PVal)}{A:List Nat}{ops:Array Oper}{K K':ay->Prop}(hK:∀st,K st->K' st):∀(L:List Oper) (id:Nat) (st:ay),b8 P GE A ops K L id st->b8 P GE A ops K' L id st
 |[],_,st,h=>hK st h
 | o :: L,id,st,h => by
  unfold b8 at h ⊢
  split at h
  ·exact qe (λst hx=>kZ hK L _ st hx) h
  ·split at h
   ·exact⟨λhx=>qe (λst hx=>kZ hK L _ st hx) (h.1 hx),λhx=>kZ hK L _ _ (h.2 hx)⟩
   ·exact h
theorem qdi{P:Program}{m:Nat}{sc:List It}{F:Prop}{st st0:ay}(h:PS sc F)(he:F=Pc m sc st (λ_ st'=>FG st' st0)):pJ P m st st0:=by
 obtain⟨_,st',hw,hf⟩:=Es (P:=P) (Eq.mp he h)
 exact hw.trans hf.weak
theorem cC.thenW{P:Program}{GE:List (Nat×List PVal)}{m:Nat}{c:Code}{e:Exit}{st0 st1 st2:ay}(h:cC P GE m c (EX e st1) st0)(hw:pJ P m st1 st2):cC P GE m c (EX e st2) st0:=
 h.mono λe' st' hx=>⟨st2,hx.2▸hw,hx.1,rfl⟩
theorem F7{P:Program}{GE:List (Nat×List PVal)}{A:List Nat}{ops:Array Oper}{L:List Oper}{st st0:ay}{sc:List It}{F:Prop}(h:PS sc F)(he:F=Fv P GE A ops (λ_ st=>FG st st0) L 0 0 sc st):b8 P GE A ops (λst=>FG st st0) L 0 st:=
 kZ (λst ⟨_,hx⟩=>hx) L 0 st (pb L 0 0 sc st (Eq.mp he h))
theorem FG.sr{P:Program}{E:ko}{Γ:aP}{bs:bg}{ow:Nat->Option fR}{w:World}{a:Array Value}{st st0:ay}(h:SR P E Γ bs ow w a st)(hf:FG st st0):∃Γ' bs' ow',SR P E Γ' bs' ow' w a st0:=by
 obtain⟨Γ',bs',ow',h',_⟩:=(hf.weak (P:=P) (m:=0)) E [] ⟨a,[]⟩ w rfl ⟨Γ,bs,ow,h,λi hi=>absurd hi (vaw _)⟩
 exact⟨Γ',bs',ow',h'⟩
def XG:Code->Code
 |.rangeFunc _ _ a _=>a
 |_=>.skip
def XH:Code->Code
 |.rangeFunc _ _ _ b=>b
 |_=>.skip
theorem cM{w:World}{b:Nat}{o:Obj}(h:w.heap[b]? =some o):b<w.heap.size:=(vab.1 h).1
end Go.Proofs.YtankopenjcbeeaaGreatDoor
