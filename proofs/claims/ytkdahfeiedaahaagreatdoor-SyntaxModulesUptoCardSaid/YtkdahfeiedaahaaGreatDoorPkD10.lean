/- PROVED: a part of the proof. Conditions: none. -/
import Derived.Test.YtkdahfeiedaahaaGreatDoorPkD9
import Derived.Test.YtkdahfeiedaahaaGreatDoorPkD7
import Derived.Test.YtkdahfeiedaahaaGreatDoorPkD8
import Derived.Test.YtkdahfeiedaahaaGreatDoorPkD4
import Derived.Maps.RangeRun
import Derived.Shelf.Sort.Plain
import Derived.Shelf.Slices.In.SortNone
noncomputable section
namespace Go.Proofs.YtkdahfeiedaahaaGreatDoor
open Go
set_option linter.unusedVariables false
set_option maxRecDepth 100000
structure Sd(P:Program)(GE:List (Nat×List PVal)){S:Type}(J:Bool->S->aU->World->Prop):Prop where
 base:∀b s Γ w,J b s Γ w->Bo GE Γ w
 side:∀b s Γ w,J b s Γ w->∀Γ' bs' ow' w' a' st',SR P (E3 GE Γ w) Γ' bs' ow' w' a' st'->J b s Γ' w'
def VG(P:Program){S:Type}(J:Bool->S->aU->World->Prop)(Γ0:aU)(w0:World)(b:Bool)(s:S)(st:aB)(a:Array Value)(w:World):Prop:=∃Γ,J b s Γ w/\Γ0.Le w0 Γ w/\∃E bs ow,SR P E Γ bs ow w a st
structure Dg(st:aB)(k:Nat):Prop where
 c:jl 0 st.tmps
 b:st.boxes=List.replicate k .dead
 o:st.own=[]
abbrev uD(l:Nat):PVal:=.val (.func (.yield l) #[] #[])
section
variable{P:Program}{GE:List (Nat×List PVal)}{S:Type}{J:Bool->S->aU->World->Prop}{l:Nat}{Γ0:aU}{w0:World}{b:Bool}{s:S}{st0 st1 stA stB:aB}{k kA kB:Nat}{a:Array Value}{w:World}{n:Nat}{ds:List Deferred}
theorem Yp{N:Nat}{L:List (Nat×PVal)}(h:XW 0 L)(k:Nat){H:List aC}(hH:H=List.replicate k .dead):Dg (aS N L H []) k:=⟨du h,hH,rfl⟩
theorem VG.again(hY:Sd P GE J)(hD:Dg st0 k)(h:VG P J Γ0 w0 b s st0 a w):∃Γ,J b s Γ w/\Γ0.Le w0 Γ w/\SR P (E3 GE Γ w) Γ (List.replicate k none) (fun _=>none) w a st0:=by
 obtain⟨Γ,hJ,hle,E,bs,ow,hS⟩:=h
 obtain⟨tm,H,own⟩:=st0
 have hb:H=_:=hD.b
 have ho:own=[]:=hD.o
 subst hb;subst ho
 exact⟨Γ,hJ,hle,hS.again hD.c (hY.base _ _ _ _ hJ) (.refl _ _) k⟩
theorem VG.piece(hY:Sd P GE J){c:Code}{e:Exit}(hS:aW P GE 0 c (EX e st1) st0)(hD:Dg st0 k)(h:VG P J Γ0 w0 b s st0 a w):c.wpIn Fence.wide n P (fun e' a' w'=>e'=e/\a'.defers=ds/\VG P J Γ0 w0 b s st1 a'.tmps w') ⟨a,ds⟩ w:=by
 obtain⟨Γ,hJ,hle,hR⟩:=h.again hY hD
 refine wpIn_mono (hS.wide (hY.base _ _ _ _ hJ) hR n ds) ?_
 rintro e' a' w' ⟨hd,Γ',bs',ow',st',h',rfl,rfl⟩
 exact⟨rfl,hd,Γ',hY.side _ _ _ _ hJ _ _ _ _ _ _ h',hle.trans h'.step.le,_,_,_,h'⟩
theorem VG.reg(hY:Sd P GE J){id:Nat}{ops:Array Oper}{is1 is2:List Nat}{i:Nat}{L1 L2:List Oper}{o:Oper}(hrg:List.range ops.size=is1++i::(is2++[]))
  (p1:is1.map (fun i=>ops[i]?)=L1.map some) (p2:L1.all Il=true) (ho:ops[i]? =some o) (hg:o.guard=none) (q1:is2.map (fun i=>ops[i]?)=L2.map some) (q2:L2.all Il=true)
  (hD:Dg st0 k) (hDB:Dg stB kB) (hpre:dn P GE [] ops (fun st=>FG st stA) L1 0 st0) (hsuf:dn P GE [] ops (fun st=>FG st st1) L2 0 stB) {r:Bool×S}
  (hcall:∀a w (next:Act->World->Prop) (Q:Exit->Act->World->Prop),VG P J Γ0 w0 b s stA a w->(∀a' w',VG P J Γ0 w0 r.1 r.2 stB a' w'->next ⟨a',ds⟩ w')->o.wpIn Fence.wide n P ⟨a,ds⟩ w next Q)
  (h:VG P J Γ0 w0 b s st0 a w):(Code.region id ops false).wpIn Fence.wide n P (fun e' a' w'=>e'=.normal/\a'.defers=ds/\VG P J Γ0 w0 r.1 r.2 st1 a'.tmps w') ⟨a,ds⟩ w:=by
 refine wpIn_region ?_
 rw[hrg]
 obtain⟨Γ,hJ,hle,hS⟩:=h.again hY hD
 refine Ig (A:=[]) (K:=fun st=>FG st stA) (fun Γ' bs' ow' a' w' st hS' hK=>?_) _ _ Γ _ _ a w st0 p1 (NW p2) hS hpre
 obtain⟨Γ2,bs2,ow2,hS2⟩:=FG.sr hS' hK
 refine LT ho hg (hcall a' w' _ _ ⟨Γ2,hY.side _ _ _ _ hJ _ _ _ _ _ _ hS2,hle.trans hS2.step.le,_,_,_,hS2⟩ fun a3 w3 h3=>?_)
 obtain⟨Γ3,hJ3,hle3,hS3⟩:=h3.again hY hDB
 refine Ig (A:=[]) (K:=fun st=>FG st st1) (fun Γ' bs' ow' a' w' st hS' hK=>?_) _ _ Γ3 _ _ a3 w3 stB q1 (NW q2) hS3 hsuf
 obtain⟨Γ4,bs4,ow4,hS4⟩:=FG.sr hS' hK
 exact⟨rfl,rfl,Γ4,hY.side _ _ _ _ hJ3 _ _ _ _ _ _ hS4,hle3.trans hS4.step.le,_,_,_,hS4⟩
theorem VG.ev(h:VG P J Γ0 w0 b s st0 a w){t:Nat}{x:Bool}(ht:st0.tmps.getD t .undef=.bool x):(Act.mk a ds).eval (.tmp t)=.bool x:=by
 obtain⟨Γ,hJ,hle,E,bs,ow,hS⟩:=h
 have h1:=hS.opv ds (.tmp t)
 have e1:opv E.GE st0.tmps (.tmp t)=.bool x:=ht
 rw[e1]at h1
 generalize (Act.mk a ds).eval (.tmp t)=v at h1
 cases h1
 rfl
theorem VG.put(hY:Sd P GE J)(hD:Dg stA kA){Γ Γ':aU}{w':World}{E:rD}{bs:bD}{ow:Nat->Option lX}(hS:SR P E Γ bs ow w a stA)(hle:Γ0.Le w0 Γ w)(hle':Γ.Le w Γ' w'){r:Bool×S}(hJ':J r.1 r.2 Γ' w'){d:Nat}(hB:stB=⟨stA.tmps.set d (.bool r.1),List.replicate kA .dead,[]⟩):VG P J Γ0 w0 r.1 r.2 stB (a.setIfInBounds d (.bool r.1)) w':=by
 have hS':=(hS.again hD.c (hY.base _ _ _ _ hJ') hle' kA).set (d:=d) (p:=.bool r.1) (v:=.bool r.1) (.bool _)
 exact⟨Γ',hJ',hle.trans hle',_,_,_,hB▸hS'⟩
theorem VG.yield2(hY:Sd P GE J)(hD:Dg stA kA){r:Bool×S}{i:Int}{cs:List PVal}(hcl:jl 0 cs)
  (hy:∀Γ w v,J true s Γ w->VR Γ [] w (.agg cs) v->YieldAt Fence.wide (n - 1) P l #[.int .i64 i,v] w fun e w'=>∃Γ',e=.returned (.bool r.1)/\Γ.Le w Γ' w'/\J r.1 r.2 Γ' w')
  {o:Oper} {f x y d:Nat} {tys:Array TypeId} (h7:stA.tmps.getD f .undef=uD l) (h8:stA.tmps.getD x .undef=.int .i64 i) (h9:stA.tmps.getD y .undef=.agg cs)
  (ho:o.op=.call {callee:=.value (.tmp f),args:=#[.tmp x,.tmp y],argTypes:=tys}) (hd:o.dst=some d) (hB:stB=⟨stA.tmps.set d (.bool r.1),List.replicate kA .dead,[]⟩)
  {next:Act->World->Prop} {Q:Exit->Act->World->Prop} (h:VG P J Γ0 w0 true s stA a w) (hn:∀a' w',VG P J Γ0 w0 r.1 r.2 stB a' w'->next ⟨a',ds⟩ w'):o.wpIn Fence.wide n P ⟨a,ds⟩ w next Q:=by
 obtain⟨Γ,hJ,hle,hS⟩:=h.again hY hD
 have h1:=hS.opv ds (.tmp f)
 have h2:=hS.opv ds (.tmp x)
 have h3:=hS.opv ds (.tmp y)
 have e1:opv (E3 GE Γ w).GE stA.tmps (.tmp f)=uD l:=h7
 have e2:opv (E3 GE Γ w).GE stA.tmps (.tmp x)=.int .i64 i:=h8
 have e3:opv (E3 GE Γ w).GE stA.tmps (.tmp y)=.agg cs:=h9
 rw[e1]at h1;rw[e2]at h2;rw[e3]at h3
 have hev:(Act.mk a ds).eval (.tmp f)=.func (.yield l) #[] #[]:=by
  generalize (Act.mk a ds).eval (.tmp f)=v at h1
  cases h1;rfl
 have hex:(Act.mk a ds).eval (.tmp x)=.int .i64 i:=by
  generalize (Act.mk a ds).eval (.tmp x)=v at h2
  cases h2;rfl
 refine Se ho hev (R:=fun e w'=>∃Γ',e=.returned (.bool r.1)/\Γ.Le w Γ' w'/\J r.1 r.2 Γ' w') ?_ ?_
 ·have:=hy Γ w _ hJ (h3.clo (by simp only[PVal.cl];exact hcl))
  simpa[hex]using this
 ·rintro e w' ⟨Γ',rfl,hle',hJ'⟩
  refine⟨_,rfl,?_⟩
  rw[hd]
  exact hn _ _ (VG.put hY hD hS hle hle' hJ' hB)
end
def VM{α S:Type}(step:S->α->Option (Bool×S)):List α->S->Option (Bool×S)
 |[],s=>some (true,s)
 |x::l,s=>(step s x).bind fun r=>match r.1 with
  |false=>some (false,r.2)
  |true=>VM step l r.2
theorem VH{α:Type}(l:List α){j:Nat}(h:j<l.length):(l.take (j+1)).reverse=l[j]::(l.take j).reverse:=by
 rw[vaq h,List.reverse_append];rfl
theorem cH{n:Int}(h1: -9223372036854775808<=n)(h2:n<9223372036854775808):bB n=n:=Yi h1 h2
theorem cE{α:Type}(l:List α)(i:Nat)(h:i<l.length):eT l (i:Int)=some l[i]:=by
 unfold eT
 rw[vax (by omega)]
 simp[h]
theorem VF{α:Type}(l:List α)(i:Nat)(h:i<=l.length):WW l (some (i:Int)) none=some (l.drop i):=by
 simp[WW,bd,h]
theorem iJ{α:Type}{l r:List α}(h:l.length+r.length<=1073741824):app l r=some (l++r):=vax h
theorem TA{σ X:Type}{body:σ->Option (σ⊕X)}{s s':σ}(h:body s=some (.inl s')):loop body s=loop body s':=by rw[lp,h]
theorem Dt{σ X:Type}{body:σ->Option (σ⊕X)}{s:σ}{x:X}(h:body s=some (.inr x)):loop body s=some x:=by rw[lp,h]
def BC{α σ X:Type}(f:Nat->α->σ->σ⊕X)(e:σ->X):List α->Nat->σ->X
 |[],_,s=>e s
 |x::r,i,s=>match f i x s with
  |.inl s'=>BC f e r (i+1) s'
  |.inr y=>y
theorem zb{α σ τ X:Type}(l:List α)(hl:l.length<9223372036854775808)(mk:Int->σ->τ)(body:τ->Option (τ⊕X))(I:Nat->σ->Prop)(f:Nat->α->σ->σ⊕X)(e:σ->X)
  (hin:∀(i:Nat) (h:i<l.length) s,I i s->body (mk i s)=some (match f i l[i] s with|.inl s'=>.inl (mk (bB ((i:Int)+1)) s')|.inr y=>.inr y)/\∀s',f i l[i] s=.inl s'->I (i+1) s')
  (hend:∀s,I l.length s->body (mk l.length s)=some (.inr (e s))):∀(i:Nat) (s:σ),i<=l.length->I i s->loop body (mk i s)=some (BC f e (l.drop i) i s):=by
 intro i s hi hI
 obtain⟨k,hk⟩:∃k,k+i=l.length:=⟨l.length - i,by omega⟩
 induction k generalizing i s with
 |zero=>
  have:i=l.length:=by omega
  subst this
  rw[lp,hend s hI,vcn]
  rfl
 | succ k ih =>
  have hlt:i<l.length:=by omega
  obtain⟨h1,h2⟩:=hin i hlt s hI
  rw[lp,h1,vbo hlt]
  unfold BC
  cases hf:f i l[i] s with
  |inl s'=>
   simp only
   rw[cH (by omega) (by omega)]
   have:=ih (i+1) s' (by omega) (h2 s' hf) (by omega)
   rw[show((i:Int)+1)=((i+1:Nat):Int) by omega]
   exact this
  |inr y=>rfl
theorem QW{α X:Type}(p:α->Bool)(y e:X):∀(l:List α) (i:Nat),BC (fun _ x (_:Unit)=>if p x=true then Sum.inr y else .inl ()) (fun _=>e) l i ()=if l.any p=true then y else e
 |[],i=>by simp[BC]
 | x :: l,i => by
  have ih:=QW p y e l (i+1)
  unfold BC
  by_cases h:p x=true
  ·simp[h]
  ·simp only[h,if_false,ih,List.any_cons,Bool.false_or,vbr]
theorem U4{α X:Type}(l:List α)(hl:l.length<9223372036854775808)(body:Int->Option (Int⊕X))(p:α->Bool)(y e:X)
  (hin:∀(i:Nat) (h:i<l.length),body i=some (if p l[i]=true then .inr y else .inl (bB ((i:Int)+1)))) (hend:body l.length=some (.inr e)) (i:Nat) (hi:i<=l.length):
  loop body (i:Int)=some (if(l.drop i).any p=true then y else e):=by
 have:=zb l hl (fun i (_:Unit)=>i) body (fun _ _=>True) (fun _ x _=>if p x=true then Sum.inr y else .inl ()) (fun _=>e) (fun i h s _=>⟨?_,fun _ _=>trivial⟩) (fun s _=>hend) i () hi trivial
 ·rw[this,QW]
 ·rw[hin i h]
  by_cases hp:p l[i]=true<;>simp[hp]
theorem N1{α X:Type}(p:α->Bool)(y:Nat->X)(e:X):∀(l:List α) (i:Nat),BC (fun j x (_:Unit)=>if p x=true then Sum.inr (y j)else .inl ()) (fun _=>e) l i ()=match l.findIdx? p with|some j=>y (i+j)|none=>e
 |[],i=>by simp[BC]
 | x :: l,i => by
  have ih:=N1 p y e l (i+1)
  unfold BC
  rw[List.findIdx?_cons]
  by_cases h:p x=true
  ·simp[h]
  ·simp only[h,if_false,ih,vbr]
   cases l.findIdx? p with
   |none=>rfl
   |some j=>simp only[vag];congr 1;omega
theorem NN{α X:Type}(l:List α)(hl:l.length<9223372036854775808)(body:Int->Option (Int⊕X))(p:α->Bool)(y:Nat->X)(e:X)
  (hin:∀(i:Nat) (h:i<l.length),body i=some (if p l[i]=true then .inr (y i)else .inl (bB ((i:Int)+1)))) (hend:body l.length=some (.inr e)):
  loop body (0:Int)=some (match l.findIdx? p with|some j=>y j|none=>e):=by
 have:=zb l hl (fun i (_:Unit)=>i) body (fun _ _=>True) (fun j x _=>if p x=true then Sum.inr (y j)else .inl ()) (fun _=>e) (fun i h s _=>⟨?_,fun _ _=>trivial⟩) (fun s _=>hend) 0 () (va1 _) trivial
 ·simp only[Int.ofNat_zero,vbF]at this
  have this2:=N1 p y e l 0
  simp only[vaI]at this2
  rw[<-this2]
  exact this
 ·rw[hin i h]
  by_cases hp:p l[i]=true<;>simp[hp]
open Go Go.Proofs.Tryz
abbrev qa9:Nat:=137
abbrev P4:Nat:=157
noncomputable def qaY:Code:=f137.body.getD .skip
noncomputable def Ri:Code:=f157.body.getD .skip
abbrev Ji(sc:List ag):PVal:=sl aa sc
theorem Rp(sc:List ag):(Ji sc).cl 0:=aj av sc
theorem IZ(sc:List ag):(PVal.eptr [Ji sc]).cl 0:=⟨Rp sc,trivial⟩
theorem Zh(sc:List ag):bo Pg 92 [Ji sc]=some (Ji sc):=by kernel_rfl
theorem PQ(sc:List ag):CC Pg GE qa9 [Ji sc] (.func (.func P4) [] [.eptr [Ji sc]]) []:=by
 have z:=se (show ct (Ji sc)=some [Ji sc]from rfl)<|en (aI (rP (.func (.func P4) [] [.eptr [Ji sc]]))<|(aI trivial (aI (IZ sc) trivial)))
 exact C.evp (A:=[]) mixed call137 func137 (c:=qaY) rfl (aI (Rp sc) trivial) z (by kernel_rfl)
abbrev qbA:Code:=bg Ri [false]
abbrev qbB:Code:=bg Ri [true,false,false,false,false]
abbrev Ow:Code:=bg Ri [true,false,false,true,false,false,false]
abbrev qbC:Code:=bg Ri [true,false,false,true,true]
theorem Wi:Ri=.seq qbA (.block 0 (.loop (.seq (.seq qbB (.cond (.tmp 8) .skip (.exit 0))) (.seq (.block 1 (.seq (.region (qcO Ow) (GL Ow) false) (.cond (.tmp 18) .ret .skip))) qbC)))):=by kernel_rfl
theorem XT:List.range (GL Ow).size=[0,1,2,3,4,5]++6::([7]++[]):=by kernel_rfl
theorem XP:[0,1,2,3,4,5].map (fun i=>(GL Ow)[i]?)=((GL Ow).toList.take 6).map some:=by kernel_rfl
theorem XQ:((GL Ow).toList.take 6).all Il=true:=by kernel_rfl
theorem YV:(GL Ow)[6]? =some (Zp Ow 6):=by kernel_rfl
theorem YU:(Zp Ow 6).guard=none:=by kernel_rfl
theorem XR:[7].map (fun i=>(GL Ow)[i]?)=((GL Ow).toList.drop 7).map some:=by kernel_rfl
theorem XS:((GL Ow).toList.drop 7).all Il=true:=by kernel_rfl
theorem XO:(Zp Ow 6).op=.call {callee:=.value (.tmp 11),args:=#[.tmp 12,.tmp 16],argTypes:=VK (Zp Ow 6)}:=by kernel_rfl
theorem YT:(Zp Ow 6).dst=some 17:=by kernel_rfl
abbrev bS(l:Nat)(sc:List ag)(i:Int):aB:=aS 19 [(0,uD l),(1,.eptr [Ji sc]),(3,.int .i64 i)] [] []
abbrev ZT(l:Nat)(sc:List ag)(i:Int):aB:=aS 19 [(0,uD l),(1,.eptr [Ji sc]),(3,.int .i64 i),(8,.bool (decide (i>=0)))] [] []
abbrev qaZ(l:Nat)(sc:List ag)(i:Int)(x:ag):aB:=aS 19 [(0,uD l),(1,.eptr [Ji sc]),(3,.int .i64 i),(11,uD l),(12,.int .i64 i),(16,.agg (aa x))] [] []
abbrev qa0(l:Nat)(sc:List ag)(i:Int)(x:ag)(b:Bool):aB:=aS 19 [(0,uD l),(1,.eptr [Ji sc]),(3,.int .i64 i),(11,uD l),(12,.int .i64 i),(16,.agg (aa x)),(17,.bool b)] [] []
abbrev ZU(l:Nat)(sc:List ag)(i:Int)(b:Bool):aB:=aS 19 [(0,uD l),(1,.eptr [Ji sc]),(3,.int .i64 i),(18,.bool (!b))] [] []
theorem qa1(l:Nat)(sc:List ag):aW Pg GE 0 qbA (EX .normal (bS l sc (bB ((sc.length:Int) - 1)))) (aS 19 [(0,uD l),(1,.eptr [Ji sc])] [] []):=by
 have z:=sv (Zh sc)<|bQ (Mc.ln sc)<|eF .normal (bS l sc (bB ((sc.length:Int) - 1)))
 exact qN (A:=[]) mixed z (by kernel_rfl)
theorem qa2(l:Nat)(sc:List ag)(i:Int):aW Pg GE 0 qbB (EX .normal (ZT l sc i)) (bS l sc i):=by
 have z:=eF .normal (ZT l sc i)
 exact qN (A:=[]) mixed z (by kernel_rfl)
theorem qa4(l:Nat)(sc:List ag)(i:Int)(x:ag)(hx:eT sc i=some x):dn Pg GE [] (GL Ow) (fun st=>FG st (qaZ l sc i x)) ((GL Ow).toList.take 6) 0 (ZT l sc i):=by
 have z:=sv (Zh sc)<|sv (Mc.ia (k:=.i64) hx)<|sv (LE x)<|en (fr (qaZ l sc i x))
 exact SL z (by kernel_rfl)
theorem YW(l:Nat)(sc:List ag)(i:Int)(x:ag)(b:Bool):dn Pg GE [] (GL Ow) (fun st=>FG st (ZU l sc i b)) ((GL Ow).toList.drop 7) 0 (qa0 l sc i x b):=by
 have z:=en (fr (ZU l sc i b))
 exact SL z (by kernel_rfl)
theorem qa3(l:Nat)(sc:List ag)(i:Int)(b:Bool):aW Pg GE 0 qbC (EX .normal (bS l sc (bB (i - 1)))) (ZU l sc i b):=by
 have z:=eF .normal (bS l sc (bB (i - 1)))
 exact qN (A:=[]) mixed z (by kernel_rfl)
theorem qa8(l:Nat)(sc:List ag)(i:Int):Dg (bS l sc i) 0:=Yp (by exact aI trivial<|aI (IZ sc)<|aI trivial trivial) 0 rfl
theorem Y8(l:Nat)(sc:List ag)(i:Int):Dg (ZT l sc i) 0:=Yp (by exact aI trivial<|aI (IZ sc)<|aI trivial<|aI trivial trivial) 0 rfl
theorem Y9(l:Nat)(sc:List ag)(i:Int)(x:ag):Dg (qaZ l sc i x) 0:=Yp (by exact aI trivial<|aI (IZ sc)<|aI trivial<|aI trivial<|aI trivial<|aI (show jl 0 (aa x)from av x) trivial) 0 rfl
theorem Za(l:Nat)(sc:List ag)(i:Int)(x:ag)(b:Bool):Dg (qa0 l sc i x b) 0:=Yp (by exact aI trivial<|aI (IZ sc)<|aI trivial<|aI trivial<|aI trivial<|aI (show jl 0 (aa x)from av x)<|aI trivial trivial) 0 rfl
theorem Zb(l:Nat)(sc:List ag)(i:Int)(b:Bool):Dg (ZU l sc i b) 0:=Yp (by exact aI trivial<|aI (IZ sc)<|aI trivial<|aI trivial trivial) 0 rfl
section
variable{S:Type}{step:S->ag->Option (Bool×S)}{J:Bool->S->aU->World->Prop}{l:Nat}
theorem YY(hY:Sd Pg GE J)(hy:∀s Γ w (i:Int) x v n r,J true s Γ w->VR Γ [] w (.agg (aa x)) v->step s x=some r->YieldAt Fence.wide n Pg l #[.int .i64 i,v] w fun e w'=>∃Γ',e=.returned (.bool r.1)/\Γ.Le w Γ' w'/\J r.1 r.2 Γ' w')
  (sc:List ag) (hlen:sc.length<4611686018427387904) {s:S} {r:Bool×S} {Γ:aU} {w:World} {v:Value} {n:Nat} (hv:VM step sc.reverse s=some r) (hJ:J true s Γ w) (hvr:VR Γ [] w (.eptr [Ji sc]) v):
  CallsIn Fence.wide n Pg P4 #[.func (.yield l) #[] #[],v] w fun e w'=>(∃u,e=.returned u)/\∃Γ',Γ.Le w Γ' w'/\J r.1 r.2 Γ' w':=by
 refine callsIn_of_wp func157 (c:=Ri) rfl trivial ?_
 have h0:VG Pg J Γ w true s (aS 19 [(0,uD l),(1,.eptr [Ji sc])] [] []) (#[.func (.yield l) #[] #[],v]++Array.replicate 17 undef) w:=by
  refine⟨Γ,hJ,.refl _ _,_,_,_,(hY.base _ _ _ _ hJ).fresh 0 (tmps:=[uD l,.eptr [Ji sc]]++List.replicate 17 .undef) (by simp) fun t q u hq hu=>?_⟩
  by_cases ht:t<2
  ·rw[vac (by simpa using ht)]at hq
   rw[vaR (by simpa using ht)]at hu
   match t,ht with
   |0,_=>simp at hq hu;subst hq;subst hu;exact .val _
   |1,_=>simp at hq hu;subst hq;subst hu;exact hvr
  ·rw[vaf (by simpa using ht),vaW]at hq
   split at hq<;>cases hq
   exact .undef u
 show Ri.wpIn Fence.wide n Pg _ ⟨_,[]⟩ w
 have hret:∀{b:Bool} {s:S} {st:aB} {e:Exit} {a':Act} {w':World},(e=.normal\/e=.ret)->a'.defers=[]->VG Pg J Γ w b s st a'.tmps w'->b=r.1->s=r.2->
   bodyPost Pg f157 (fun e w'=>(∃u,e=.returned u)/\∃Γ',Γ.Le w Γ' w'/\J r.1 r.2 Γ' w') e a' w':=by
  rintro b s st e a' w' he hd ⟨Γ',hJ',hle,E,bs,ow,hS⟩ rfl rfl
  obtain⟨u,e1,_⟩:=tT hS (fn:=f157) (r:=.tuple []) (by kernel_rfl)
  rcases he with rfl|rfl
  ·exact⟨hd,u,e1,⟨u,rfl⟩,Γ',hle,hJ'⟩
  ·exact⟨hd,u,e1,⟨u,rfl⟩,Γ',hle,hJ'⟩
 rw[Wi]
 refine wpIn_seq (wpIn_mono (VG.piece hY (qa1 l sc) (k:=0) (Yp (by exact aI trivial<|aI (IZ sc) trivial) 0 rfl) h0) ?_)
 rintro e ⟨a1,ds1⟩ w1 ⟨rfl,rfl,h1⟩
 refine wpIn_block (wpIn_loop_ghost (fun k a w'=>a.defers=[]/\∃s':S,k<=sc.length/\VM step (sc.take k).reverse s'=some r/\VG Pg J Γ w true s' (bS l sc ((k:Int) - 1)) a.tmps w') sc.length
  ⟨rfl,s,vam _,by rw[vaP];exact hv,?_⟩ ?_)
 ·rw[cH (by omega) (by omega)]at h1;exact h1
 rintro k ⟨a4,ds4⟩ w4 ⟨hd4,s',hk,hvl,h4⟩
 simp only at hd4;subst hd4
 refine wpIn_seq (wpIn_seq (wpIn_mono (VG.piece hY (qa2 l sc _) (qa8 _ _ _) h4) ?_))
 rintro e ⟨a5,ds5⟩ w5 ⟨rfl,rfl,h5⟩
 refine wpIn_cond (h5.ev (t:=8) (x:=decide ((k:Int) - 1>=0)) rfl) ?_
 cases k with
 |zero=>
  rw[decide_eq_false (by omega)]
  refine wpIn_exit ?_
  rw[List.take_zero]at hvl
  cases hvl
  exact hret (.inl rfl) rfl h5 rfl rfl
 | succ j =>
  rw[decide_eq_true (by omega)]
  refine wpIn_skip ?_
  have hj:j<sc.length:=by omega
  rw[VH sc hj,VM]at hvl
  obtain⟨q,hq,hvl⟩:=ck hvl
  have hx:eT sc (((j+1:Nat):Int) - 1)=some sc[j]:=by rw[show((j+1:Nat):Int) - 1=(j:Int)from by omega];exact cE _ _ hj
  generalize sc[j]=x at *
  refine wpIn_seq (wpIn_block (wpIn_seq (wpIn_mono (VG.reg hY XT XP XQ YV YU XR XS (k:=0) (kB:=0) (r:=q) (stB:=qa0 l sc _ x q.1) (Y8 _ _ _) (Za _ _ _ _ _) (qa4 l sc _ x hx) (YW l sc _ x q.1)
   (fun a w next Q h hn=>VG.yield2 hY (kA:=0) (i:=((j+1:Nat):Int) - 1) (Y9 _ _ _ _) (av x) (fun Γ w v hJ hv=>hy s' Γ w _ x v _ q hJ hv hq) (f:=11) (x:=12) (y:=16) (d:=17) rfl rfl rfl XO YT rfl h hn) h5) ?_)))
  rintro e ⟨a6,ds6⟩ w6 ⟨rfl,rfl,h6⟩
  refine wpIn_cond (h6.ev (t:=18) (x:=!q.1) rfl) ?_
  obtain⟨q1,q2⟩:=q
  cases q1 with
  |false=>
   cases hvl
   refine wpIn_ret ?_
   exact hret (.inr rfl) rfl h6 rfl rfl
  |true=>
   refine wpIn_skip ?_
   refine wpIn_mono (VG.piece hY (qa3 l sc _ true) (Zb _ _ _ _) h6) ?_
   rintro e ⟨a7,ds7⟩ w7 ⟨rfl,rfl,h7⟩
   refine⟨j,by omega,rfl,q2,by omega,hvl,?_⟩
   rw[cH (by omega) (by omega)]at h7
   rw[show((j+1:Nat):Int) - 1 - 1=(j:Int) - 1 from by omega]at h7
   exact h7
end
set_option linter.unusedSimpArgs false
section
variable{P:Program}{E:rD}{Γ:aU}{bs:bD}{ow:Nat->Option lX}{w:World}{a:Array Value}{st:aB}
theorem SR.unown(h:SR P E Γ bs ow w a st){r s c:Nat}{m:Option Nat}{seen:Array Nat}(hr:w.heap[r]? =some (.mapIter m s seen c)):Γ r=none/\SR P E Γ bs (fun b=>if b=r then none else ow b) w a st:=by
 have hg:Γ r=none:=by
  cases hx:Γ r with
  |none=>rfl
  |some n=>obtain⟨c',t,fr,h1,_⟩:=h.wi r n hx;rw[hr]at h1;cases h1
 have hne:∀{v:Value} {e:TypeId} {b:Nat},jQ P Γ w v e->v.ownBlock=some b->b≠r:=fun{v e b} ho hb hx=>by
  obtain⟨n,xs,_,o2⟩:=ho
  have:=o2 b hb
  rw[hx,hg]at this;cases this
 refine⟨hg,{h with
  on:=fun b L hL=>?_
  ot:=fun t k e he=>?_
  ob:=fun i j e cs own b hB hj hb=>?_}⟩
 ·split at hL
  ·cases hL
  ·exact h.on b L hL
 ·obtain⟨u,v,h1,h2,h3,h4⟩:=h.ot t k e he
  exact⟨u,v,h1,h2,h3,fun b hb=>by rw[vaz (hne h3 hb)];exact h4 b hb⟩
 ·obtain⟨v,h1,h3,h4⟩:=h.ob i j e cs own b hB hj hb
  exact⟨v,h1,h3,fun b' hb'=>by rw[vaz (hne h3 hb')];exact h4 b' hb'⟩
theorem SR.asEntry(h:SR P E Γ bs ow w a st):SR P ⟨E.GE,Γ,w,bj bs ow⟩ Γ bs ow w a st:={h with
 bn:=fun i b hb=>.inl (.inl ⟨i,hb⟩)
 on:=fun b L hL=>⟨(h.on b L hL).1,.inl (.inr (by rw[hL];simp))⟩
 gx:=fun g cs hg=>by
  obtain⟨k1,k2,k3,k4⟩:=h.gnow hg
  exact⟨k1,fun hT=>hT.elim (fun⟨i,hi⟩=>k2 i g hi rfl) (fun hx=>hx k3),k4⟩
 step:=.refl _ _ _ _}
theorem SR.rebaseE(h:SR P E Γ bs ow w a st){Γ':aU}{bs':bD}{ow':Nat->Option lX}{w':World}{a':Array Value}{st':aB}(h':SR P ⟨E.GE,Γ,w,bj bs ow⟩ Γ' bs' ow' w' a' st'):SR P E Γ' bs' ow' w' a' st':=by
 have hTE:∀b,bj bs ow b\/w.heap.size<=b->E.T b\/E.w.heap.size<=b:=fun b hb=>by
  rcases hb with(⟨i,hi⟩|hb)|hb
  ·exact h.bn i b hi
  ·cases hL:ow b with
   |none=>exact absurd hL hb
   |some L=>exact(h.on b L hL).2
  ·exact .inr (vaB h.step.size hb)
 exact{h' with
  bn:=fun i b hb=>hTE b (h'.bn i b hb)
  on:=fun b L hL=>⟨(h'.on b L hL).1,hTE b (h'.on b L hL).2⟩
  gx:=h.gx
  step:={
   os:=h'.step.os.trans h.step.os
   tape:=h'.step.tape.trans h.step.tape
   output:=h'.step.output.trans h.step.output
   size:=vaB h.step.size h'.step.size
   drawn:=vaB h.step.drawn h'.step.drawn
   keep:=fun b hb hT=>by
    have hnT:¬bj bs ow b:=fun hx=>(hTE b (.inl hx)).elim hT fun hx=>absurd hb (vcF.2 hx)
    obtain⟨k1,k2⟩:=h.step.keep b hb hT
    obtain⟨q1,q2⟩:=h'.step.keep b (vaA hb h.step.size) hnT
    exact⟨q1.trans k1,q2.trans k2⟩
   le:=h.step.le.trans h'.step.le}}
end
theorem fO{P:Program}{a:Act}{w w':World}{Q:Exit->Act->World->Prop}{ops:Array Oper}{L:List Nat}{i:Nat}{o:Oper}{v:Value}(hi:ops[i]? =some o)(hg:o.guard=none)(hrun:(execOp a.eval o).run P w=.ok (.value v) w')
  (h:wpOps P ops Q L (a.put o.dst v) w'):wpOps P ops Q (i::L) a w:=by
 rw[wpOps_cons]
 unfold wpOp
 rw[hi]
 simp only
 rw[vax (by simp[Region.wanted,hg])]
 refine .inl ?_
 unfold Oper.wp
 rw[hrun,Oper.upon_value]
 exact h
def kS(e:TypeId)(l:List ae)(iv:Value)(x:PVal):aB:=⟨[.undef,.undef,.undef,sl cS l,x,.undef,.undef,.undef,.undef,.val iv,.undef,.undef,.undef,.undef,.undef,.undef,.undef,.undef,.undef,.undef,.undef],[],[((3,0),e)]⟩
def xi(x:MapEntry):ae:=match x.key with
 |.string s=>s.data.toList
 |_=>[]
section
variable{P:Program}{GE:List (Nat×List PVal)}{E:rD}{e:TypeId}{es:Array MapEntry}{clock bm r:Nat}
abbrev Qj(r:Nat):Value:=.pointer (some ⟨r,0,none⟩)
structure qby(es:Array MapEntry)(vis:List MapEntry):Prop where
 sub:∀x∈vis,x∈es.toList
 nd:(vis.map (·.born)).Nodup
structure F7(P:Program)(E:rD)(e:TypeId)(es:Array MapEntry)(clock bm r:Nat)(vis:List MapEntry)(x:PVal)(a:Act)(w:World):Prop where
 it:w.heap[r]? =some (.mapIter (some bm) clock (vis.map (·.born)).toArray clock)
 ex:∃Γ ow,SR P E Γ [] ow w a.tmps (kS e (vis.map xi) (Qj r) x)
theorem F7.map(hE:tC GE 0 E)(hbm:E.w.heap[bm]? =some (.map es clock)){vis:List MapEntry}{x:PVal}{a:Act}{w:World}(h:F7 P E e es clock bm r vis x a w):w.heap[bm]? =some (.map es clock):=by
 obtain⟨Γ,ow,hS⟩:=h.ex
 rw[(hS.step.keep bm (vae.1 hbm).1 (hE.nt rfl bm)).1];exact hbm
theorem F7.iv{vis:List MapEntry}{x:PVal}{a:Act}{w:World}(h:F7 P E e es clock bm r vis x a w):a.eval (.tmp 9)=Qj r:=by
 obtain⟨Γ,ow,hS⟩:=h.ex
 have h9:VR Γ [] w (.val (Qj r)) (a.eval (.tmp 9)):=hS.opv a.defers (.tmp 9)
 generalize a.eval (.tmp 9)=u at h9
 cases h9
 rfl
theorem F7.size{vis:List MapEntry}{x:PVal}{a:Act}{w:World}(h:F7 P E e es clock bm r vis x a w):a.tmps.size=21:=by
 obtain⟨Γ,ow,hS⟩:=h.ex
 exact hS.sz
theorem F7.put{vis:List MapEntry}{x:PVal}{a:Act}{w:World}(h:F7 P E e es clock bm r vis x a w){d:Nat}{v:Value}(hd:d=10\/d=11\/d=12\/d=13):F7 P E e es clock bm r vis x (a.put (some d) v) w:=by
 obtain⟨Γ,ow,hS⟩:=h.ex
 refine⟨h.it,Γ,ow,?_⟩
 have:=hS.set (d:=d) (p:=.undef) (v:=v) (.undef v)
 rcases hd with rfl|rfl|rfl|rfl<;>exact this
theorem Qx(hE:tC GE 0 E)(hbm:E.w.heap[bm]? =some (.map es clock))(hb:KB es clock)(hr:E.w.heap.size<=r){ro:Option Nat}{i3:Nat}{o10 o11:Oper}
  (h1:o10.op=.next (.tmp 9) false) (h1d:o10.dst=some 10) (h1g:o10.guard=none) (h2:o11.op=.extract (.tmp 10) 0) (h2d:o11.dst=some 11) (h2g:o11.guard=none) {vis:List MapEntry} {x:PVal} {a:Act} {w:World} (h:F7 P E e es clock bm r vis x a w):
  I0 ro P (.region i3 #[o10,o11] false) (fun q a' w'=>q=.normal/\a'.defers=a.defers/\((a'.eval (.tmp 11)=.bool false/\(leftOf es (vis.map (·.born)).toArray).size=0/\F7 P E e es clock bm r vis x a' w')\/
   (a'.eval (.tmp 11)=.bool true/\∃y∈(leftOf es (vis.map (·.born)).toArray).toList,(w'.heap[r]? =some (.mapIter (some bm) clock ((vis.map (·.born)).toArray.push y.born) clock)/\∃Γ ow,SR P E Γ [] ow w' a'.tmps (kS e (vis.map xi) (Qj r) x))))) a w:=by
 refine Ao (by simp[ft,h1,h2]) (by rintro⟨_,_,hx,_⟩;cases hx) ?_
 show wpOps P #[o10,o11] _ [0,1] a w
 have hm:=h.map hE hbm
 have hsz:=h.size
 have hext:∀(v:Value) (w':World),(∃l:Array Value,∃b,v=.tuple l/\l[0]? =some (.bool b))->((execOp ((a.put o10.dst v).eval) o11).run P w'=.ok (.value (match v with|.tuple l=>l.getD 0 undef|_=>undef)) w'):=by
  rintro v w' ⟨l,b,rfl,hl⟩
  have:(a.put o10.dst (.tuple l)).eval (.tmp 10)=.tuple l:=by
   refine bU ?_
   rw[h1d]
   show(a.tmps.setIfInBounds 10 _)[10]? =_
   simp[hsz]
  simp[execOp,h2,this,Instr.extract,hl]
 rcases run_next_at (P:=P) w o10.type r bm clock clock _ es clock h.it hm hb.2 (vam _)with⟨hz,hrun⟩|⟨y,hy,w1,hw1,hrun⟩
 ·refine fO (o:=o10) rfl h1g (v:=.tuple #[.bool false]) (w':=w) (by simp[execOp,h1,h.iv,hrun]) ?_
  refine fO (o:=o11) rfl h2g (hext _ _ ⟨_,_,rfl,rfl⟩) ?_
  refine⟨rfl,by rw[bu,bu],.inl ⟨?_,hz,?_⟩⟩
  ·refine bU ?_
   rw[h1d,h2d]
   show((a.tmps.setIfInBounds 10 _).setIfInBounds 11 _)[11]? =_
   simp[hsz]
  ·rw[h1d,h2d];exact(h.put (.inl rfl)).put (.inr (.inl rfl))
 ·refine fO (o:=o10) rfl h1g (v:=.tuple #[.bool true,y.key,y.val]) (w':=Go.ChangeMaps.setBlock w1 r (.mapIter (some bm) clock ((vis.map (·.born)).toArray.push y.born) clock)) (by simp[execOp,h1,h.iv,hrun]) ?_
  refine fO (o:=o11) rfl h2g (hext _ _ ⟨_,_,rfl,rfl⟩) ?_
  have hlt:r<w.heap.size:=(vae.1 h.it).1
  have hw1h:w1.heap=w.heap/\w1.os=w.os/\w1.tape=w.tape/\w1.output=w.output/\w.drawn<=w1.drawn:=by
   rcases hw1 with rfl|rfl
   ·exact⟨rfl,rfl,rfl,rfl,vam _⟩
   ·exact⟨rfl,rfl,rfl,rfl,vci _⟩
  obtain⟨k1,k2,k3,k4,k5⟩:=hw1h
  refine⟨rfl,by rw[bu,bu],.inr ⟨?_,y,hy,?_,?_⟩⟩
  ·refine bU ?_
   rw[h1d,h2d]
   show((a.tmps.setIfInBounds 10 _).setIfInBounds 11 _)[11]? =_
   simp[hsz]
  ·show(w1.heap.setIfInBounds r _)[r]? =_
   rw[k1];simp[hlt]
  ·have h':=(h.put (v:=.tuple #[.bool true,y.key,y.val]) (.inl rfl)).put (d:=11) (v:=.bool true) (.inr (.inl rfl))
   obtain⟨Γ,ow,hS⟩:=h'.ex
   obtain⟨hg,hS⟩:=hS.unown h.it
   have hoth:∀b,b≠r->(Go.ChangeMaps.setBlock w1 r (.mapIter (some bm) clock ((vis.map (·.born)).toArray.push y.born) clock)).heap[b]? =w.heap[b]?:=fun b hb=>by
    show(w1.heap.setIfInBounds r _)[b]? =_
    rw[k1,vaQ (fun x=>hb x.symm)]
   refine⟨Γ,fun b=>if b=r then none else ow b,?_⟩
   rw[h1d,h2d]
   refine hS.world (fun b=>b=r) (fun b m hb hm0=>⟨m,hb,vam _,fun o _=>bR (hoth b fun x=>by rw[x,hg]at hb;cases hb) o⟩) (fun b m hb=>?_) k2 k3 k4 ?_ (fun b _ hb=>⟨hoth b hb,rfl⟩) (fun b hb=>by subst hb;exact .inr hr) (fun i b hb=>by simp at hb) (fun b L hL hx=>?_) k5
   ·obtain⟨c,t,fr,q1,q2⟩:=hS.wi b m hb
    exact⟨c,t,fr,(hoth b fun x=>by rw[x,hg]at hb;cases hb).trans q1,q2⟩
   ·show _<=(w1.heap.setIfInBounds r _).size
    rw[k1];simp
   ·subst hx;simp at hL
theorem OH(hE:tC GE 0 E)(hbm:E.w.heap[bm]? =some (.map es clock))(hb:KB es clock){ro:Option Nat}{i4:Nat}{o12 o13 o4:Oper}
  (h1:o12.op=.entry (.tmp 9)) (h1d:o12.dst=some 12) (h1g:o12.guard=none) (h2:o13.op=.extract (.tmp 12) 0) (h2d:o13.dst=some 13) (h2g:o13.guard=none) (h3:o4.op=.assign (.tmp 13)) (h3d:o4.dst=some 4) (h3g:o4.guard=none)
  {vis:List MapEntry} {x:PVal} {y:MapEntry} (hy:y∈es.toList) (hk:y.key=.string ⟨(xi y).toArray⟩) {a:Act} {w:World} (hit:w.heap[r]? =some (.mapIter (some bm) clock ((vis.map (·.born)).toArray.push y.born) clock)) (h:∃Γ ow,SR P E Γ [] ow w a.tmps (kS e (vis.map xi) (Qj r) x)):
  I0 ro P (.region i4 #[o12,o13,o4] false) (fun q a' w'=>q=.normal/\a'.defers=a.defers/\w'=w/\∃Γ ow,SR P E Γ [] ow w a'.tmps (kS e (vis.map xi) (Qj r) (.str (xi y)))) a w:=by
 refine Ao (by simp[ft,h1,h2,h3]) (by rintro⟨_,_,hx,_⟩;cases hx) ?_
 show wpOps P #[o12,o13,o4] _ [0,1,2] a w
 obtain⟨Γ,ow,hS⟩:=h
 have hm:w.heap[bm]? =some (.map es clock):=by rw[(hS.step.keep bm (vae.1 hbm).1 (hE.nt rfl bm)).1];exact hbm
 have hsz:a.tmps.size=21:=hS.sz
 have h9:a.eval (.tmp 9)=Qj r:=by
  have h9:VR Γ [] w (.val (Qj r)) (a.eval (.tmp 9)):=hS.opv a.defers (.tmp 9)
  generalize a.eval (.tmp 9)=u at h9
  cases h9
  rfl
 have hrun:=run_entry_at (P:=P) w r bm clock _ es clock y hit hm hy hb.1
 refine fO (o:=o12) rfl h1g (v:=.tuple #[y.key,y.val]) (w':=w) (by simp[execOp,h1,h9,hrun]) ?_
 have e12:(a.put o12.dst (.tuple #[y.key,y.val])).eval (.tmp 12)=.tuple #[y.key,y.val]:=by
  refine bU ?_
  rw[h1d]
  show(a.tmps.setIfInBounds 12 _)[12]? =_
  simp[hsz]
 refine fO (o:=o13) rfl h2g (v:=y.key) (w':=w) (by simp[execOp,h2,e12,Instr.extract]) ?_
 have e13:((a.put o12.dst (.tuple #[y.key,y.val])).put o13.dst y.key).eval (.tmp 13)=y.key:=by
  refine bU ?_
  rw[h1d,h2d]
  show((a.tmps.setIfInBounds 12 _).setIfInBounds 13 _)[13]? =_
  simp[hsz]
 refine fO (o:=o4) rfl h3g (v:=y.key) (w':=w) (by simp[execOp,h3,e13]) ?_
 refine⟨rfl,by rw[bu,bu,bu],rfl,Γ,ow,?_⟩
 rw[h1d,h2d,h3d]
 have k1:=hS.set (d:=12) (p:=.undef) (v:=.tuple #[y.key,y.val]) (.undef _)
 have k2:=k1.set (d:=13) (p:=.undef) (v:=y.key) (.undef _)
 have k3:=k2.set (d:=4) (p:=.str (xi y)) (v:=y.key) (by rw[hk];exact .str _)
 exact k3
theorem PR:∀{l:List MapEntry},(l.map (·.born)).Nodup->∀{x y:MapEntry},x∈l->y∈l->x.born=y.born->x=y
 |[],_,x,y,hx,_,_=>by cases hx
 | z :: l,h,x,y,hx,hy,he => by
  rw[vaD,vbA]at h
  rcases vay.1 hx with hx1|hx1<;>rcases vay.1 hy with hy1|hy1
  ·rw[hx1,hy1]
  ·exact absurd (vah.2 ⟨y,hy1,by rw[<-he,hx1]⟩) h.1
  ·exact absurd (vah.2 ⟨x,hx1,by rw[he,hy1]⟩) h.1
  ·exact PR h.2 hx1 hy1 he
theorem vE{α β:Type}(f:α->β):∀{l:List α},(l.map f).Nodup->l.Nodup
 |[],_=>by simp
 |x::l,h=>by
  rw[vaD,vbA]at h
  exact vbA.2 ⟨fun hx=>h.1 (vah.2 ⟨x,hx,rfl⟩),vE f h.2⟩
theorem U1{vis:List MapEntry}{y:MapEntry}(hy:y∈(leftOf es (vis.map (·.born)).toArray).toList):y∈es.toList/\y.born∉vis.map (·.born):=by
 unfold leftOf at hy
 simp only[vcA,vaJ,vaT]at hy
 refine⟨hy.1,fun hx=>?_⟩
 have:=hy.2
 rw[<-vco]at this
 exact this (by simpa using hx)
theorem Tw{vis:List MapEntry}(hb:KB es clock)(hv:qby es vis)(hz:(leftOf es (vis.map (·.born)).toArray).size=0):vis.Perm es.toList:=by
 refine(List.perm_ext_iff_of_nodup (vE _ hv.nd) (vE _ hb.1)).2 fun x=>⟨hv.sub x,fun hx=>?_⟩
 have hin:x.born∈vis.map (·.born):=Classical.byContradiction fun hn=>by
  have:x∈(leftOf es (vis.map (·.born)).toArray).toList:=by
   unfold leftOf
   simp only[vcA,vaJ,vaT]
   refine⟨hx,?_⟩
   rw[<-vco]
   exact fun hc=>hn (by simpa using hc)
  have h0:(leftOf es (vis.map (·.born)).toArray).toList.length=0:=by simpa using hz
  rw[List.length_eq_zero_iff.1 h0]at this
  cases this
 obtain⟨v,hvm,he⟩:=vah.1 hin
 rw[<-PR hb.1 (hv.sub v hvm) hx he]
 exact hvm
theorem Tu(hE:tC GE 0 E)(hbm:E.w.heap[bm]? =some (.map es clock))(hb:KB es clock)(hr:E.w.heap.size<=r)(hk:∀y∈es.toList,y.key=.string ⟨(xi y).toArray⟩){ro:Option Nat}{i3 i4:Nat}{o10 o11 o12 o13 o4:Oper}{c5:Code}
  (h1:o10.op=.next (.tmp 9) false) (h1d:o10.dst=some 10) (h1g:o10.guard=none) (h2:o11.op=.extract (.tmp 10) 0) (h2d:o11.dst=some 11) (h2g:o11.guard=none)
  (h3:o12.op=.entry (.tmp 9)) (h3d:o12.dst=some 12) (h3g:o12.guard=none) (h4:o13.op=.extract (.tmp 12) 0) (h4d:o13.dst=some 13) (h4g:o13.guard=none) (h5:o4.op=.assign (.tmp 13)) (h5d:o4.dst=some 4) (h5g:o4.guard=none)
  (h6:∀(l:List ae) (s:ae),l.length<es.size->aW P GE 1000 c5 (EX .normal (kS e (l++[s]) (Qj r) .undef)) (kS e l (Qj r) (.str s))) {a:Act} {w:World} (h:F7 P E e es clock bm r [] .undef a w):
  I0 ro P (.loop (.seq (.region i3 #[o10,o11] false) (.seq (.cond (.tmp 11) .skip (.exit 0)) (.block 1 (.seq (.region i4 #[o12,o13,o4] false) c5)))))
   (fun q a' w'=>q=.exit 0/\a'.defers=a.defers/\∃vis:List MapEntry,vis.Perm es.toList/\∃Γ ow,SR P E Γ [] ow w' a'.tmps (kS e (vis.map xi) (Qj r) .undef)) a w:=by
 refine Ch (fun k a' w'=>a'.defers=a.defers/\∃vis,qby es vis/\vis.length+k=es.size+1/\F7 P E e es clock bm r vis .undef a' w') (es.size+1) ⟨rfl,[],⟨by simp,by simp⟩,by simp,h⟩ ?_
 rintro k a1 w1 ⟨hd1,vis,hv,hlen,hR⟩
 refine Gi (lA (Qx hE hbm hb hr h1 h1d h1g h2 h2d h2g hR) fun q a2 w2 hq=>?_)
 obtain⟨rfl,hd2,hc⟩:=hq
 show I0 ro P (.seq _ _) _ a2 w2
 rcases hc with⟨hf,hz,hR2⟩|⟨ht,y,hy,hit,hS⟩
 ·refine Gi (Lj hf (fun hx=>by cases hx) fun _=>P0 ?_)
  exact⟨rfl,hd2.trans hd1,vis,Tw hb hv hz,hR2.ex⟩
 ·obtain⟨hy1,hy2⟩:=U1 hy
  refine Gi (Lj ht (fun _=>P1 ?_) fun hx=>by cases hx)
  show I0 ro P (.block 1 _) _ a2 w2
  refine NA (Gi (lA (OH hE hbm hb h3 h3d h3g h4 h4d h4g h5 h5d h5g hy1 (hk y hy1) hit hS) fun q a3 w3 hq=>?_))
  obtain⟨rfl,hd3,rfl,Γ,ow,hS3⟩:=hq
  show I0 ro P c5 _ a3 w3
  have hnd:((vis++[y]).map (·.born)).Nodup:=by
   rw[vbi,vbz]
   exact⟨hv.nd,by simp,fun p hp q hq hpq=>by simp at hq;subst hq;subst hpq;exact hy2 hp⟩
  have hsub:∀x∈vis++[y],x∈es.toList:=fun x hx=>by
   rcases vaw.1 hx with hx|hx
   ·exact hv.sub x hx
   ·rw[vaX.1 hx];exact hy1
  have hle:vis.length<es.size:=by
   have:=(vE _ hnd).length_le_of_subset hsub
   simp at this
   omega
  obtain⟨hg,hS3⟩:=hS3.unown hit
  have hE':tC GE 1000 ⟨E.GE,Γ,w3,bj [] fun b=>if b=r then none else ow b⟩:={
   ge:=hE.ge
   low:=fun b n hb=>hS3.lt_of_ghost hb
   nt:=fun h0=>by cases h0
   gl:=fun g cs hg=>(hS3.gl g cs (by rw[hE.ge];exact hg))}
  have h7:=h6 (vis.map xi) (xi y) (by simpa using hle) ro _ [] a3 w3 hE' rfl ⟨Γ,[],_,hS3.asEntry,fun i _=>rfl⟩
  refine lA h7 fun q a4 w4 hq=>?_
  obtain⟨hd4,st,⟨Γ4,bs4,ow4,hS4,_⟩,rfl,rfl⟩:=hq
  have hb4:bs4=[]:=vao hS4.bl
  subst hb4
  show ∃n',n'<k/\_
  refine⟨k - 1,by omega,((hd4.trans hd3).trans hd2).trans hd1,vis++[y],⟨hsub,hnd⟩,by simp;omega,?_,Γ4,ow4,?_⟩
  ·have hrl:=(vae.1 hit).1
   rw[(hS4.step.keep r hrl fun hT=>hT.elim (fun⟨i,hi⟩=>by simp at hi) (fun hx=>hx (by simp))).1]
   simpa using hit
  ·have:=hS3.rebaseE hS4
   simpa using this
end
def uN(l:List ae):List ae:=l.mergeSort fun x y=>decide (x<=y)
abbrev Rk(x y:ae):Prop:=Op.bytesLess x y=true
theorem vO:∀(x:ae),Op.bytesLess x x=false
 |[]=>rfl
 |a::x=>by
  unfold Op.bytesLess
  rw[vO x]
  simp[UInt8.lt_irrefl]
theorem tG:∀{x y z:ae},Rk x y->Rk y z->Rk x z
 |_,_,[],h1,h2=>by simp[Rk,Op.bytesLess]at h2
 |_,[],_::_,h1,h2=>by simp[Rk,Op.bytesLess]at h1
 |[],_::_,_::_,_,_=>rfl
 | a :: x,b :: y,c :: z,h1,h2 => by
  unfold Rk Op.bytesLess at h1 h2 ⊢
  simp only[va4,vai,vad,vaZ]at h1 h2 ⊢
  rcases h1 with h1|⟨rfl,h1⟩
  ·rcases h2 with h2|⟨rfl,h2⟩
   ·exact .inl (UInt8.lt_trans h1 h2)
   ·exact .inl h1
  ·rcases h2 with h2|⟨rfl,h2⟩
   ·exact .inl h2
   ·exact .inr ⟨rfl,tG h1 h2⟩
theorem tF:∀{x y:ae},Op.bytesLess x y=false->Op.bytesLess y x=false->x=y
 |[],[],_,_=>rfl
 |[],_::_,h,_=>by simp[Op.bytesLess]at h
 |_::_,[],_,h=>by simp[Op.bytesLess]at h
 | a :: x,b :: y,h1,h2 => by
  unfold Op.bytesLess at h1 h2
  simp only[Bool.or_eq_false_iff,vbD,Bool.and_eq_false_imp,vaZ]at h1 h2
  have hab:a=b:=by
   have k1:=UInt8.not_lt.1 h1.1
   have k2:=UInt8.not_lt.1 h2.1
   exact UInt8.le_antisymm k2 k1
  subst hab
  rw[tF (h1.2 rfl) (h2.2 rfl)]
theorem W5:∀(x y:ae),Op.bytesLess x y=decide (x<y)
 |[],[]=>by simp[Op.bytesLess]
 |_::_,[]=>by simp[Op.bytesLess]
 |[],_::_=>by simp[Op.bytesLess]
 |a::x,b::y=>by
  unfold Op.bytesLess
  rw[W5 x y,Bool.eq_iff_iff]
  simp[List.cons_lt_cons_iff]
theorem Sy(x y:ae):decide (x<=y)= !Op.bytesLess y x:=by
 rw[W5]
 rw[<-decide_not]
 rfl
theorem G4(l:List ae):(uN l).Pairwise fun x y=>Op.bytesLess y x=false:=by
 have:=List.pairwise_mergeSort (le:=fun x y:ae=>decide (x<=y)) (fun a b c h1 h2=>by
  rw[Sy]at h1 h2 ⊢
  simp only[vaT]at h1 h2 ⊢
  cases h:Op.bytesLess c a with
  |false=>rfl
  | true =>
   exfalso
   by_cases hb:Op.bytesLess a b=true
   ·have:=tG h hb
    unfold Rk at this
    rw[h2]at this
    cases this
   ·have:a=b:=tF (by simpa using hb) h1
    subst this
    rw[h2]at h
    cases h) (fun a b=>by
  rw[Sy,Sy]
  cases h:Op.bytesLess b a with
  |false=>rfl
  | true =>
   cases h':Op.bytesLess a b with
   |false=>rfl
   |true=>
    have:=tG h h'
    unfold Rk at this
    rw[vO]at this
    cases this) l
 refine List.Pairwise.imp ?_ this
 intro a b h
 rw[Sy]at h
 simpa using h
theorem T7(l:List ae)(x:ae):x∈uN l↔x∈l:=List.mem_mergeSort
def RH(x:ae):List ae->List ae
 |[]=>[x]
 |y::r=>if Op.bytesLess y x=true then y::RH x r else x::y::r
def y7:List ae->List ae
 |[]=>[]
 |x::r=>RH x (y7 r)
theorem HT(x:ae):∀l,(RH x l).Perm (x::l)
 |[]=>.refl _
 | y :: r => by
  unfold RH
  split
  ·exact((HT x r).cons y).trans (List.Perm.swap x y r)
  ·exact .refl _
theorem pF:∀l,(y7 l).Perm l
 |[]=>.refl _
 |x::r=>(HT x (y7 r)).trans ((pF r).cons x)
abbrev V3(l:List ae):Prop:=l.Pairwise fun x y=>Op.bytesLess y x=false
theorem I6(x:ae):∀{l},V3 l->V3 (RH x l)
 |[],_=>by simp[RH,V3]
 | y :: r,h => by
  unfold V3 at h ⊢
  have h':=va7.1 h
  unfold RH
  split
  ·rename_i hy
   rw[va7]
   refine⟨fun z hz=>?_,I6 x h'.2⟩
   rcases vay.1 ((HT x r).mem_iff.1 hz)with rfl|hz
   ·cases hc:Op.bytesLess z y with
    |false=>rfl
    |true=>have:=tG hy hc;unfold Rk at this;rw[vO]at this;cases this
   ·exact h'.1 z hz
  ·rename_i hy
   have hy:Op.bytesLess y x=false:=by simpa using hy
   rw[va7]
   refine⟨fun z hz=>?_,h⟩
   rcases vay.1 hz with rfl|hz
   ·exact hy
   ·have hz:=h'.1 z hz
    cases hc:Op.bytesLess z x with
    |false=>rfl
    | true =>
     exfalso
     by_cases hxy:Op.bytesLess x y=true
     ·have:=tG hc hxy
      unfold Rk at this
      rw[hz]at this;cases this
     ·have:x=y:=tF (by simpa using hxy) hy
      subst this
      rw[hz]at hc;cases hc
theorem qC:∀l,V3 (y7 l)
 |[]=>by simp[y7,V3]
 |x::r=>I6 x (qC r)
theorem Fu:∀{a b:List ae},V3 a->V3 b->a.Perm b->a=b
 |[],b,_,_,h=>(List.Perm.nil_eq h)
 |x::a,[],_,_,h=>by have:=h.length_eq;simp at this
 | x :: a,y :: b,ha,hb,h => by
  unfold V3 at ha hb
  have ha':=va7.1 ha
  have hb':=va7.1 hb
  have hxy:x=y:=by
   rcases vay.1 (h.mem_iff.1 (vb9:x∈x::a))with hx|hx
   ·exact hx
   ·rcases vay.1 (h.mem_iff.2 (vb9:y∈y::b))with hy|hy
    ·exact hy.symm
    ·exact tF (hb'.1 x hx) (ha'.1 y hy)
  subst hxy
  congr 1
  exact Fu ha'.2 hb'.2 (List.Perm.cons_inv h)
theorem UY(l:List ae):y7 l=uN l:=Fu (qC l) (G4 l) ((pF l).trans (List.mergeSort_perm l _).symm)
open Go Go.Sort Go.Proofs.Tryz
theorem Qd{w:World}{b:Nat}{cur:Array Value}{e:TypeId}{l:List ae}(hh:w.heap[b]? =some (.cells cur e (0,0)))(ht:cur.toList.take l.length=l.map fun s=>Value.string ⟨s.toArray⟩):Holds encStr w b 0 l.toArray:=by
 intro j hj
 have hj':j<l.length:=by simpa using hj
 rw[vaI]
 refine⟨?_,frozen_of_row w b j cur e hh⟩
 rw[cell_of_row w b j cur e _ hh]
 have h1:(cur.toList.take l.length)[j]? =(l.map fun s=>Value.string ⟨s.toArray⟩)[j]?:=by rw[ht]
 rw[vak hj']at h1
 simp only[vaH,var,vaa hj',vag]at h1
 rw[h1,getElem!_pos _ j hj]
 simp[encStr]
theorem Ir{w:World}{b n:Nat}{cur:Array Value}{e:TypeId}{os:Array Obj}(d l:List ae)(hh:w.heap[b]? =some (.cells cur e (0,0)))(hd:d.length<=cur.size)(hl:d.take l.length=l):(∀b',b'<w.heap.size->b'≠b->(grow (putRow encStr (Sort.ahead w n) b 0 d.toArray) os).heap[b']? =w.heap[b']?)/\w.heap.size<=(grow (putRow encStr (Sort.ahead w n) b 0 d.toArray) os).heap.size/\
   ∃cur',(grow (putRow encStr (Sort.ahead w n) b 0 d.toArray) os).heap[b]? =some (.cells cur' e (0,0))/\cur'.size=cur.size/\cur'.toList.take l.length=l.map fun s=>Value.string ⟨s.toArray⟩:=by
 have hb:b<w.heap.size:=(vae.1 hh).1
 have hsz:(putRow encStr (Sort.ahead w n) b 0 d.toArray).heap.size=w.heap.size:=by simp[putRow,mapBlock,Sort.ahead]
 refine⟨fun b' h1 h2=>?_,?_,putCells encStr 0 d.toArray cur,?_,by simp[putCells],?_⟩
 ·show((putRow encStr (Sort.ahead w n) b 0 d.toArray).heap++os)[b']? =_
  rw[vaR (by rw[hsz];exact h1)]
  show(w.heap.modify b (onCells _))[b']? =_
  rw[vbI,vaz (fun e=>h2 e.symm)]
 ·show _<=((putRow encStr (Sort.ahead w n) b 0 d.toArray).heap++os).size
  rw[Array.size_append,hsz];omega
 ·show((putRow encStr (Sort.ahead w n) b 0 d.toArray).heap++os)[b]? =_
  rw[vaR (by rw[hsz];exact hb)]
  show(w.heap.modify b (onCells _))[b]? =_
  rw[vbI,vax rfl,hh]
  rfl
 ·have hll:l.length<=d.length:=by have h0:=va6 List.length hl;rw[vbk]at h0;omega
  refine va2 fun i=>?_
  by_cases hi:i<l.length
  ·have hdl:i<d.length:=by omega
   have hdi:d[i]=l[i]:=by
    have h1:(d.take l.length)[i]? =l[i]?:=by rw[hl]
    rw[vak hi,vaa hdl,vaa hi]at h1
    exact vbj h1
   rw[vak hi]
   simp only[vaH,putCells,Array.getElem?_mapIdx,var,vaa hi,vag]
   have hc:cur[i]? =some (cur[i]'(by omega)):=vaM (by omega)
   rw[hc]
   simp only[vag]
   rw[vax ⟨va1 _,by simp;omega⟩,Nat.sub_zero,getElem!_pos _ i (by simpa using hdl)]
   simp[encStr,hdi]
  ·rw[vaE (by simp[putCells];omega),vaE (by simp;omega)]
theorem AI(l:List ae):(uN l).length=l.length:=by unfold uN;exact List.length_mergeSort _
theorem Xu{n:Nat}(h:n<=dw):n<4611686018427387904:=by unfold dw at h;omega
theorem WX:Xq Pg 127 9 (fun s=>Value.string ⟨s.toArray⟩) uN (fun _ _ _=>.tuple #[]):={
 call:=call127
 row:=fun w b cap cur l hh hc hl hm hla ht=>by
  have hlen:=Xu hla
  refine(Any.slices_Sort_string Tryz.lays190 b 0 cap l w (Qd hh ht) ((vae.1 hh).1) hlen).mono fun r w' hr=>?_
  obtain⟨rfl,n,os,rfl⟩:=hr
  obtain⟨k1,k2,cur',k3,k4,k5⟩:=Ir (n:=n) (os:=os) (uN l) (uN l) hh (by rw[AI];omega) vaP
  exact⟨rfl,by rw[AI];exact hl,rfl,rfl,rfl,⟨k2,vbE _ _⟩,k1,cur',k3,by omega,k5⟩
 none:=fun w=>⟨by simp[uN],Any.slices_Sort_string_none Tryz.lays190 Option.none 0 w⟩}
theorem qbF:Pg.cellsOf 9=1:=by kernel_rfl
def sL(m:List (ae×Bool)):Option (List ae):=if decide (m.length<=dw)=true then some (y7 (m.map fun e=>e.1))else none
abbrev qcM:Nat:=82
noncomputable def Ux:Code:=f82.body.getD .skip
def qbO:Code->Nat×Array Oper
 |.region id ops _=>(id,ops)
 |_=>(0,#[])
abbrev ZZ:Code:=bg Ux [false]
abbrev Z0:Code:=bg Ux [true,false]
abbrev Ni:Code:=bg Ux [true,true,false,false]
abbrev Yt:Code:=bg Ux [true,true,false,true,false,false,false]
abbrev Xe:Code:=bg Ux [true,true,false,true,false,false,true,true,false,false]
abbrev qbq:Code:=bg Ux [true,true,false,true,false,false,true,true,false,true]
abbrev Yu:Code:=bg Ux [true,true,true,false]
abbrev qbP:Code:=bg Ux [true,true,true,true,false]
abbrev fP(c:Code)(i:Nat):Oper:=((qbO c).2)[i]?.getD default
abbrev SQ(c:Code):Nat:=(qbO c).1
theorem XM:Ux=.seq (.region (SQ ZZ) #[fP ZZ 0] false) (.seq (.region (SQ Z0) #[fP Z0 0] false) (.seq (.seq (.region (SQ Ni) #[fP Ni 0,fP Ni 1,fP Ni 2,fP Ni 3,fP Ni 4] false)
  (.block 0 (.loop (.seq (.region (SQ Yt) #[fP Yt 0,fP Yt 1] false) (.seq (.cond (.tmp 11) .skip (.exit 0)) (.block 1 (.seq (.region (SQ Xe) #[fP Xe 0,fP Xe 1,fP Xe 2] false) qbq)))))))
  (.seq (.region (SQ Yu) #[fP Yu 0,fP Yu 1] false) (.seq qbP .ret)))):=by kernel_rfl
abbrev eS:TypeId:=9
theorem qcQ(iv:Value)(l:List ae)(s:ae)(h:l.length+1<=dw):aW Pg GE 1000 qbq (EX .normal (kS eS (l++[s]) iv .undef)) (kS eS l iv (.str s)):=by
 have bl:app l [s]=some (l++[s]):=by unfold app;rw[vax (by simpa using h)]
 have z:=sv (bN.mk' (v:=PVal.str) Ij ([s]:List ae) 1 (by kernel_rfl))<|sv (bN.ap bl)<|eF .normal (kS eS (l++[s]) iv .undef)
 exact qN (A:=[14]) mixed z (by kernel_rfl)
theorem qcR(l:List ae)(h:l.length<=dw):aW Pg GE 0 (.region (SQ Yu) #[fP Yu 0,fP Yu 1] false) (EX .normal (sG 21 3 (uN l) eS)) (sG 21 3 l eS):=
 aW.inplace (t:=3) (d1:=18) (d2:=19) WX qbF h rfl rfl rfl rfl rfl rfl (by decide) (.inl ⟨rfl,AI l⟩)
abbrev sE(l:List ae):aB:=aS 21 [(2,sl cS l)] [] [((2,0),eS)]
theorem qcS(l:List ae):aW Pg GE 0 (.seq qbP .ret) (EX .ret (sE l)) (sG 21 3 l eS):=by
 have z:=eF .ret (sE l)
 exact qN (A:=[20]) mixed z (by kernel_rfl)
theorem dR{a:Act}{d t:Nat}{v:Value}:(a.put (some d) v).tmps[t]? =if d=t then(if d<a.tmps.size then some v else none)else a.tmps[t]?:=by
 show(a.tmps.setIfInBounds d v)[t]? =_
 rw[vbg]
theorem dD{a:Act}{d:Nat}{v:Value}:(a.put (some d) v).tmps.size=a.tmps.size:=by
 show(a.tmps.setIfInBounds d v).size=_
 simp
theorem Jo{a:Act}{w:World}{Q:Exit->Act->World->Prop}{id:Nat}{ops:Array Oper}(h:wpOps Pg ops Q (List.range ops.size) a w):(Code.region id ops false).wp Pg Q a w:=wp_region h
theorem qbt(m:List (ae×Bool)):kV Pg 124 (.bptr 0 0) [.cells [.mapr 1] [],.map (aL PVal.bool m)]=some (.mapr 1):=by kernel_rfl
theorem qbs:aR Pg 126 (.bptr 0 0) 0=some (.bptr 0 0):=by kernel_rfl
theorem qbu:Pg.underlying 124=some (.map 9 4):=by kernel_rfl
theorem yP{m:List (ae×Bool)}{r:List ae}(h:sL m=some r):C Pg GE qcM [.bptr 0 0] [] [.cells [.mapr 1] [],.map (aL PVal.bool m)] (sl cS r) [(0,eS)] [.cells [.mapr 1] [],.map (aL PVal.bool m)]:=by
 rcases aO h with⟨hl,h⟩|⟨_,h⟩
 rotate_left
 ·cases h
 obtain rfl:=lf h
 have hlen:m.length<=dw:=by simpa using hl
 refine⟨call82,fun Γ bs ow w vs hS=>calls_of_wp func82 (c:=Ux) rfl ?_⟩
 obtain⟨v,rfl⟩:∃v,vs=#[v]:=vbZ.1 hS.sz
 have hvr:VR Γ bs w (.bptr 0 0) v:=hS.tm 0 _ _ rfl rfl
 have hv0:∃b0,v=.pointer (some ⟨b0,0,none⟩)/\bs[0]? =some (some b0):=by cases hvr with|bptr _ _ b0 hb0=>exact⟨b0,rfl,hb0⟩
 obtain⟨b0,rfl,hb0⟩:=hv0
 obtain⟨vm,hld,hvm⟩:=vT (P:=Pg) hS (t:=124) hvr (qbt m)
 have hvm0:∃bm,vm=.map (some bm)/\bs[1]? =some (some bm):=by cases hvm with|mapr _ bm hbm=>exact⟨bm,rfl,hbm⟩
 obtain⟨bm,rfl,hb1⟩:=hvm0
 obtain⟨_,hbml,es,clock,hmap,hsz,hent,hborn⟩:=hS.bx 1 bm _ hb1 rfl
 obtain⟨vf,hfa,hvf⟩:=qM (P:=Pg) hvr qbs
 have hvf0:vf=.pointer (some ⟨b0,0,none⟩):=by cases hvf with|bptr _ _ b hb=>rw[hb0]at hb;cases hb;rfl
 subst hvf0
 have hrg:=run_range_map (P:=Pg) w 124 9 4 bm es clock qbu hmap
 have hB:Bo GE Γ w:=hS.base
 have hE:tC GE 0 (E3 GE Γ w):=hB.good
 have hkey:∀(j:Nat) (x:MapEntry),es[j]? =some x->∃s u,m[j]? =some (s,u)/\x.key=.string ⟨s.toArray⟩:=fun j x hx=>by
  have hj:j<m.length:=by have:=(vae.1 hx).1;rw[hsz]at this;simpa[aL]using this
  obtain⟨h1,_⟩:=hent j (.str m[j].1) (.bool m[j].2) x (by simp[aL,hj]) hx
  refine⟨m[j].1,m[j].2,by simp[hj],?_⟩
  generalize x.key=k at h1
  cases h1;rfl
 have hk:∀y∈es.toList,y.key=.string ⟨(xi y).toArray⟩:=fun y hy=>by
  obtain⟨j,hj⟩:=vbd.1 hy
  obtain⟨s,u,_,h2⟩:=hkey j y (by simpa using hj)
  unfold xi
  rw[h2]
 have hks:es.toList.map xi=m.map fun e=>e.1:=by
  refine va2 fun j=>?_
  simp only[var,vaH]
  cases hj:es[j]? with
  |none=>
   have h1:m.length<=j:=by have:=vbM.1 hj;rw[hsz]at this;simpa[aL]using this
   simp[h1]
  |some x=>
   obtain⟨s,u,h1,h2⟩:=hkey j x hj
   simp[h1,xi,h2]
 have hn:f82.ntmps=21:=by kernel_rfl
 refine(fun(key:∀A0:Act,A0.tmps.size=21->A0.tmps[0]? =some (.pointer (some ⟨b0,0,none⟩))->A0.defers=[]->Ux.wp Pg _ A0 w)=>key _ ?_ ?_ rfl) ?_
 ·rw[hn];simp
 ·rw[hn];simp
 intro A0 z0 z1 z2
 rw[XM]
 have d00:(fP ZZ 0).dst=some 2:=by kernel_rfl
 have d10:(fP Z0 0).dst=some 3:=by kernel_rfl
 have o20:(fP Ni 0).op=.move (.tmp 0):=by kernel_rfl
 have d20:(fP Ni 0).dst=some 5:=by kernel_rfl
 have o21:(fP Ni 1).op=.nilCheck (.tmp 5):=by kernel_rfl
 have d21:(fP Ni 1).dst=some 6:=by kernel_rfl
 have o22:(fP Ni 2).op=.fieldAddr 126 (.tmp 6) 0:=by kernel_rfl
 have d22:(fP Ni 2).dst=some 7:=by kernel_rfl
 have o23:(fP Ni 3).op=.load 124 (.tmp 7):=by kernel_rfl
 have d23:(fP Ni 3).dst=some 8:=by kernel_rfl
 have o24:(fP Ni 4).op=.range 124 (.tmp 8):=by kernel_rfl
 have d24:(fP Ni 4).dst=some 9:=by kernel_rfl
 refine wp_seq (Jo (fO (o:=fP ZZ 0) (by kernel_rfl) (by kernel_rfl) (v:=.slice none 0 0) (w':=w) (by kernel_rfl) ?_))
 rw[d00]
 show Code.wp Pg _ _ _ w
 refine wp_seq (Jo (fO (o:=fP Z0 0) (by kernel_rfl) (by kernel_rfl) (v:=.slice none 0 0) (w':=w) (by kernel_rfl) ?_))
 rw[d10]
 show Code.wp Pg _ _ _ w
 refine wp_seq (wp_seq (Jo (fO (o:=fP Ni 0) (by kernel_rfl) (by kernel_rfl) (v:=.pointer (some ⟨b0,0,none⟩)) (w':=w) ?_ ?_)))
 ·have:((A0.put (some 2) (.slice none 0 0)).put (some 3) (.slice none 0 0)).eval (.tmp 0)=.pointer (some ⟨b0,0,none⟩):=bU (by simp only[dR];exact z1)
  simp[execOp,o20,this]
 rw[d20]
 refine fO (o:=fP Ni 1) (by kernel_rfl) (by kernel_rfl) (v:=.pointer (some ⟨b0,0,none⟩)) (w':=w) ?_ ?_
 ·have:(((A0.put (some 2) (.slice none 0 0)).put (some 3) (.slice none 0 0)).put (some 5) (.pointer (some ⟨b0,0,none⟩))).eval (.tmp 5)=.pointer (some ⟨b0,0,none⟩):=bU (by simp only[dR,dD,z0];rfl)
  simp[execOp,o21,this]
 rw[d21]
 refine fO (o:=fP Ni 2) (by kernel_rfl) (by kernel_rfl) (v:=.pointer (some ⟨b0,0,none⟩)) (w':=w) ?_ ?_
 ·have:((((A0.put (some 2) (.slice none 0 0)).put (some 3) (.slice none 0 0)).put (some 5) (.pointer (some ⟨b0,0,none⟩))).put (some 6) (.pointer (some ⟨b0,0,none⟩))).eval (.tmp 6)=.pointer (some ⟨b0,0,none⟩):=bU (by simp only[dR,dD,z0];rfl)
  simp[execOp,o22,this,hfa]
 rw[d22]
 refine fO (o:=fP Ni 3) (by kernel_rfl) (by kernel_rfl) (v:=.map (some bm)) (w':=w) ?_ ?_
 ·have:(((((A0.put (some 2) (.slice none 0 0)).put (some 3) (.slice none 0 0)).put (some 5) (.pointer (some ⟨b0,0,none⟩))).put (some 6) (.pointer (some ⟨b0,0,none⟩))).put (some 7) (.pointer (some ⟨b0,0,none⟩))).eval (.tmp 7)=.pointer (some ⟨b0,0,none⟩):=bU (by simp only[dR,dD,z0];rfl)
  simp[execOp,o23,this,hld]
 rw[d23]
 refine fO (o:=fP Ni 4) (by kernel_rfl) (by kernel_rfl) (v:=Qj w.heap.size) (w':=w.alloc (.mapIter (some bm) clock #[] clock)) ?_ ?_
 ·have:((((((A0.put (some 2) (.slice none 0 0)).put (some 3) (.slice none 0 0)).put (some 5) (.pointer (some ⟨b0,0,none⟩))).put (some 6) (.pointer (some ⟨b0,0,none⟩))).put (some 7) (.pointer (some ⟨b0,0,none⟩))).put (some 8) (.map (some bm))).eval (.tmp 8)=.map (some bm):=bU (by simp only[dR,dD,z0];rfl)
  simp[execOp,o24,this,hrg]
 rw[d24]
 generalize hA1:((((((A0.put (some 2) (.slice none 0 0)).put (some 3) (.slice none 0 0)).put (some 5) (.pointer (some ⟨b0,0,none⟩))).put (some 6) (.pointer (some ⟨b0,0,none⟩))).put (some 7) (.pointer (some ⟨b0,0,none⟩))).put (some 8) (.map (some bm))).put (some 9) (Qj w.heap.size)=A1
 have y0:A1.tmps.size=21:=by rw[<-hA1];simp[dD,z0]
 have y3:A1.tmps[3]? =some (.slice none 0 0):=by rw[<-hA1];simp only[dR,dD,z0];rfl
 have y9:A1.tmps[9]? =some (Qj w.heap.size):=by rw[<-hA1];simp only[dR,dD,z0];rfl
 have y2:A1.defers=[]:=by rw[<-hA1];simp only[bu];exact z2
 clear hA1
 have h0:SR Pg (E3 GE Γ w) Γ [] (fun _=>none) w A1.tmps ⟨(kS eS [] (Qj w.heap.size) .undef).tmps,[],[]⟩:=by
  refine hB.fresh 0 y0 fun t p v hp hv=>?_
  by_cases h3:t=3
  ·subst h3
   rw[y3]at hv
   cases hp;cases hv
   exact .sliceNil
  ·by_cases h9:t=9
   ·subst h9
    rw[y9]at hv
    cases hp;cases hv
    exact .val _
   ·have:p=.undef:=by
     have ht:t<21:=by have:=aq hp;simpa[kS]using this
     clear hv
     rcases(show t=0\/t=1\/t=2\/t=4\/t=5\/t=6\/t=7\/t=8\/t=10\/t=11\/t=12\/t=13\/t=14\/t=15\/t=16\/t=17\/t=18\/t=19\/t=20 by omega)with h|h|h|h|h|h|h|h|h|h|h|h|h|h|h|h|h|h|h<;>subst h<;>cases hp<;>rfl
    rw[this]
    exact .undef v
 have h1:SR Pg (E3 GE Γ w) Γ [] (fun _=>none) w A1.tmps (kS eS [] (Qj w.heap.size) .undef):={h0 with
  ot:=fun t k e he=>by
   simp[kS]at he
   obtain⟨⟨rfl,rfl⟩,rfl⟩:=he
   exact⟨_,_,y3,rfl,⟨0,[],World.ownsRow_nil _ _ _ _,fun b hb=>by simp[Value.ownBlock]at hb⟩,fun b hb=>by simp[Value.ownBlock]at hb⟩
  ob:=fun i j e cs own b hB=>by simp[kS]at hB}
 obtain⟨h2,_⟩:=h1.allocO (.mapIter (some bm) clock #[] clock)
 have hR:F7 Pg (E3 GE Γ w) eS es clock bm w.heap.size [] .undef A1 (w.alloc (.mapIter (some bm) clock #[] clock)):=⟨World.alloc_heap_new w _,Γ,_,h2⟩
 have hel:es.size<=dw:=by rw[hsz];simpa[aL]using hlen
 have hlp:=Tu (P:=Pg) (GE:=GE) (E:=E3 GE Γ w) (e:=eS) (ro:=none) (i3:=SQ Yt) (i4:=SQ Xe) (o10:=fP Yt 0) (o11:=fP Yt 1) (o12:=fP Xe 0) (o13:=fP Xe 1) (o4:=fP Xe 2) (c5:=qbq) hE hmap hborn (vam _) hk
  (by kernel_rfl) (by kernel_rfl) (by kernel_rfl) (by kernel_rfl) (by kernel_rfl) (by kernel_rfl) (by kernel_rfl) (by kernel_rfl) (by kernel_rfl) (by kernel_rfl) (by kernel_rfl) (by kernel_rfl) (by kernel_rfl) (by kernel_rfl) (by kernel_rfl)
  (fun l s hls=>qcQ (Qj w.heap.size) l s (by omega)) hR
 show Code.wp Pg _ _ A1 _
 refine wp_block (wp_mono hlp fun q A2 w2 hq=>?_)
 obtain⟨rfl,hd2,vis,hperm,Γ2,ow2,hS2⟩:=hq
 show Code.wp Pg _ _ A2 w2
 have hS2:SR Pg (E3 GE Γ w) Γ2 [] ow2 w2 A2.tmps (sG 21 3 (vis.map xi) eS):=hS2.forgetT (tm:=(sG 21 3 (vis.map xi) eS).tmps) rfl
 have hvl:(vis.map xi).length<=dw:=by rw[vba,hperm.length_eq];simpa using hel
 have hwp6:=qcR (vis.map xi) hvl none (E3 GE Γ w) [] A2 w2 hE rfl ⟨Γ2,[],ow2,hS2,fun i hi=>absurd hi (vaK _)⟩
 refine wp_seq (wp_mono hwp6 fun q A3 w3 hq=>?_)
 obtain⟨hd3,st3,⟨Γ3,bs3,ow3,hS3,_⟩,rfl,rfl⟩:=hq
 show Code.wp Pg _ _ A3 w3
 have hwp7:=qcS (uN (vis.map xi)) none (E3 GE Γ w) [] A3 w3 hE rfl ⟨Γ3,bs3,ow3,hS3,fun i hi=>absurd hi (vaK _)⟩
 refine wp_mono hwp7 fun q A4 w4 hq=>?_
 obtain⟨hd4,st4,⟨Γ4,bs4,ow4,hS4,_⟩,rfl,rfl⟩:=hq
 have hsort:uN (vis.map xi)=y7 (m.map fun e=>e.1):=by
  rw[<-UY]
  refine Fu (qC _) (qC _) (((pF _).trans ?_).trans (pF _).symm)
  rw[<-hks]
  exact hperm.map xi
 rw[hsort]at hS4
 obtain⟨vr,e1,e2,e3⟩:=tT hS4 (fn:=f82) (r:=sl cS (y7 (m.map fun e=>e.1))) (by kernel_rfl)
 have hf:=hS4.finish (H':=[]) (src:=dH f82.results.toList) (ro:=[(0,eS)]) e2 (aj bz _) trivial (fun x hx=>by
  simp only[vaX]at hx
  subst hx
  exact⟨vaX.2 rfl,fun u v'=>e3 0 u v' trivial⟩) (fun x hx y hy _=>by
  simp only[vaX]at hx hy
  rw[hx,hy])
 have hbs4:bs4.take (List.length ([]:List aC))=[]:=by simp
 rw[hbs4]at hf
 refine⟨((((hd4.trans hd3).trans hd2)).trans y2:A4.defers=[]),vr,e1,vr,Γ4,LL 0 (y5 (dH f82.results.toList) [(0,eS)] ow4) ow,rfl,?_⟩
 have hT:∀b,¬(E3 GE Γ w).T b:=fun b hb=>hb
 have hw:=hS.aside hf
 have hr:VR Γ4 bs w4 (sl cS (y7 (m.map fun e=>e.1))) vr:=e2.clo (aj bz _)
 have:=hw.setResult (d:=0) (ro:=[(0,eS)]) (by simp) hr (owC:=y5 (dH f82.results.toList) [(0,eS)] ow4) (fun k e hm=>?_) (fun b t k hb=>?_)
 ·exact this
 ·obtain⟨u,v',h1,h2,h3,h4⟩:=hf.ot 0 k e (vah.2 ⟨(k,e),hm,rfl⟩)
  simp at h1;subst h1
  exact⟨v',h2,h3,h4⟩
 ·obtain⟨k1,k2⟩:=hf.on b _ hb
  have hge:w.heap.size<=b:=k2.resolve_left (hT b)
  refine⟨?_,k1,.inr (vaB hS.step.size hge)⟩
  cases hL:ow b with
  |none=>rfl
  |some L=>have:=(hS.on b L hL).1;omega
abbrev qcL:Nat:=106
noncomputable def XK:Code:=f106.body.getD .skip
abbrev qbH:Code:=bg XK [false]
abbrev qbI:Code:=bg XK [true,false,false]
abbrev VQ:Code:=bg XK [true,false,true,false]
abbrev qbd:Code:=bg XK [true,true,false]
theorem XL:XK=.seq qbH (.seq (.seq qbI (.block 0 (.rangeFunc (.tmp 9) #[10,11] (ZB VQ) (ZC VQ)))) (.seq qbd .ret)):=by kernel_rfl
def Gp(nm:ae)(s:ae×Bool)(x:ag):Option (Bool×(ae×Bool)):=if(x.old==nm)=true then some (false,(x.new,true))else some (true,s)
def yk(scope:List ag)(name:ae):Option (ae×Bool):=if decide (scope.length<4611686018427387904)=true then
 (VM (Gp name) scope.reverse ([],false)).bind fun q=>if q.1=true then some ([],false)else some q.2 else none
abbrev Wv(s:ae×Bool):List aC:=[.dead,.cells [.str s.1] [],.cells [.bool s.2] []]
abbrev Uh(nm:ae)(s:ae×Bool):aB:=aS 18 [(3,.eptr [.str nm]),(4,.bptr 1 0),(5,.bptr 2 0)] (Wv s) []
abbrev X9(sc:List ag)(nm:ae):aB:=aS 18 [(0,Ji sc),(3,.eptr [.str nm]),(4,.bptr 1 0),(5,.bptr 2 0)] (Wv ([],false)) []
theorem qbe(sc:List ag)(nm:ae):aW Pg GE 0 qbH (EX .normal (X9 sc nm)) (aS 18 [(0,Ji sc),(1,.str nm)] [] []):=by
 have z:=se (Ij nm)<|sx (show fM Pg 9=some [.str []] by kernel_rfl)<|sx (show fM Pg 4=some [.bool false] by kernel_rfl)<|eF .normal (X9 sc nm)
 exact qN (A:=[]) mixed z (by kernel_rfl)
abbrev WY(sc:List ag)(nm:ae):aB:=aS 18 [(3,.eptr [.str nm]),(4,.bptr 1 0),(5,.bptr 2 0),(9,.func (.func P4) [] [.eptr [Ji sc]])] (Wv ([],false)) []
theorem qbf(sc:List ag)(nm:ae):aW Pg GE 0 qbI (EX .normal (WY sc nm)) (X9 sc nm):=by
 have z:=cD (PQ sc)<|eF .normal (WY sc nm)
 exact qN (A:=[]) mixed z (by kernel_rfl)
abbrev qcP(x:ag):List PVal:=[.str x.old,.str x.new]
abbrev Ya(nm:ae)(s:ae×Bool)(x:ag):aB:=aS 18 [(3,.eptr [.str nm]),(4,.bptr 1 0),(5,.bptr 2 0),(7,.bptr 3 0)] (Wv s++[.cells (qcP x) []]) []
theorem qbg(nm:ae)(s:ae×Bool)(x:ag):aW Pg GE 3 (ZB VQ) (EX .normal (Ya nm s x)) (aS 18 [(3,.eptr [.str nm]),(4,.bptr 1 0),(5,.bptr 2 0),(11,.agg (aa x))] (Wv s) []):=by
 have z:=sx (show fM Pg 137=some [.str [],.str []] by kernel_rfl)<|sx (J5 x)<|eF .normal (Ya nm s x)
 exact qN (A:=[]) mixed z (by kernel_rfl)
abbrev Yb(nm:ae)(r:ae×Bool):aB:=aS 18 [(3,.eptr [.str nm]),(4,.bptr 1 0),(5,.bptr 2 0)] (Wv r++[.dead]) []
theorem qbh(nm:ae)(s:ae×Bool)(x:ag){r:Bool×(ae×Bool)}(h:Gp nm s x=some r):aW Pg GE 3 (ZC VQ) (EX (if r.1=true then .normal else .ret) (Yb nm r.2)) (Ya nm s x):=by
 unfold Gp at h
 rcases aO h with⟨c1,h⟩|⟨c1,h⟩
 ·cases h
  have z:=ss<|sv (b8 AF (.str nm) [])<|sg 0 c1<|ss<|ss<|ss<|eF .ret (Yb nm (x.new,true))
  exact qN (A:=[]) mixed z (by kernel_rfl)
 ·cases h
  have z:=ss<|sv (b8 AF (.str nm) [])<|sg 0 c1<|eF .normal (Yb nm s)
  exact qN (A:=[]) mixed z (by kernel_rfl)
theorem qbi(nm:ae)(s:ae×Bool):aW Pg GE 3 (.seq qbd .ret) (EX .ret (Uh nm ([],false))) (Uh nm s):=by
 have z:=ss<|ss<|eF .ret (Uh nm ([],false))
 exact qN (A:=[]) mixed z (by kernel_rfl)
theorem XY(nm:ae)(s:ae×Bool):aW Pg GE 3 .ret (EX .ret (Uh nm s)) (Uh nm s):=by
 have z:=eF .ret (Uh nm s)
 exact qN (A:=[]) mixed z (by kernel_rfl)
abbrev AE(fn:FuncId)(a:Array Value)(D:Nat)(b:Bool):Loop:={state:=if b then .ready else .done,pending:=if b then none else some .ret,fn:=fn,tmps:=a,params:=#[10,11],assign:=ZB VQ,body:=ZC VQ,defers:=D}
def JD(nm:ae)(Γe:aU)(we:World)(bs:bD)(a:Array Value)(fn:FuncId)(l D:Nat)(b:Bool)(s:ae×Bool)(Γ:aU)(w:World):Prop:=
 ∃ow,SR Pg (E3 GE Γe we) Γ bs ow w a (Uh nm s)/\¬bj bs ow l/\¬bj bs ow D/\w.heap[l]? =some (.loop (AE fn a D b))/\w.heap[D]? =some (.deferred (some []))
theorem YG{nm:ae}{Γe:aU}{we:World}{bs:bD}{a:Array Value}{fn:FuncId}{l D:Nat}:Sd Pg GE (JD nm Γe we bs a fn l D) where
 base:=fun b s Γ w ⟨ow,h,_⟩=>h.base
 side:=fun b s Γ w ⟨ow,h,hTl,hTD,hhl,hhD⟩ Γ' bs' ow' w' a' st' h'=>
  ⟨ow,h.aside h',hTl,hTD,(h'.step.keep l (er hhl) id).1.trans hhl,(h'.step.keep D (er hhD) id).1.trans hhD⟩
theorem qat{nm:ae}{Γe:aU}{we:World}{bs:bD}{a:Array Value}{fn:FuncId}{l D:Nat}(hl:we.heap.size<=l)(hD:we.heap.size<=D)(hne:D≠l)(hb:bs.length=3)(s:ae×Bool)(Γ:aU)(w:World)(i:Int)(x:ag)(v:Value)(n:Nat)(r:Bool×(ae×Bool))
  (hj:JD nm Γe we bs a fn l D true s Γ w) (hv:VR Γ [] w (.agg (aa x)) v) (hr:Gp nm s x=some r):YieldAt Fence.wide n Pg l #[.int .i64 i,v] w fun e w'=>∃Γ',e=.returned (.bool r.1)/\Γ.Le w Γ' w'/\JD nm Γe we bs a fn l D r.1 r.2 Γ' w':=by
 obtain⟨ow,h,hTl,hTD,hhl,hhD⟩:=hj
 have hS4:=qbh nm s x hr
 refine⟨_,_,_,_,run_yield hhl rfl,?_⟩
 have hz:(((#[10,11]:Array Tmp).zip #[Value.int .i64 i,v]).foldl (fun tmps (t,a)=>tmps.setIfInBounds t a) a)=(a.setIfInBounds 10 (.int .i64 i)).setIfInBounds 11 v:=by simp
 show RoundIn Fence.wide n Pg l fn (((#[10,11]:Array Tmp).zip #[Value.int .i64 i,v]).foldl (fun tmps (t,a)=>tmps.setIfInBounds t a) a) (ZB VQ) (ZC VQ) w _
 rw[hz]
 have h7:SR Pg (E3 GE Γe we) Γ bs ow w ((a.setIfInBounds 10 (.int .i64 i)).setIfInBounds 11 v) (aS 18 [(3,.eptr [.str nm]),(4,.bptr 1 0),(5,.bptr 2 0),(11,.agg (aa x))] (Wv s) []):=(h.set (d:=10) (p:=.undef) (v:=.int .i64 i) (.undef _)).set (d:=11) (p:=.agg (aa x)) (hv.mono (.refl _ _) (fun i b hi=>by simp at hi))
 refine roundIn_of_wpIn trivial (wpIn_mono (aW.on (qbg nm s x) (by decide) h7 (by rw[hb];decide) (some l) [] n) ?_)
 rintro e ⟨a1,ds1⟩ w1 ⟨rfl,Γ1,bs1,ow1,st1,h1,⟨rfl,rfl⟩,hbs1,hle1,hsz1,hk1⟩
 obtain⟨k1,t1⟩:=hk1 l (er hhl) hTl
 obtain⟨k1D,t1D⟩:=hk1 D (er hhD) hTD
 have hl1:=k1.trans hhl
 refine⟨_,run_beginRound hl1 rfl,?_⟩
 obtain⟨h1',hle1'⟩:=h1.putOther (l:=l) (o:=.loop {AE fn a D true with state:=.busy}) t1 (.inr hl) (fun c t fr e=>by rw[hl1]at e;cases e)
 have hb1:3<=bs1.length:=by have:=h1.bl;rw[this];exact Nat.le_of_ble_eq_true rfl
 obtain⟨bq,s'⟩:=r
 refine wpIn_mono (aW.on hS4 (by decide) h1' hb1 (some l) [] n) ?_
 rintro e ⟨a2,ds2⟩ w2 ⟨rfl,Γ2,bs2,ow2,st2,h2,⟨rfl,rfl⟩,hbs2,hle2,hsz2,hk2⟩
 have hl1':(w1.putObj l (.loop {AE fn a D true with state:=.busy})).heap[l]? =some (.loop {AE fn a D true with state:=.busy}):=World.putObj_heap_same (er hl1)
 have hD1':(w1.putObj l (.loop {AE fn a D true with state:=.busy})).heap[D]? =some (.deferred (some [])):=(World.putObj_heap_other hne).trans (k1D.trans hhD)
 obtain⟨k2,t2⟩:=hk2 l (er hl1') t1
 obtain⟨k2D,t2D⟩:=hk2 D (er hD1') t1D
 have hl2:=k2.trans hl1'
 cases bq with
 |true=>
  refine⟨_,_,run_endRound none hl2,?_⟩
  obtain⟨h3,hle3⟩:=h2.putOther (l:=l) (o:=.loop {{AE fn a D true with state:=.busy}with state:=if(none:Option Code).isNone then .ready else .done,pending:=none}) t2 (.inr hl) (fun c t fr e=>by rw[hl2]at e;cases e)
  have hle:Γ.Le w Γ2 (w2.putObj l (.loop {{AE fn a D true with state:=.busy}with state:=if(none:Option Code).isNone then .ready else .done,pending:=none})):=((hle1.trans hle1').trans hle2).trans hle3
  obtain⟨ow3,h4,hT4⟩:=h.back rfl h3 hle (H':=Wv s') (fun i hi=>(hbs2 i (by omega)).trans (hbs1 i (by omega))) ⟨trivial,⟨rfl,aI trivial trivial,fun x hx=>hx⟩,⟨rfl,aI trivial trivial,fun x hx=>hx⟩,trivial⟩ hb.symm
  exact⟨Γ2,rfl,hle,ow3,h4,fun hx=>t2 (hT4 l hx),fun hx=>t2D (hT4 D hx),World.putObj_heap_same (er hl2),(World.putObj_heap_other hne).trans (k2D.trans hD1')⟩
 |false=>
  refine⟨_,_,run_endRound (some .ret) hl2,?_⟩
  obtain⟨h3,hle3⟩:=h2.putOther (l:=l) (o:=.loop {{AE fn a D true with state:=.busy}with state:=if(some Code.ret:Option Code).isNone then .ready else .done,pending:=some .ret}) t2 (.inr hl) (fun c t fr e=>by rw[hl2]at e;cases e)
  have hle:Γ.Le w Γ2 (w2.putObj l (.loop {{AE fn a D true with state:=.busy}with state:=if(some Code.ret:Option Code).isNone then .ready else .done,pending:=some .ret})):=((hle1.trans hle1').trans hle2).trans hle3
  obtain⟨ow3,h4,hT4⟩:=h.back rfl h3 hle (H':=Wv s') (fun i hi=>(hbs2 i (by omega)).trans (hbs1 i (by omega))) ⟨trivial,⟨rfl,aI trivial trivial,fun x hx=>hx⟩,⟨rfl,aI trivial trivial,fun x hx=>hx⟩,trivial⟩ hb.symm
  exact⟨Γ2,rfl,hle,ow3,h4,fun hx=>t2 (hT4 l hx),fun hx=>t2D (hT4 D hx),World.putObj_heap_same (er hl2),(World.putObj_heap_other hne).trans (k2D.trans hD1')⟩
theorem CW{sc:List ag}{nm:ae}{r:ae×Bool}(h:yk sc nm=some r):CC Pg GE qcL [Ji sc,.str nm] (.tuple [.str r.1,.bool r.2]) []:=by
 refine⟨aI (Rp sc)<|aI trivial trivial,call106,fun Γ bs ow w vs hS=>(callsIn_wide (n:=0)).1 (callsIn_of_wp_marks func106 (c:=XK) rfl trivial ?_)⟩
 obtain rfl:bs=[]:=vao hS.bl
 have hvs:vs.size=2:=hS.sz
 have hB:Bo GE Γ w:=hS.base
 have hE:tC GE 0 (E3 GE Γ w):=hB.good
 have h0:SR Pg (E3 GE Γ w) Γ [] (fun _=>none) w (vs++Array.replicate 16 undef) (aS 18 [(0,Ji sc),(1,.str nm)] [] []):=by
  refine hB.fresh (a:=vs++Array.replicate 16 undef) 0 (tmps:=[Ji sc,.str nm]++List.replicate 16 .undef) (by simp[hvs]) fun t q u hq hu=>?_
  by_cases ht:t<2
  ·rw[vac (by simpa using ht)]at hq
   rw[vaR (by omega)]at hu
   exact hS.tm t q u hq hu
  ·rw[vaf (by show 2<=t;omega),vaW]at hq
   split at hq<;>cases hq
   exact .undef u
 have key:∀R:Ending->World->Prop,(∀{Γ6:aU} {bs6:bD} {ow6:Nat->Option lX} {a6:Array Value} {w6:World},SR Pg (E3 GE Γ w) Γ6 bs6 ow6 w6 a6 (Uh nm r)->LeavesInM Fence.wide 0 Pg f106 a6 R [] .returning w6)->
   XK.wpIn Fence.wide 0 Pg (bodyPostM Fence.wide 0 Pg f106 R) ⟨vs++Array.replicate 16 undef,[]⟩ w:=fun R hfin=>by
  unfold yk at h
  rcases aO h with⟨c0,h⟩|⟨c0,h⟩
  rotate_left
  ·cases h
  have hlen:sc.length<4611686018427387904:=by simpa using c0
  rw[XL]
  refine wpIn_seq (wpIn_mono (aW.wideE (qbe sc nm) hE h0 0 []) ?_)
  rintro e ⟨a1,ds1⟩ w1 ⟨rfl,Γ1,bs1,ow1,st1,h1,rfl,rfl⟩
  obtain⟨q,hq,h⟩:=ck h
  refine wpIn_seq (wpIn_seq (wpIn_mono (aW.wideE (qbf sc nm) hE h1 0 []) ?_))
  rintro e ⟨a3,ds3⟩ w3 ⟨rfl,Γ3,bs3,ow3,st3,h3,rfl,rfl⟩
  have h6:=h3.opv [] (.tmp 9)
  have e6:opv (E3 GE Γ w).GE (WY sc nm).tmps (.tmp 9)=.func (.func P4) [] [.eptr [Ji sc]]:=rfl
  rw[e6]at h6
  have hbl:bs3.length=3:=h3.bl
  refine wpIn_block (wpIn_rangeFunc fun fn _=>?_)
  obtain⟨g1,l1⟩:=h3.allocO (.deferred (some []))
  obtain⟨g2,l2⟩:=g1.allocO (.loop (AE fn a3 w3.heap.size true))
  have gF:=g2.forgetT (tm:=(Uh nm ([],false)).tmps) rfl
  have hsz3:w.heap.size<=w3.heap.size:=h3.step.size
  have htl:∀b,w3.heap.size<=b->¬bj bs3 ow3 b:=fun b hb hx=>by
   rcases hx with⟨i,hi⟩|hx
   ·have hil:i<(WY sc nm).boxes.length:=by rw[<-h3.bl];exact aq hi
    have:=(h3.bx i b _ hi (vaa hil)).2.1
    omega
   ·cases hL:ow3 b with
    |none=>exact hx hL
    |some L=>have:=(h3.on b L hL).1;omega
  generalize hvf:(Act.mk a3 []).eval (.tmp 9)=vf at h6
  cases h6 with
  |func _ _ _ fs cs hl1 hl2 hf hc=>
  obtain rfl:fs=#[]:=vaY hl1
  obtain⟨cv,rfl⟩:∃v,cs=#[v]:=vbZ.1 hl2
  have hcv:VR Γ3 bs3 w3 (.eptr [Ji sc]) cv:=hc 0 _ _ rfl rfl
  have hJ:JD nm Γ w bs3 a3 fn (w3.heap.size+1) w3.heap.size true ([],false) Γ3 ((w3.alloc (.deferred (some []))).alloc (.loop (AE fn a3 w3.heap.size true))):=by
   refine⟨ow3,gF,htl _ (by omega),htl _ (vam _),?_,?_⟩
   ·have:=World.alloc_heap_new (w3.alloc (.deferred (some []))) (.loop (AE fn a3 w3.heap.size true))
    rwa[World.size_alloc]at this
   ·rw[fp _ _ (by rw[World.size_alloc];omega)]
    exact World.alloc_heap_new w3 _
  have hY:=qat (nm:=nm) (Γe:=Γ) (we:=w) (bs:=bs3) (a:=a3) (fn:=fn) (l:=w3.heap.size+1) (D:=w3.heap.size) (by omega) hsz3 (by omega) hbl
  refine⟨_,_,_,{target:=.fn (.func P4) #[cv],args:=#[.func (.yield (w3.heap.size+1)) #[] #[]]},(w3.alloc (.deferred (some []))).alloc (.loop (AE fn a3 w3.heap.size true)),P4,#[.func (.yield (w3.heap.size+1)) #[] #[],cv],(w3.alloc (.deferred (some []))).alloc (.loop (AE fn a3 w3.heap.size true)),run_enterLoop_outer fn a3 #[10,11] (ZB VQ) (ZC VQ),?_,fun _ _=>trivial,?_,fun hx=>by simp[Fence.wide]at hx,?_⟩
  ·have hvf':(Act.mk a3 []).eval (.tmp 9)=.func (.func P4) #[] #[cv]:=hvf
   simp only[resolve,hvf',Deferred.ofValue]
   simp[Act.eval]
   rfl
  ·simp[invoke,call157]
  ·refine(YY YG hY sc hlen (n:=0 - 1) hq hJ (((hcv.mono l1 (.refl _)).mono l2 (.refl _)).clo (IZ sc))).mono ?_
   rintro e w4 ⟨⟨u,rfl⟩,Γ4,hle4,ow4,h4,tl4,tD4,hl4,hD4⟩
   refine⟨_,_,run_endLoop hl4 (by cases q.1<;>simp),?_⟩
   obtain⟨h5,hle5⟩:=h4.putOther (l:=w3.heap.size+1) (o:=.loop {AE fn a3 w3.heap.size q.1 with state:=.exhausted}) tl4 (.inr (show w.heap.size<=_ by omega)) (fun c t fr e=>by rw[hl4]at e;cases e)
   have hD5:(w4.putObj (w3.heap.size+1) (.loop {AE fn a3 w3.heap.size q.1 with state:=.exhausted})).heap[w3.heap.size]? =some (.deferred (some [])):=(World.putObj_heap_other (by omega)).trans hD4
   generalize w4.putObj (w3.heap.size+1) (.loop {AE fn a3 w3.heap.size q.1 with state:=.exhausted})=w5 at h5 hle5 hD5
   have last:∀c:Code,aW Pg GE 3 c (EX .ret (Uh nm r)) (Uh nm q.2)->∀Q:Exit->Act->World->Prop,(∀a w,bodyPostM Fence.wide 0 Pg f106 R .ret a w->Q .ret a w)->c.wpIn Fence.wide 0 Pg Q ⟨a3,[{target:=.collected w3.heap.size,args:=#[]}]⟩ w5:=fun c hc Q hQ=>by
    refine wpIn_mono (wpIn_wide.2 (aW.on hc (by decide) h5 (by rw[hbl];decide) none [{target:=.collected w3.heap.size,args:=#[]}])) ?_
    rintro e ⟨a6,ds6⟩ w6 ⟨rfl,Γ6,bs6,ow6,st6,h6,⟨rfl,rfl⟩,hbs6,hle6,hsz6,hk6⟩
    obtain⟨k6,t6⟩:=hk6 _ (er hD5) tD4
    have hD6:=k6.trans hD5
    obtain⟨h7,hle7⟩:=h6.putOther (l:=w3.heap.size) (o:=.deferred none) t6 (.inr hsz3) (fun c t fr e=>by rw[hD6]at e;cases e)
    exact hQ _ _ ⟨by simp,.inl ⟨w3.heap.size,_,rfl,run_takeDeferred hD6,hfin h7⟩⟩
   rcases aO h with⟨c3,h⟩|⟨c3,h⟩
   ·cases h
    have e3:(AE fn a3 w3.heap.size q.1).pending=none:=by show(if q.1=true then none else some Code.ret)=none;rw[c3];rfl
    rw[e3]
    exact last (.seq qbd .ret) (qbi nm q.2) _ (fun _ _ hx=>hx)
   ·cases h
    have e3:(AE fn a3 w3.heap.size q.1).pending=some .ret:=by show(if q.1=true then none else some Code.ret)=some .ret;rw[c3];rfl
    rw[e3]
    exact last .ret (XY nm q.2) _ (fun _ _ hx=>hx)
 rw[hvs]
 refine key _ fun{Γ6 bs6 ow6 a6 w6} h7=>?_
 have hS7:SR Pg ⟨GE,Γ,w,bj [] ow⟩ Γ6 bs6 ow6 w6 a6 (Uh nm r):={h7 with
  bn:=fun i b hb=>(h7.bn i b hb).elim False.elim .inr
  on:=fun b L hL=>⟨(h7.on b L hL).1,(h7.on b L hL).2.elim False.elim .inr⟩
  gx:=hS.gx
  step:={h7.step with keep:=fun b hb _=>h7.step.keep b hb (fun hx=>hx)}}
 obtain⟨vr,e1,e2,e3⟩:=tT hS7 (fn:=f106) (r:=.tuple [.str r.1,.bool r.2]) (by kernel_rfl)
 refine⟨vr,e1,vr,Γ6,y5 (dH f106.results.toList) [] ow6,rfl,?_⟩
 have hf:=hS7.finish (H':=[]) (src:=dH f106.results.toList) (ro:=[]) e2 (aI trivial<|aI trivial trivial) trivial (fun x hx=>by cases hx) (fun x hx=>by cases hx)
 simpa using hf
end Go.Proofs.YtkdahfeiedaahaaGreatDoor
