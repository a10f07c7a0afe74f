/- PROVED: a part of the proof. Conditions: none. -/
import Derived.Test.YtkdahfeiedaahaaGreatDoorPkR8
import Derived.Test.YtkdahfeiedaahaaGreatDoorPkR10
import Derived.Test.YtkdahfeiedaahaaGreatDoorPkR9
import Derived.Test.YtkdahfeiedaahaaGreatDoorPkR4
import Derived.Maps.RangeRun
import Derived.Shelf.Sort.Plain
import Derived.Shelf.Slices.In.SortNone
set_option linter.unusedSimpArgs false
set_option linter.unusedVariables false
noncomputable section
namespace Go.Proofs.YtkdahfeiedaahaaGreatDoor
open Go
theorem bR{n:Int}(h1: -9223372036854775808<=n)(h2:n<9223372036854775808):dp n=n:=S5 h1 h2
theorem bE{α:Type}(l:List α)(i:Nat)(h:i<l.length):ey l (i:Int)=some l[i]:=by
 unfold ey
 rw[vah (by omega)]
 simp[h]
theorem Xx{α:Type}(l:List α)(i:Nat)(h:i<=l.length):Y0 l (some (i:Int)) none=some (l.drop i):=by
 simp[Y0,bd,h]
theorem b9{α:Type}{l r:List α}(h:l.length+r.length<=1073741824):app l r=some (l++r):=vah h
theorem K1{l r:ai}(h:l.length+r.length<=4611686018427387904):qax l r=some (l++r):=vah h
theorem wG{σ X:Type}{body:σ->Option (σ⊕X)}{s s':σ}(h:body s=some (.inl s')):loop body s=loop body s':=by rw[gP,h]
theorem ki{σ X:Type}{body:σ->Option (σ⊕X)}{s:σ}{x:X}(h:body s=some (.inr x)):loop body s=some x:=by rw[gP,h]
def ub{α σ X:Type}(f:Nat->α->σ->σ⊕X)(e:σ->X):List α->Nat->σ->X
 |[],_,s=>e s
 |x::r,i,s=>match f i x s with
  |.inl s'=>ub f e r (i+1) s'
  |.inr y=>y
theorem sS{α σ τ X:Type}(l:List α)(hl:l.length<9223372036854775808)(mk:Int->σ->τ)(body:τ->Option (τ⊕X))(I:Nat->σ->Prop)(f:Nat->α->σ->σ⊕X)(e:σ->X)
  (hin:∀(i:Nat) (h:i<l.length) s,I i s->body (mk i s)=some (match f i l[i] s with|.inl s'=>.inl (mk (dp ((i:Int)+1)) s')|.inr y=>.inr y)/\∀s',f i l[i] s=.inl s'->I (i+1) s')
  (hend:∀s,I l.length s->body (mk l.length s)=some (.inr (e s))):∀(i:Nat) (s:σ),i<=l.length->I i s->loop body (mk i s)=some (ub f e (l.drop i) i s):=by
 intro i s hi hI
 obtain⟨k,hk⟩:∃k,k+i=l.length:=⟨l.length - i,by omega⟩
 induction k generalizing i s with
 |zero=>
  have:i=l.length:=by omega
  subst this
  rw[gP,hend s hI,vcM]
  rfl
 | succ k ih =>
  have hlt:i<l.length:=by omega
  obtain⟨h1,h2⟩:=hin i hlt s hI
  rw[gP,h1,vbx hlt]
  unfold ub
  cases hf:f i l[i] s with
  |inl s'=>
   simp only
   rw[bR (by omega) (by omega)]
   have:=ih (i+1) s' (by omega) (h2 s' hf) (by omega)
   rw[show((i:Int)+1)=((i+1:Nat):Int) by omega]
   exact this
  |inr y=>rfl
theorem Ry{α X:Type}(p:α->Bool)(y e:X):∀(l:List α) (i:Nat),ub (λ_ x (_:Unit)=>if p x=true then Sum.inr y else .inl ()) (λ_=>e) l i ()=if l.any p=true then y else e
 |[],i=>by simp[ub]
 | x :: l,i => by
  have ih:=Ry p y e l (i+1)
  unfold ub
  by_cases h:p x=true
  ·simp[h]
  ·simp only[h,if_false,ih,List.any_cons,vb3,vaD]
theorem WC{α X:Type}(l:List α)(hl:l.length<9223372036854775808)(body:Int->Option (Int⊕X))(p:α->Bool)(y e:X)
  (hin:∀(i:Nat) (h:i<l.length),body i=some (if p l[i]=true then .inr y else .inl (dp ((i:Int)+1)))) (hend:body l.length=some (.inr e)) (i:Nat) (hi:i<=l.length):
  loop body (i:Int)=some (if(l.drop i).any p=true then y else e):=by
 have:=sS l hl (λi (_:Unit)=>i) body (λ_ _=>True) (λ_ x _=>if p x=true then Sum.inr y else .inl ()) (λ_=>e) (λi h s _=>⟨?_,λ_ _=>trivial⟩) (λs _=>hend) i () hi vzz
 ·rw[this,Ry]
 ·rw[hin i h]
  by_cases hp:p l[i]=true<;>simp[hp]
theorem Of{α X:Type}(p:α->Bool)(y:Nat->X)(e:X):∀(l:List α) (i:Nat),ub (λj x (_:Unit)=>if p x=true then Sum.inr (y j)else .inl ()) (λ_=>e) l i ()=match l.findIdx? p with|some j=>y (i+j)|none=>e
 |[],i=>by simp[ub]
 | x :: l,i => by
  have ih:=Of p y e l (i+1)
  unfold ub
  rw[List.findIdx?_cons]
  by_cases h:p x=true
  ·simp[h]
  ·simp only[h,if_false,ih,vaD]
   cases l.findIdx? p with
   |none=>rfl
   |some j=>simp only[vak];congr 1;omega
theorem NU{α X:Type}(l:List α)(hl:l.length<9223372036854775808)(body:Int->Option (Int⊕X))(p:α->Bool)(y:Nat->X)(e:X)
  (hin:∀(i:Nat) (h:i<l.length),body i=some (if p l[i]=true then .inr (y i)else .inl (dp ((i:Int)+1)))) (hend:body l.length=some (.inr e)):
  loop body (0:Int)=some (match l.findIdx? p with|some j=>y j|none=>e):=by
 have:=sS l hl (λi (_:Unit)=>i) body (λ_ _=>True) (λj x _=>if p x=true then Sum.inr (y j)else .inl ()) (λ_=>e) (λi h s _=>⟨?_,λ_ _=>trivial⟩) (λs _=>hend) 0 () (vaN _) trivial
 ·simp only[Int.ofNat_zero,vbF]at this
  have this2:=Of p y e l 0
  simp only[vaI]at this2
  rw[<-this2]
  exact this
 ·rw[hin i h]
  by_cases hp:p l[i]=true<;>simp[hp]
open Go Go.Proofs.Tryz
set_option linter.unusedVariables false
set_option maxRecDepth 100000
abbrev qdR:Nat:=137
abbrev QF:Nat:=157
noncomputable def qdI:Code:=f137.body.getD .skip
noncomputable def R4:Code:=f157.body.getD .skip
abbrev IC(sc:List af):PVal:=sl ak sc
theorem Se(sc:List af):(IC sc).cl 0:=aH bj sc
theorem Ia(sc:List af):(PVal.eptr [IC sc]).cl 0:=⟨Se sc,vzz⟩
theorem qcg(sc:List af):aY Pg 92 [IC sc]=some (IC sc):=by kernel_rfl
theorem Qv(sc:List af):CC Pg GE qdR [IC sc] (.func (.func QF) [] [.eptr [IC sc]]) []:=by
 have z:=se (show cj (IC sc)=some [IC sc]from rfl)<|en (aI (rP (.func (.func QF) [] [.eptr [IC sc]]))<|(aI vzz (aI (Ia sc) trivial)))
 exact C.evp (A:=[]) mixed call137 func137 (c:=qdI) rfl (aI (Se sc) trivial) z (by kernel_rfl)
abbrev qez:Code:=gA R4 [false]
abbrev qeA:Code:=gA R4 [true,false,false,false,false]
abbrev O7:Code:=gA R4 [true,false,false,true,false,false,false]
abbrev qeB:Code:=gA R4 [true,false,false,true,true]
theorem X8:R4=.seq qez (.block 0 (.loop (.seq (.seq qeA (.cond (.tmp 8) .skip (.exit 0))) (.seq (.block 1 (.seq (.region (qeE O7) (rF O7) false) (.cond (.tmp 18) .ret .skip))) qeB)))):=by kernel_rfl
theorem qau:List.range (rF O7).size=[0,1,2,3,4,5]++6::([7]++[]):=by kernel_rfl
theorem qaq:[0,1,2,3,4,5].map (λi=>(rF O7)[i]?)=((rF O7).toList.take 6).map some:=by kernel_rfl
theorem qar:((rF O7).toList.take 6).all HK=true:=by kernel_rfl
theorem qbS:(rF O7)[6]? =some (JY O7 6):=by kernel_rfl
theorem qbR:(JY O7 6).guard=none:=by kernel_rfl
theorem qas:[7].map (λi=>(rF O7)[i]?)=((rF O7).toList.drop 7).map some:=by kernel_rfl
theorem qat:((rF O7).toList.drop 7).all HK=true:=by kernel_rfl
theorem qap:(JY O7 6).op=.call {callee:=.value (.tmp 11),args:=#[.tmp 12,.tmp 16],argTypes:=qct (JY O7 6)}:=by kernel_rfl
theorem qbQ:(JY O7 6).dst=some 17:=by kernel_rfl
abbrev bS(l:Nat)(sc:List af)(i:Int):aB:=aO 19 [(0,qE l),(1,.eptr [IC sc]),(3,.int .i64 i)] [] []
abbrev qcz(l:Nat)(sc:List af)(i:Int):aB:=aO 19 [(0,qE l),(1,.eptr [IC sc]),(3,.int .i64 i),(8,.bool (decide (i>=0)))] [] []
abbrev qdJ(l:Nat)(sc:List af)(i:Int)(x:af):aB:=aO 19 [(0,qE l),(1,.eptr [IC sc]),(3,.int .i64 i),(11,qE l),(12,.int .i64 i),(16,.agg (ak x))] [] []
abbrev qdK(l:Nat)(sc:List af)(i:Int)(x:af)(b:Bool):aB:=aO 19 [(0,qE l),(1,.eptr [IC sc]),(3,.int .i64 i),(11,qE l),(12,.int .i64 i),(16,.agg (ak x)),(17,.bool b)] [] []
abbrev qcA(l:Nat)(sc:List af)(i:Int)(b:Bool):aB:=aO 19 [(0,qE l),(1,.eptr [IC sc]),(3,.int .i64 i),(18,.bool (!b))] [] []
theorem qdL(l:Nat)(sc:List af):d8 Pg GE 0 qez (EX .normal (bS l sc (dp ((sc.length:Int) - 1)))) (aO 19 [(0,qE l),(1,.eptr [IC sc])] [] []):=by
 have z:=sv (qcg sc)<|qfQ (Mb.ln sc)<|eF .normal (bS l sc (dp ((sc.length:Int) - 1)))
 exact qp (A:=[]) mixed z (by kernel_rfl)
theorem qdM(l:Nat)(sc:List af)(i:Int):d8 Pg GE 0 qeA (EX .normal (qcz l sc i)) (bS l sc i):=by
 have z:=eF .normal (qcz l sc i)
 exact qp (A:=[]) mixed z (by kernel_rfl)
theorem qdO(l:Nat)(sc:List af)(i:Int)(x:af)(hx:ey sc i=some x):cU Pg GE [] (rF O7) (λst=>FG st (qdJ l sc i x)) ((rF O7).toList.take 6) 0 (qcz l sc i):=by
 have z:=sv (qcg sc)<|sv (Mb.ia (k:=.i64) hx)<|sv (Lx x)<|en (fr (qdJ l sc i x))
 exact TW z (by kernel_rfl)
theorem qbT(l:Nat)(sc:List af)(i:Int)(x:af)(b:Bool):cU Pg GE [] (rF O7) (λst=>FG st (qcA l sc i b)) ((rF O7).toList.drop 7) 0 (qdK l sc i x b):=by
 have z:=en (fr (qcA l sc i b))
 exact TW z (by kernel_rfl)
theorem qdN(l:Nat)(sc:List af)(i:Int)(b:Bool):d8 Pg GE 0 qeB (EX .normal (bS l sc (dp (i - 1)))) (qcA l sc i b):=by
 have z:=eF .normal (bS l sc (dp (i - 1)))
 exact qp (A:=[]) mixed z (by kernel_rfl)
theorem qdP(l:Nat)(sc:List af)(i:Int):Dg (bS l sc i) 0:=qaV (by exact aI vzz<|aI (Ia sc)<|aI vzz vzz) 0 rfl
theorem qb7(l:Nat)(sc:List af)(i:Int):Dg (qcz l sc i) 0:=qaV (by exact aI vzz<|aI (Ia sc)<|aI vzz<|aI vzz vzz) 0 rfl
theorem qb8(l:Nat)(sc:List af)(i:Int)(x:af):Dg (qdJ l sc i x) 0:=qaV (by exact aI vzz<|aI (Ia sc)<|aI vzz<|aI vzz<|aI vzz<|aI (show gZ 0 (ak x)from bj x) trivial) 0 rfl
theorem qb9(l:Nat)(sc:List af)(i:Int)(x:af)(b:Bool):Dg (qdK l sc i x b) 0:=qaV (by exact aI vzz<|aI (Ia sc)<|aI vzz<|aI vzz<|aI vzz<|aI (show gZ 0 (ak x)from bj x)<|aI vzz vzz) 0 rfl
theorem qca(l:Nat)(sc:List af)(i:Int)(b:Bool):Dg (qcA l sc i b) 0:=qaV (by exact aI vzz<|aI (Ia sc)<|aI vzz<|aI vzz vzz) 0 rfl
section
variable{S:Type}{step:S->af->Option (Bool×S)}{J:Bool->S->aP->World->Prop}{l:Nat}
theorem qbW(hY:Sd Pg GE J)(hy:∀s Γ w (i:Int) x v n r,J true s Γ w->VR Γ [] w (.agg (ak x)) v->step s x=some r->YieldAt Fence.wide n Pg l #[.int .i64 i,v] w λe w'=>∃Γ',e=.returned (.bool r.1)/\Γ.Le w Γ' w'/\J r.1 r.2 Γ' w')
  (sc:List af) (hlen:sc.length<4611686018427387904) {s:S} {r:Bool×S} {Γ:aP} {w:World} {v:Value} {n:Nat} (hv:S3 step sc.reverse s=some r) (hJ:J true s Γ w) (hvr:VR Γ [] w (.eptr [IC sc]) v):
  CallsIn Fence.wide n Pg QF #[.func (.yield l) #[] #[],v] w λe w'=>(∃u,e=.returned u)/\∃Γ',Γ.Le w Γ' w'/\J r.1 r.2 Γ' w':=by
 refine callsIn_of_wp func157 (c:=R4) rfl vzz ?_
 have h0:VG Pg J Γ w true s (aO 19 [(0,qE l),(1,.eptr [IC sc])] [] []) (#[.func (.yield l) #[] #[],v]++Array.replicate 17 undef) w:=by
  refine⟨Γ,hJ,.refl _ _,_,_,_,(hY.base _ _ _ _ hJ).fresh 0 (tmps:=[qE l,.eptr [IC sc]]++List.replicate 17 .undef) (by simp) λt q u hq hu=>?_⟩
  by_cases ht:t<2
  ·rw[vac (by simpa using ht)]at hq
   rw[vaX (by simpa using ht)]at hu
   match t,ht with
   |0,_=>simp at hq hu;subst hq;subst hu;exact .val _
   |1,_=>simp at hq hu;subst hq;subst hu;exact hvr
  ·rw[vaf (by simpa using ht),vaW]at hq
   split at hq<;>cases hq
   exact .undef u
 show R4.wpIn Fence.wide n Pg _ ⟨_,[]⟩ w
 have hret:∀{b:Bool} {s:S} {st:aB} {e:Exit} {a':Act} {w':World},(e=.normal\/e=.ret)->a'.defers=[]->VG Pg J Γ w b s st a'.tmps w'->b=r.1->s=r.2->
   bodyPost Pg f157 (λe w'=>(∃u,e=.returned u)/\∃Γ',Γ.Le w Γ' w'/\J r.1 r.2 Γ' w') e a' w':=by
  rintro b s st e a' w' he hd ⟨Γ',hJ',hle,E,bs,ow,hS⟩ rfl rfl
  obtain⟨u,e1,_⟩:=nW hS (fn:=f157) (r:=.tuple []) (by kernel_rfl)
  rcases he with rfl|rfl
  ·exact⟨hd,u,e1,⟨u,rfl⟩,Γ',hle,hJ'⟩
  ·exact⟨hd,u,e1,⟨u,rfl⟩,Γ',hle,hJ'⟩
 rw[X8]
 refine wpIn_seq (wpIn_mono (VG.piece hY (qdL l sc) (k:=0) (qaV (by exact aI vzz<|aI (Ia sc) trivial) 0 rfl) h0) ?_)
 rintro e ⟨a1,ds1⟩ w1 ⟨rfl,rfl,h1⟩
 refine wpIn_block (wpIn_loop_ghost (λk a w'=>a.defers=[]/\∃s':S,k<=sc.length/\S3 step (sc.take k).reverse s'=some r/\VG Pg J Γ w true s' (bS l sc ((k:Int) - 1)) a.tmps w') sc.length
  ⟨rfl,s,var _,by rw[vaG];exact hv,?_⟩ ?_)
 ·rw[bR (by omega) (by omega)]at h1;exact h1
 rintro k ⟨a4,ds4⟩ w4 ⟨hd4,s',hk,hvl,h4⟩
 simp only at hd4;subst hd4
 refine wpIn_seq (wpIn_seq (wpIn_mono (VG.piece hY (qdM l sc _) (qdP _ _ _) h4) ?_))
 rintro e ⟨a5,ds5⟩ w5 ⟨rfl,rfl,h5⟩
 refine wpIn_cond (h5.ev (t:=8) (x:=decide ((k:Int) - 1>=0)) rfl) ?_
 cases k with
 |zero=>
  rw[decide_eq_false (by omega)]
  refine wpIn_exit ?_
  rw[List.take_zero]at hvl
  cases hvl
  exact hret (.inl rfl) rfl h5 rfl rfl
 | succ j =>
  rw[vcA (by omega)]
  refine wpIn_skip ?_
  have hj:j<sc.length:=by omega
  rw[XB sc hj,S3]at hvl
  obtain⟨q,hq,hvl⟩:=JK hvl
  have hx:ey sc (((j+1:Nat):Int) - 1)=some sc[j]:=by rw[show((j+1:Nat):Int) - 1=(j:Int)from by omega];exact bE _ _ hj
  generalize sc[j]=x at *
  refine wpIn_seq (wpIn_block (wpIn_seq (wpIn_mono (VG.reg hY qau qaq qar qbS qbR qas qat (k:=0) (kB:=0) (r:=q) (stB:=qdK l sc _ x q.1) (qb7 _ _ _) (qb9 _ _ _ _ _) (qdO l sc _ x hx) (qbT l sc _ x q.1)
   (λa w next Q h hn=>VG.yield2 hY (kA:=0) (i:=((j+1:Nat):Int) - 1) (qb8 _ _ _ _) (bj x) (λΓ w v hJ hv=>hy s' Γ w _ x v _ q hJ hv hq) (f:=11) (x:=12) (y:=16) (d:=17) rfl rfl rfl qap qbQ rfl h hn) h5) ?_)))
  rintro e ⟨a6,ds6⟩ w6 ⟨rfl,rfl,h6⟩
  refine wpIn_cond (h6.ev (t:=18) (x:=!q.1) rfl) ?_
  obtain⟨q1,q2⟩:=q
  cases q1 with
  |false=>
   cases hvl
   refine wpIn_ret ?_
   exact hret (.inr rfl) rfl h6 rfl rfl
  |true=>
   refine wpIn_skip ?_
   refine wpIn_mono (VG.piece hY (qdN l sc _ true) (qca _ _ _ _) h6) ?_
   rintro e ⟨a7,ds7⟩ w7 ⟨rfl,rfl,h7⟩
   refine⟨j,by omega,rfl,q2,by omega,hvl,?_⟩
   rw[bR (by omega) (by omega)]at h7
   rw[show((j+1:Nat):Int) - 1 - 1=(j:Int) - 1 from by omega]at h7
   exact h7
end
set_option linter.unusedSimpArgs false
section
variable{P:Program}{E:lh}{Γ:aP}{bs:be}{ow:Nat->Option iL}{w:World}{a:Array Value}{st:aB}
theorem SR.unown(h:SR P E Γ bs ow w a st){r s c:Nat}{m:Option Nat}{seen:Array Nat}(hr:w.heap[r]? =some (.mapIter m s seen c)):Γ r=none/\SR P E Γ bs (λb=>if b=r then none else ow b) w a st:=by
 have hg:Γ r=none:=by
  cases hx:Γ r with
  |none=>rfl
  |some n=>obtain⟨c',t,fr,h1,_⟩:=h.wi r n hx;rw[hr]at h1;cases h1
 have hne:∀{v:Value} {e:TypeId} {b:Nat},fR P Γ w v e->v.ownBlock=some b->b≠r:=λ{v e b} ho hb hx=>by
  obtain⟨n,xs,_,o2⟩:=ho
  have:=o2 b hb
  rw[hx,hg]at this;cases this
 refine⟨hg,{h with
  on:=λb L hL=>?_
  ot:=λt k e he=>?_
  ob:=λi j e cs own b hB hj hb=>?_}⟩
 ·split at hL
  ·cases hL
  ·exact h.on b L hL
 ·obtain⟨u,v,h1,h2,h3,h4⟩:=h.ot t k e he
  exact⟨u,v,h1,h2,h3,λb hb=>by rw[van (hne h3 hb)];exact h4 b hb⟩
 ·obtain⟨v,h1,h3,h4⟩:=h.ob i j e cs own b hB hj hb
  exact⟨v,h1,h3,λb' hb'=>by rw[van (hne h3 hb')];exact h4 b' hb'⟩
theorem SR.asEntry(h:SR P E Γ bs ow w a st):SR P ⟨E.GE,Γ,w,aN bs ow⟩ Γ bs ow w a st:={h with
 bn:=λi b hb=>.inl (.inl ⟨i,hb⟩)
 on:=λb L hL=>⟨(h.on b L hL).1,.inl (.inr (by rw[hL];simp))⟩
 gx:=λg cs hg=>by
  obtain⟨k1,k2,k3,k4⟩:=h.gnow hg
  exact⟨k1,λhT=>hT.elim (λ⟨i,hi⟩=>k2 i g hi rfl) (λhx=>hx k3),k4⟩
 step:=.refl _ _ _ _}
theorem SR.rebaseE(h:SR P E Γ bs ow w a st){Γ':aP}{bs':be}{ow':Nat->Option iL}{w':World}{a':Array Value}{st':aB}(h':SR P ⟨E.GE,Γ,w,aN bs ow⟩ Γ' bs' ow' w' a' st'):SR P E Γ' bs' ow' w' a' st':=by
 have hTE:∀b,aN bs ow b\/w.heap.size<=b->E.T b\/E.w.heap.size<=b:=λb hb=>by
  rcases hb with(⟨i,hi⟩|hb)|hb
  ·exact h.bn i b hi
  ·cases hL:ow b with
   |none=>exact absurd hL hb
   |some L=>exact(h.on b L hL).2
  ·exact .inr (vaH h.step.size hb)
 exact{h' with
  bn:=λi b hb=>hTE b (h'.bn i b hb)
  on:=λb L hL=>⟨(h'.on b L hL).1,hTE b (h'.on b L hL).2⟩
  gx:=h.gx
  step:={
   os:=h'.step.os.trans h.step.os
   tape:=h'.step.tape.trans h.step.tape
   output:=h'.step.output.trans h.step.output
   size:=vaH h.step.size h'.step.size
   drawn:=vaH h.step.drawn h'.step.drawn
   keep:=λb hb hT=>by
    have hnT:¬aN bs ow b:=λhx=>(hTE b (.inl hx)).elim hT λhx=>absurd hb (vcW.2 hx)
    obtain⟨k1,k2⟩:=h.step.keep b hb hT
    obtain⟨q1,q2⟩:=h'.step.keep b (vaM hb h.step.size) hnT
    exact⟨q1.trans k1,q2.trans k2⟩
   le:=h.step.le.trans h'.step.le}}
end
theorem nQ{P:Program}{a:Act}{w w':World}{Q:Exit->Act->World->Prop}{ops:Array Oper}{L:List Nat}{i:Nat}{o:Oper}{v:Value}(hi:ops[i]? =some o)(hg:o.guard=none)(hrun:(execOp a.eval o).run P w=.ok (.value v) w')
  (h:wpOps P ops Q L (a.put o.dst v) w'):wpOps P ops Q (i::L) a w:=by
 rw[wpOps_cons]
 unfold wpOp
 rw[hi]
 simp only
 rw[vah (by simp[Region.wanted,hg])]
 refine .inl ?_
 unfold Oper.wp
 rw[hrun,Oper.upon_value]
 exact h
def kS(e:TypeId)(l:List ai)(iv:Value)(x:PVal):aB:=⟨[.undef,.undef,.undef,sl cS l,x,.undef,.undef,.undef,.undef,.val iv,.undef,.undef,.undef,.undef,.undef,.undef,.undef,.undef,.undef,.undef,.undef],[],[((3,0),e)]⟩
def tZ(x:MapEntry):ai:=match x.key with
 |.string s=>s.data.toList
 |_=>[]
section
variable{P:Program}{GE:List (Nat×List PVal)}{E:lh}{e:TypeId}{es:Array MapEntry}{clock bm r:Nat}
abbrev QT(r:Nat):Value:=.pointer (some ⟨r,0,none⟩)
structure qek(es:Array MapEntry)(vis:List MapEntry):Prop where
 sub:∀x∈vis,x∈es.toList
 nd:(vis.map (·.born)).Nodup
structure EU(P:Program)(E:lh)(e:TypeId)(es:Array MapEntry)(clock bm r:Nat)(vis:List MapEntry)(x:PVal)(a:Act)(w:World):Prop where
 it:w.heap[r]? =some (.mapIter (some bm) clock (vis.map (·.born)).toArray clock)
 ex:∃Γ ow,SR P E Γ [] ow w a.tmps (kS e (vis.map tZ) (QT r) x)
theorem EU.map(hE:nj GE 0 E)(hbm:E.w.heap[bm]? =some (.map es clock)){vis:List MapEntry}{x:PVal}{a:Act}{w:World}(h:EU P E e es clock bm r vis x a w):w.heap[bm]? =some (.map es clock):=by
 obtain⟨Γ,ow,hS⟩:=h.ex
 rw[(hS.step.keep bm (vaj.1 hbm).1 (hE.nt rfl bm)).1];exact hbm
theorem EU.iv{vis:List MapEntry}{x:PVal}{a:Act}{w:World}(h:EU P E e es clock bm r vis x a w):a.eval (.tmp 9)=QT r:=by
 obtain⟨Γ,ow,hS⟩:=h.ex
 have h9:VR Γ [] w (.val (QT r)) (a.eval (.tmp 9)):=hS.opv a.defers (.tmp 9)
 generalize a.eval (.tmp 9)=u at h9
 cases h9
 rfl
theorem EU.size{vis:List MapEntry}{x:PVal}{a:Act}{w:World}(h:EU P E e es clock bm r vis x a w):a.tmps.size=21:=by
 obtain⟨Γ,ow,hS⟩:=h.ex
 exact hS.sz
theorem EU.put{vis:List MapEntry}{x:PVal}{a:Act}{w:World}(h:EU P E e es clock bm r vis x a w){d:Nat}{v:Value}(hd:d=10\/d=11\/d=12\/d=13):EU P E e es clock bm r vis x (a.put (some d) v) w:=by
 obtain⟨Γ,ow,hS⟩:=h.ex
 refine⟨h.it,Γ,ow,?_⟩
 have:=hS.set (d:=d) (p:=.undef) (v:=v) (.undef v)
 rcases hd with rfl|rfl|rfl|rfl<;>exact this
theorem Q5(hE:nj GE 0 E)(hbm:E.w.heap[bm]? =some (.map es clock))(hb:J1 es clock)(hr:E.w.heap.size<=r){ro:Option Nat}{i3:Nat}{o10 o11:Oper}
  (h1:o10.op=.next (.tmp 9) false) (h1d:o10.dst=some 10) (h1g:o10.guard=none) (h2:o11.op=.extract (.tmp 10) 0) (h2d:o11.dst=some 11) (h2g:o11.guard=none) {vis:List MapEntry} {x:PVal} {a:Act} {w:World} (h:EU P E e es clock bm r vis x a w):
  He ro P (.region i3 #[o10,o11] false) (λq a' w'=>q=.normal/\a'.defers=a.defers/\((a'.eval (.tmp 11)=.bool false/\(leftOf es (vis.map (·.born)).toArray).size=0/\EU P E e es clock bm r vis x a' w')\/
   (a'.eval (.tmp 11)=.bool true/\∃y∈(leftOf es (vis.map (·.born)).toArray).toList,(w'.heap[r]? =some (.mapIter (some bm) clock ((vis.map (·.born)).toArray.push y.born) clock)/\∃Γ ow,SR P E Γ [] ow w' a'.tmps (kS e (vis.map tZ) (QT r) x))))) a w:=by
 refine sK (by simp[ee,h1,h2]) (by rintro⟨_,_,hx,_⟩;cases hx) ?_
 show wpOps P #[o10,o11] _ [0,1] a w
 have hm:=h.map hE hbm
 have hsz:=h.size
 have hext:∀(v:Value) (w':World),(∃l:Array Value,∃b,v=.tuple l/\l[0]? =some (.bool b))->((execOp ((a.put o10.dst v).eval) o11).run P w'=.ok (.value (match v with|.tuple l=>l.getD 0 undef|_=>undef)) w'):=by
  rintro v w' ⟨l,b,rfl,hl⟩
  have:(a.put o10.dst (.tuple l)).eval (.tmp 10)=.tuple l:=by
   refine dA ?_
   rw[h1d]
   show(a.tmps.setIfInBounds 10 _)[10]? =_
   simp[hsz]
  simp[execOp,h2,this,Instr.extract,hl]
 rcases run_next_at (P:=P) w o10.type r bm clock clock _ es clock h.it hm hb.2 (var _)with⟨hz,hrun⟩|⟨y,hy,w1,hw1,hrun⟩
 ·refine nQ (o:=o10) rfl h1g (v:=.tuple #[.bool false]) (w':=w) (by simp[execOp,h1,h.iv,hrun]) ?_
  refine nQ (o:=o11) rfl h2g (hext _ _ ⟨_,_,rfl,rfl⟩) ?_
  refine⟨rfl,by rw[bC,bC],.inl ⟨?_,hz,?_⟩⟩
  ·refine dA ?_
   rw[h1d,h2d]
   show((a.tmps.setIfInBounds 10 _).setIfInBounds 11 _)[11]? =_
   simp[hsz]
  ·rw[h1d,h2d];exact(h.put (.inl rfl)).put (.inr (.inl rfl))
 ·refine nQ (o:=o10) rfl h1g (v:=.tuple #[.bool true,y.key,y.val]) (w':=Go.ChangeMaps.setBlock w1 r (.mapIter (some bm) clock ((vis.map (·.born)).toArray.push y.born) clock)) (by simp[execOp,h1,h.iv,hrun]) ?_
  refine nQ (o:=o11) rfl h2g (hext _ _ ⟨_,_,rfl,rfl⟩) ?_
  have hlt:r<w.heap.size:=(vaj.1 h.it).1
  have hw1h:w1.heap=w.heap/\w1.os=w.os/\w1.tape=w.tape/\w1.output=w.output/\w.drawn<=w1.drawn:=by
   rcases hw1 with rfl|rfl
   ·exact⟨rfl,rfl,rfl,rfl,var _⟩
   ·exact⟨rfl,rfl,rfl,rfl,vca _⟩
  obtain⟨k1,k2,k3,k4,k5⟩:=hw1h
  refine⟨rfl,by rw[bC,bC],.inr ⟨?_,y,hy,?_,?_⟩⟩
  ·refine dA ?_
   rw[h1d,h2d]
   show((a.tmps.setIfInBounds 10 _).setIfInBounds 11 _)[11]? =_
   simp[hsz]
  ·show(w1.heap.setIfInBounds r _)[r]? =_
   rw[k1];simp[hlt]
  ·have h':=(h.put (v:=.tuple #[.bool true,y.key,y.val]) (.inl rfl)).put (d:=11) (v:=.bool true) (.inr (.inl rfl))
   obtain⟨Γ,ow,hS⟩:=h'.ex
   obtain⟨hg,hS⟩:=hS.unown h.it
   have hoth:∀b,b≠r->(Go.ChangeMaps.setBlock w1 r (.mapIter (some bm) clock ((vis.map (·.born)).toArray.push y.born) clock)).heap[b]? =w.heap[b]?:=λb hb=>by
    show(w1.heap.setIfInBounds r _)[b]? =_
    rw[k1,vaV (λx=>hb x.symm)]
   refine⟨Γ,λb=>if b=r then none else ow b,?_⟩
   rw[h1d,h2d]
   refine hS.world (λb=>b=r) (λb m hb hm0=>⟨m,hb,var _,λo _=>bZ (hoth b λx=>by rw[x,hg]at hb;cases hb) o⟩) (λb m hb=>?_) k2 k3 k4 ?_ (λb _ hb=>⟨hoth b hb,rfl⟩) (λb hb=>by subst hb;exact .inr hr) (λi b hb=>by simp at hb) (λb L hL hx=>?_) (E9 k5)
   ·obtain⟨c,t,fr,q1,q2⟩:=hS.wi b m hb
    exact⟨c,t,fr,(hoth b λx=>by rw[x,hg]at hb;cases hb).trans q1,q2⟩
   ·show _<=(w1.heap.setIfInBounds r _).size
    rw[k1];simp
   ·subst hx;simp at hL
theorem Pk(hE:nj GE 0 E)(hbm:E.w.heap[bm]? =some (.map es clock))(hb:J1 es clock){ro:Option Nat}{i4:Nat}{o12 o13 o4:Oper}
  (h1:o12.op=.entry (.tmp 9)) (h1d:o12.dst=some 12) (h1g:o12.guard=none) (h2:o13.op=.extract (.tmp 12) 0) (h2d:o13.dst=some 13) (h2g:o13.guard=none) (h3:o4.op=.assign (.tmp 13)) (h3d:o4.dst=some 4) (h3g:o4.guard=none)
  {vis:List MapEntry} {x:PVal} {y:MapEntry} (hy:y∈es.toList) (hk:y.key=.string ⟨(tZ y).toArray⟩) {a:Act} {w:World} (hit:w.heap[r]? =some (.mapIter (some bm) clock ((vis.map (·.born)).toArray.push y.born) clock)) (h:∃Γ ow,SR P E Γ [] ow w a.tmps (kS e (vis.map tZ) (QT r) x)):
  He ro P (.region i4 #[o12,o13,o4] false) (λq a' w'=>q=.normal/\a'.defers=a.defers/\w'=w/\∃Γ ow,SR P E Γ [] ow w a'.tmps (kS e (vis.map tZ) (QT r) (.str (tZ y)))) a w:=by
 refine sK (by simp[ee,h1,h2,h3]) (by rintro⟨_,_,hx,_⟩;cases hx) ?_
 show wpOps P #[o12,o13,o4] _ [0,1,2] a w
 obtain⟨Γ,ow,hS⟩:=h
 have hm:w.heap[bm]? =some (.map es clock):=by rw[(hS.step.keep bm (vaj.1 hbm).1 (hE.nt rfl bm)).1];exact hbm
 have hsz:a.tmps.size=21:=hS.sz
 have h9:a.eval (.tmp 9)=QT r:=by
  have h9:VR Γ [] w (.val (QT r)) (a.eval (.tmp 9)):=hS.opv a.defers (.tmp 9)
  generalize a.eval (.tmp 9)=u at h9
  cases h9
  rfl
 have hrun:=run_entry_at (P:=P) w r bm clock _ es clock y hit hm hy hb.1
 refine nQ (o:=o12) rfl h1g (v:=.tuple #[y.key,y.val]) (w':=w) (by simp[execOp,h1,h9,hrun]) ?_
 have e12:(a.put o12.dst (.tuple #[y.key,y.val])).eval (.tmp 12)=.tuple #[y.key,y.val]:=by
  refine dA ?_
  rw[h1d]
  show(a.tmps.setIfInBounds 12 _)[12]? =_
  simp[hsz]
 refine nQ (o:=o13) rfl h2g (v:=y.key) (w':=w) (by simp[execOp,h2,e12,Instr.extract]) ?_
 have e13:((a.put o12.dst (.tuple #[y.key,y.val])).put o13.dst y.key).eval (.tmp 13)=y.key:=by
  refine dA ?_
  rw[h1d,h2d]
  show((a.tmps.setIfInBounds 12 _).setIfInBounds 13 _)[13]? =_
  simp[hsz]
 refine nQ (o:=o4) rfl h3g (v:=y.key) (w':=w) (by simp[execOp,h3,e13]) ?_
 refine⟨rfl,by rw[bC,bC,bC],rfl,Γ,ow,?_⟩
 rw[h1d,h2d,h3d]
 have k1:=hS.set (d:=12) (p:=.undef) (v:=.tuple #[y.key,y.val]) (.undef _)
 have k2:=k1.set (d:=13) (p:=.undef) (v:=y.key) (.undef _)
 have k3:=k2.set (d:=4) (p:=.str (tZ y)) (v:=y.key) (by rw[hk];exact .str _)
 exact k3
theorem Qw:∀{l:List MapEntry},(l.map (·.born)).Nodup->∀{x y:MapEntry},x∈l->y∈l->x.born=y.born->x=y
 |[],_,x,y,hx,_,_=>by cases hx
 | z :: l,h,x,y,hx,hy,he => by
  rw[vaz,vbu]at h
  rcases vaB.1 hx with hx1|hx1<;>rcases vaB.1 hy with hy1|hy1
  ·rw[hx1,hy1]
  ·exact absurd (vag.2 ⟨y,hy1,by rw[<-he,hx1]⟩) h.1
  ·exact absurd (vag.2 ⟨x,hx1,by rw[he,hy1]⟩) h.1
  ·exact Qw h.2 hx1 hy1 he
theorem rD{α β:Type}(f:α->β):∀{l:List α},(l.map f).Nodup->l.Nodup
 |[],_=>by simp
 |x::l,h=>by
  rw[vaz,vbu]at h
  exact vbu.2 ⟨λhx=>h.1 (vag.2 ⟨x,hx,rfl⟩),rD f h.2⟩
theorem Wy{vis:List MapEntry}{y:MapEntry}(hy:y∈(leftOf es (vis.map (·.born)).toArray).toList):y∈es.toList/\y.born∉vis.map (·.born):=by
 unfold leftOf at hy
 simp only[vc3,va1,va0]at hy
 refine⟨hy.1,λhx=>?_⟩
 have:=hy.2
 rw[<-vbW]at this
 exact this (by simpa using hx)
theorem UC{vis:List MapEntry}(hb:J1 es clock)(hv:qek es vis)(hz:(leftOf es (vis.map (·.born)).toArray).size=0):vis.Perm es.toList:=by
 refine(List.perm_ext_iff_of_nodup (rD _ hv.nd) (rD _ hb.1)).2 λx=>⟨hv.sub x,λhx=>?_⟩
 have hin:x.born∈vis.map (·.born):=Classical.byContradiction λhn=>by
  have:x∈(leftOf es (vis.map (·.born)).toArray).toList:=by
   unfold leftOf
   simp only[vc3,va1,va0]
   refine⟨hx,?_⟩
   rw[<-vbW]
   exact λhc=>hn (by simpa using hc)
  have h0:(leftOf es (vis.map (·.born)).toArray).toList.length=0:=by simpa using hz
  rw[List.length_eq_zero_iff.1 h0]at this
  cases this
 obtain⟨v,hvm,he⟩:=vag.1 hin
 rw[<-Qw hb.1 (hv.sub v hvm) hx he]
 exact hvm
theorem UB(hE:nj GE 0 E)(hbm:E.w.heap[bm]? =some (.map es clock))(hb:J1 es clock)(hr:E.w.heap.size<=r)(hk:∀y∈es.toList,y.key=.string ⟨(tZ y).toArray⟩){ro:Option Nat}{i3 i4:Nat}{o10 o11 o12 o13 o4:Oper}{c5:Code}
  (h1:o10.op=.next (.tmp 9) false) (h1d:o10.dst=some 10) (h1g:o10.guard=none) (h2:o11.op=.extract (.tmp 10) 0) (h2d:o11.dst=some 11) (h2g:o11.guard=none)
  (h3:o12.op=.entry (.tmp 9)) (h3d:o12.dst=some 12) (h3g:o12.guard=none) (h4:o13.op=.extract (.tmp 12) 0) (h4d:o13.dst=some 13) (h4g:o13.guard=none) (h5:o4.op=.assign (.tmp 13)) (h5d:o4.dst=some 4) (h5g:o4.guard=none)
  (h6:∀(l:List ai) (s:ai),l.length<es.size->d8 P GE 1000 c5 (EX .normal (kS e (l++[s]) (QT r) .undef)) (kS e l (QT r) (.str s))) {a:Act} {w:World} (h:EU P E e es clock bm r [] .undef a w):
  He ro P (.loop (.seq (.region i3 #[o10,o11] false) (.seq (.cond (.tmp 11) .skip (.exit 0)) (.block 1 (.seq (.region i4 #[o12,o13,o4] false) c5)))))
   (λq a' w'=>q=.exit 0/\a'.defers=a.defers/\∃vis:List MapEntry,vis.Perm es.toList/\∃Γ ow,SR P E Γ [] ow w' a'.tmps (kS e (vis.map tZ) (QT r) .undef)) a w:=by
 refine sJ (λk a' w'=>a'.defers=a.defers/\∃vis,qek es vis/\vis.length+k=es.size+1/\EU P E e es clock bm r vis .undef a' w') (es.size+1) ⟨rfl,[],⟨by simp,by simp⟩,by simp,h⟩ ?_
 rintro k a1 w1 ⟨hd1,vis,hv,hlen,hR⟩
 refine BC (ek (Q5 hE hbm hb hr h1 h1d h1g h2 h2d h2g hR) λq a2 w2 hq=>?_)
 obtain⟨rfl,hd2,hc⟩:=hq
 show He ro P (.seq _ _) _ a2 w2
 rcases hc with⟨hf,hz,hR2⟩|⟨ht,y,hy,hit,hS⟩
 ·refine BC (K4 hf (λhx=>by cases hx) λ_=>QD ?_)
  exact⟨rfl,hd2.trans hd1,vis,UC hb hv hz,hR2.ex⟩
 ·obtain⟨hy1,hy2⟩:=Wy hy
  refine BC (K4 ht (λ_=>QE ?_) λhx=>by cases hx)
  show He ro P (.block 1 _) _ a2 w2
  refine Hf (BC (ek (Pk hE hbm hb h3 h3d h3g h4 h4d h4g h5 h5d h5g hy1 (hk y hy1) hit hS) λq a3 w3 hq=>?_))
  obtain⟨rfl,hd3,rfl,Γ,ow,hS3⟩:=hq
  show He ro P c5 _ a3 w3
  have hnd:((vis++[y]).map (·.born)).Nodup:=by
   rw[va5,vcb]
   exact⟨hv.nd,by simp,λp hp q hq hpq=>by simp at hq;subst hq;subst hpq;exact hy2 hp⟩
  have hsub:∀x∈vis++[y],x∈es.toList:=λx hx=>by
   rcases vaw.1 hx with hx|hx
   ·exact hv.sub x hx
   ·rw[va4.1 hx];exact hy1
  have hle:vis.length<es.size:=by
   have:=(rD _ hnd).length_le_of_subset hsub
   simp at this
   omega
  obtain⟨hg,hS3⟩:=hS3.unown hit
  have hE':nj GE 1000 ⟨E.GE,Γ,w3,aN [] λb=>if b=r then none else ow b⟩:={
   ge:=hE.ge
   low:=λb n hb=>hS3.lt_of_ghost hb
   nt:=λh0=>by cases h0
   gl:=λg cs hg=>(hS3.gl g cs (by rw[hE.ge];exact hg))}
  have h7:=h6 (vis.map tZ) (tZ y) (by simpa using hle) ro _ [] a3 w3 hE' rfl ⟨Γ,[],_,hS3.asEntry,λi _=>rfl⟩
  refine ek h7 λq a4 w4 hq=>?_
  obtain⟨hd4,st,⟨Γ4,bs4,ow4,hS4,_⟩,rfl,rfl⟩:=hq
  have hb4:bs4=[]:=vat hS4.bl
  subst hb4
  show ∃n',n'<k/\_
  refine⟨k - 1,by omega,((hd4.trans hd3).trans hd2).trans hd1,vis++[y],⟨hsub,hnd⟩,by simp;omega,?_,Γ4,ow4,?_⟩
  ·have hrl:=(vaj.1 hit).1
   rw[(hS4.step.keep r hrl λhT=>hT.elim (λ⟨i,hi⟩=>by simp at hi) (λhx=>hx (by simp))).1]
   simpa using hit
  ·have:=hS3.rebaseE hS4
   simpa using this
end
def qP(l:List ai):List ai:=l.mergeSort λx y=>decide (x<=y)
abbrev R7(x y:ai):Prop:=Op.bytesLess x y=true
theorem rQ:∀(x:ai),Op.bytesLess x x=false
 |[]=>rfl
 |a::x=>by
  unfold Op.bytesLess
  rw[rQ x]
  simp[UInt8.lt_irrefl]
theorem pS:∀{x y z:ai},R7 x y->R7 y z->R7 x z
 |_,_,[],h1,h2=>by simp[R7,Op.bytesLess]at h2
 |_,[],_::_,h1,h2=>by simp[R7,Op.bytesLess]at h1
 |[],_::_,_::_,_,_=>rfl
 | a :: x,b :: y,c :: z,h1,h2 => by
  unfold R7 Op.bytesLess at h1 h2 ⊢
  simp only[va3,vao,vad,vaP]at h1 h2 ⊢
  rcases h1 with h1|⟨rfl,h1⟩
  ·rcases h2 with h2|⟨rfl,h2⟩
   ·exact .inl (UInt8.lt_trans h1 h2)
   ·exact .inl h1
  ·rcases h2 with h2|⟨rfl,h2⟩
   ·exact .inl h2
   ·exact .inr ⟨rfl,pS h1 h2⟩
theorem pR:∀{x y:ai},Op.bytesLess x y=false->Op.bytesLess y x=false->x=y
 |[],[],_,_=>rfl
 |[],_::_,h,_=>by simp[Op.bytesLess]at h
 |_::_,[],_,h=>by simp[Op.bytesLess]at h
 | a :: x,b :: y,h1,h2 => by
  unfold Op.bytesLess at h1 h2
  simp only[vcY,vbe,Bool.and_eq_false_imp,vaP]at h1 h2
  have hab:a=b:=by
   have k1:=UInt8.not_lt.1 h1.1
   have k2:=UInt8.not_lt.1 h2.1
   exact UInt8.le_antisymm k2 k1
  subst hab
  rw[pR (h1.2 rfl) (h2.2 rfl)]
theorem Ze:∀(x y:ai),Op.bytesLess x y=decide (x<y)
 |[],[]=>by simp[Op.bytesLess]
 |_::_,[]=>by simp[Op.bytesLess]
 |[],_::_=>by simp[Op.bytesLess]
 |a::x,b::y=>by
  unfold Op.bytesLess
  rw[Ze x y,vcp]
  simp[List.cons_lt_cons_iff]
theorem TE(x y:ai):decide (x<=y)= !Op.bytesLess y x:=by
 rw[Ze]
 rw[<-decide_not]
 rfl
theorem F0(l:List ai):(qP l).Pairwise λx y=>Op.bytesLess y x=false:=by
 have:=List.pairwise_mergeSort (le:=λx y:ai=>decide (x<=y)) (λa b c h1 h2=>by
  rw[TE]at h1 h2 ⊢
  simp only[va0]at h1 h2 ⊢
  cases h:Op.bytesLess c a with
  |false=>rfl
  | true =>
   exfalso
   by_cases hb:Op.bytesLess a b=true
   ·have:=pS h hb
    unfold R7 at this
    rw[h2]at this
    cases this
   ·have:a=b:=pR (by simpa using hb) h1
    subst this
    rw[h2]at h
    cases h) (λa b=>by
  rw[TE,TE]
  cases h:Op.bytesLess b a with
  |false=>rfl
  | true =>
   cases h':Op.bytesLess a b with
   |false=>rfl
   |true=>
    have:=pS h h'
    unfold R7 at this
    rw[rQ]at this
    cases this) l
 refine vda ?_ this
 intro a b h
 rw[TE]at h
 simpa using h
theorem Vb(l:List ai)(x:ai):x∈qP l↔x∈l:=List.mem_mergeSort
def St(x:ai):List ai->List ai
 |[]=>[x]
 |y::r=>if Op.bytesLess y x=true then y::St x r else x::y::r
def wC:List ai->List ai
 |[]=>[]
 |x::r=>St x (wC r)
theorem Hh(x:ai):∀l,(St x l).Perm (x::l)
 |[]=>.refl _
 | y :: r => by
  unfold St
  split
  ·exact((Hh x r).cons y).trans (List.Perm.swap x y r)
  ·exact .refl _
theorem mJ:∀l,(wC l).Perm l
 |[]=>.refl _
 |x::r=>(Hh x (wC r)).trans ((mJ r).cons x)
abbrev XJ(l:List ai):Prop:=l.Pairwise λx y=>Op.bytesLess y x=false
theorem Ij(x:ai):∀{l},XJ l->XJ (St x l)
 |[],_=>by simp[St,XJ]
 | y :: r,h => by
  unfold XJ at h ⊢
  have h':=vbl.1 h
  unfold St
  split
  ·rename_i hy
   rw[vbl]
   refine⟨λz hz=>?_,Ij x h'.2⟩
   rcases vaB.1 ((Hh x r).mem_iff.1 hz)with rfl|hz
   ·cases hc:Op.bytesLess z y with
    |false=>rfl
    |true=>have:=pS hy hc;unfold R7 at this;rw[rQ]at this;cases this
   ·exact h'.1 z hz
  ·rename_i hy
   have hy:Op.bytesLess y x=false:=by simpa using hy
   rw[vbl]
   refine⟨λz hz=>?_,h⟩
   rcases vaB.1 hz with rfl|hz
   ·exact hy
   ·have hz:=h'.1 z hz
    cases hc:Op.bytesLess z x with
    |false=>rfl
    | true =>
     exfalso
     by_cases hxy:Op.bytesLess x y=true
     ·have:=pS hc hxy
      unfold R7 at this
      rw[hz]at this;cases this
     ·have:x=y:=pR (by simpa using hxy) hy
      subst this
      rw[hz]at hc;cases hc
theorem nI:∀l,XJ (wC l)
 |[]=>by simp[wC,XJ]
 |x::r=>Ij x (nI r)
theorem D5:∀{a b:List ai},XJ a->XJ b->a.Perm b->a=b
 |[],b,_,_,h=>(List.Perm.nil_eq h)
 |x::a,[],_,_,h=>by have:=h.length_eq;simp at this
 | x :: a,y :: b,ha,hb,h => by
  unfold XJ at ha hb
  have ha':=vbl.1 ha
  have hb':=vbl.1 hb
  have hxy:x=y:=by
   rcases vaB.1 (h.mem_iff.1 (vcw:x∈x::a))with hx|hx
   ·exact hx
   ·rcases vaB.1 (h.mem_iff.2 (vcw:y∈y::b))with hy|hy
    ·exact hy.symm
    ·exact pR (hb'.1 x hx) (ha'.1 y hy)
  subst hxy
  congr 1
  exact D5 ha'.2 hb'.2 (List.Perm.cons_inv h)
theorem Wu(l:List ai):wC l=qP l:=D5 (nI l) (F0 l) ((mJ l).trans (List.mergeSort_perm l _).symm)
open Go Go.Sort Go.Proofs.Tryz
theorem Wm{w:World}{b:Nat}{cur:Array Value}{e:TypeId}{l:List ai}(hh:w.heap[b]? =some (.cells cur e (0,0)))(ht:cur.toList.take l.length=l.map λs=>Value.string ⟨s.toArray⟩):Holds encStr w b 0 l.toArray:=by
 intro j hj
 have hj':j<l.length:=by simpa using hj
 rw[vaI]
 refine⟨?_,frozen_of_row w b j cur e hh⟩
 rw[cell_of_row w b j cur e _ hh]
 have h1:(cur.toList.take l.length)[j]? =(l.map λs=>Value.string ⟨s.toArray⟩)[j]?:=by rw[ht]
 rw[vap hj']at h1
 simp only[va2,vav,vab hj',vak]at h1
 rw[h1,getElem!_pos _ j hj]
 simp[encStr]
theorem U6{w:World}{b n:Nat}{cur:Array Value}{e:TypeId}{os:Array Obj}(d l:List ai)(hh:w.heap[b]? =some (.cells cur e (0,0)))(hd:d.length<=cur.size)(hl:d.take l.length=l):(∀b',b'<w.heap.size->b'≠b->(grow (putRow encStr (Sort.ahead w n) b 0 d.toArray) os).heap[b']? =w.heap[b']?)/\w.heap.size<=(grow (putRow encStr (Sort.ahead w n) b 0 d.toArray) os).heap.size/\
   ∃cur',(grow (putRow encStr (Sort.ahead w n) b 0 d.toArray) os).heap[b]? =some (.cells cur' e (0,0))/\cur'.size=cur.size/\cur'.toList.take l.length=l.map λs=>Value.string ⟨s.toArray⟩:=by
 have hb:b<w.heap.size:=(vaj.1 hh).1
 have hsz:(putRow encStr (Sort.ahead w n) b 0 d.toArray).heap.size=w.heap.size:=by simp[putRow,mapBlock,Sort.ahead]
 refine⟨λb' h1 h2=>?_,?_,putCells encStr 0 d.toArray cur,?_,by simp[putCells],?_⟩
 ·show((putRow encStr (Sort.ahead w n) b 0 d.toArray).heap++os)[b']? =_
  rw[vaX (by rw[hsz];exact h1)]
  show(w.heap.modify b (onCells _))[b']? =_
  rw[vbZ,van (λe=>h2 e.symm)]
 ·show _<=((putRow encStr (Sort.ahead w n) b 0 d.toArray).heap++os).size
  rw[Array.size_append,hsz];omega
 ·show((putRow encStr (Sort.ahead w n) b 0 d.toArray).heap++os)[b]? =_
  rw[vaX (by rw[hsz];exact hb)]
  show(w.heap.modify b (onCells _))[b]? =_
  rw[vbZ,vah rfl,hh]
  rfl
 ·have hll:l.length<=d.length:=by have h0:=vbd List.length hl;rw[vaQ]at h0;omega
  refine vbf λi=>?_
  by_cases hi:i<l.length
  ·have hdl:i<d.length:=by omega
   have hdi:d[i]=l[i]:=by
    have h1:(d.take l.length)[i]? =l[i]?:=by rw[hl]
    rw[vap hi,vab hdl,vab hi]at h1
    exact vbb h1
   rw[vap hi]
   simp only[va2,putCells,Array.getElem?_mapIdx,vav,vab hi,vak]
   have hc:cur[i]? =some (cur[i]'(by omega)):=vaE (by omega)
   rw[hc]
   simp only[vak]
   rw[vah ⟨vaN _,by simp;omega⟩,Nat.sub_zero,getElem!_pos _ i (by simpa using hdl)]
   simp[encStr,hdi]
  ·rw[vaK (by simp[putCells];omega),vaK (by simp;omega)]
theorem yt(l:List ai):(qP l).length=l.length:=by unfold qP;exact List.length_mergeSort _
theorem ZW{n:Nat}(h:n<=bo):n<4611686018427387904:=by unfold bo at h;omega
theorem Y1:Zy Pg 127 9 (λs=>Value.string ⟨s.toArray⟩) qP (λ_ _ _=>.tuple #[]):={
 call:=call127
 row:=λw b cap cur l hh hc hl hm hla ht=>by
  have hlen:=ZW hla
  refine(Any.slices_Sort_string Tryz.lays190 b 0 cap l w (Wm hh ht) ((vaj.1 hh).1) hlen).mono λr w' hr=>?_
  obtain⟨rfl,n,os,rfl⟩:=hr
  obtain⟨k1,k2,cur',k3,k4,k5⟩:=U6 (n:=n) (os:=os) (qP l) (qP l) hh (by rw[yt];omega) vaG
  exact⟨rfl,by rw[yt];exact hl,rfl,rfl,rfl,⟨k2,vbB _ _⟩,k1,cur',k3,by omega,k5⟩
 none:=λw=>⟨by simp[qP],Any.slices_Sort_string_none Tryz.lays190 Option.none 0 w⟩}
theorem qfC:Pg.cellsOf 9=1:=by kernel_rfl
def tt(m:List (ai×Bool)):Option (List ai):=if decide (m.length<=bo)=true then some (wC (m.map λe=>e.1))else none
abbrev qfG:Nat:=82
noncomputable def V7:Code:=f82.body.getD .skip
def qeI:Code->Nat×Array Oper
 |.region id ops _=>(id,ops)
 |_=>(0,#[])
abbrev qcH:Code:=gA V7 [false]
abbrev qcI:Code:=gA V7 [true,false]
abbrev Nr:Code:=gA V7 [true,true,false,false]
abbrev qa1:Code:=gA V7 [true,true,false,true,false,false,false]
abbrev Zt:Code:=gA V7 [true,true,false,true,false,false,true,true,false,false]
abbrev qd7:Code:=gA V7 [true,true,false,true,false,false,true,true,false,true]
abbrev qa2:Code:=gA V7 [true,true,true,false]
abbrev qeJ:Code:=gA V7 [true,true,true,true,false]
abbrev xu(c:Code)(i:Nat):Oper:=((qeI c).2)[i]?.getD default
abbrev YY(c:Code):Nat:=(qeI c).1
theorem qan:V7=.seq (.region (YY qcH) #[xu qcH 0] false) (.seq (.region (YY qcI) #[xu qcI 0] false) (.seq (.seq (.region (YY Nr) #[xu Nr 0,xu Nr 1,xu Nr 2,xu Nr 3,xu Nr 4] false)
  (.block 0 (.loop (.seq (.region (YY qa1) #[xu qa1 0,xu qa1 1] false) (.seq (.cond (.tmp 11) .skip (.exit 0)) (.block 1 (.seq (.region (YY Zt) #[xu Zt 0,xu Zt 1,xu Zt 2] false) qd7)))))))
  (.seq (.region (YY qa2) #[xu qa2 0,xu qa2 1] false) (.seq qeJ .ret)))):=by kernel_rfl
abbrev eS:TypeId:=9
theorem qfL(iv:Value)(l:List ai)(s:ai)(h:l.length+1<=bo):d8 Pg GE 1000 qd7 (EX .normal (kS eS (l++[s]) iv .undef)) (kS eS l iv (.str s)):=by
 have bl:app l [s]=some (l++[s]):=by unfold app;rw[vah (by simpa using h)]
 have z:=sv (b8.mk' (v:=PVal.str) qaF ([s]:List ai) 1 (by kernel_rfl))<|sv (b8.ap bl)<|eF .normal (kS eS (l++[s]) iv .undef)
 exact qp (A:=[14]) mixed z (by kernel_rfl)
theorem qfM(l:List ai)(h:l.length<=bo):d8 Pg GE 0 (.region (YY qa2) #[xu qa2 0,xu qa2 1] false) (EX .normal (oJ 21 3 (qP l) eS)) (oJ 21 3 l eS):=
 d8.inplace (t:=3) (d1:=18) (d2:=19) Y1 qfC h rfl rfl rfl rfl rfl rfl (by decide) (.inl ⟨rfl,yt l⟩)
abbrev sE(l:List ai):aB:=aO 21 [(2,sl cS l)] [] [((2,0),eS)]
theorem qfN(l:List ai):d8 Pg GE 0 (.seq qeJ .ret) (EX .ret (sE l)) (oJ 21 3 l eS):=by
 have z:=eF .ret (sE l)
 exact qp (A:=[20]) mixed z (by kernel_rfl)
theorem ym{a:Act}{d t:Nat}{v:Value}:(a.put (some d) v).tmps[t]? =if d=t then(if d<a.tmps.size then some v else none)else a.tmps[t]?:=by
 show(a.tmps.setIfInBounds d v)[t]? =_
 rw[vbt]
theorem tn{a:Act}{d:Nat}{v:Value}:(a.put (some d) v).tmps.size=a.tmps.size:=by
 show(a.tmps.setIfInBounds d v).size=_
 simp
theorem XE{a:Act}{w:World}{Q:Exit->Act->World->Prop}{id:Nat}{ops:Array Oper}(h:wpOps Pg ops Q (List.range ops.size) a w):(Code.region id ops false).wp Pg Q a w:=wp_region h
theorem qd9(m:List (ai×Bool)):jx Pg 124 (.bptr 0 0) [.cells [.mapr 1] [],.map (df PVal.bool m)]=some (.mapr 1):=by kernel_rfl
theorem qd8:bv Pg 126 (.bptr 0 0) 0=some (.bptr 0 0):=by kernel_rfl
theorem qea:Pg.underlying 124=some (.map 9 4):=by kernel_rfl
theorem Dc{m:List (ai×Bool)}{r:List ai}(h:tt m=some r):C Pg GE qfG [.bptr 0 0] [] [.cells [.mapr 1] [],.map (df PVal.bool m)] (sl cS r) [(0,eS)] [.cells [.mapr 1] [],.map (df PVal.bool m)]:=by
 rcases qaX h with⟨hl,h⟩|⟨_,h⟩
 rotate_left
 ·cases h
 obtain rfl:=lf h
 have hlen:m.length<=bo:=by simpa using hl
 refine⟨call82,λΓ bs ow w vs hS=>calls_of_wp func82 (c:=V7) rfl ?_⟩
 obtain⟨v,rfl⟩:∃v,vs=#[v]:=vcU.1 hS.sz
 have hvr:VR Γ bs w (.bptr 0 0) v:=hS.tm 0 _ _ rfl rfl
 have hv0:∃b0,v=.pointer (some ⟨b0,0,none⟩)/\bs[0]? =some (some b0):=by cases hvr with|bptr _ _ b0 hb0=>exact⟨b0,rfl,hb0⟩
 obtain⟨b0,rfl,hb0⟩:=hv0
 obtain⟨vm,hld,hvm⟩:=BW (P:=Pg) hS (t:=124) hvr (qd9 m)
 have hvm0:∃bm,vm=.map (some bm)/\bs[1]? =some (some bm):=by cases hvm with|mapr _ bm hbm=>exact⟨bm,rfl,hbm⟩
 obtain⟨bm,rfl,hb1⟩:=hvm0
 obtain⟨_,hbml,es,clock,hmap,hsz,hent,hborn⟩:=hS.bx 1 bm _ hb1 rfl
 obtain⟨vf,hfa,hvf⟩:=AJ (P:=Pg) hvr qd8
 have hvf0:vf=.pointer (some ⟨b0,0,none⟩):=by cases hvf with|bptr _ _ b hb=>rw[hb0]at hb;cases hb;rfl
 subst hvf0
 have hrg:=run_range_map (P:=Pg) w 124 9 4 bm es clock qea hmap
 have hB:Ms GE Γ w:=hS.base
 have hE:nj GE 0 (G6 GE Γ w):=hB.good
 have hkey:∀(j:Nat) (x:MapEntry),es[j]? =some x->∃s u,m[j]? =some (s,u)/\x.key=.string ⟨s.toArray⟩:=λj x hx=>by
  have hj:j<m.length:=by have:=(vaj.1 hx).1;rw[hsz]at this;simpa[df]using this
  obtain⟨h1,_⟩:=hent j (.str m[j].1) (.bool m[j].2) x (by simp[df,hj]) hx
  refine⟨m[j].1,m[j].2,by simp[hj],?_⟩
  generalize x.key=k at h1
  cases h1;rfl
 have hk:∀y∈es.toList,y.key=.string ⟨(tZ y).toArray⟩:=λy hy=>by
  obtain⟨j,hj⟩:=vbi.1 hy
  obtain⟨s,u,_,h2⟩:=hkey j y (by simpa using hj)
  unfold tZ
  rw[h2]
 have hks:es.toList.map tZ=m.map λe=>e.1:=by
  refine vbf λj=>?_
  simp only[vav,va2]
  cases hj:es[j]? with
  |none=>
   have h1:m.length<=j:=by have:=vb4.1 hj;rw[hsz]at this;simpa[df]using this
   simp[h1]
  |some x=>
   obtain⟨s,u,h1,h2⟩:=hkey j x hj
   simp[h1,tZ,h2]
 have hn:f82.ntmps=21:=by kernel_rfl
 refine(λ(key:∀A0:Act,A0.tmps.size=21->A0.tmps[0]? =some (.pointer (some ⟨b0,0,none⟩))->A0.defers=[]->V7.wp Pg _ A0 w)=>key _ ?_ ?_ rfl) ?_
 ·rw[hn];simp
 ·rw[hn];simp
 intro A0 z0 z1 z2
 rw[qan]
 have d00:(xu qcH 0).dst=some 2:=by kernel_rfl
 have d10:(xu qcI 0).dst=some 3:=by kernel_rfl
 have o20:(xu Nr 0).op=.move (.tmp 0):=by kernel_rfl
 have d20:(xu Nr 0).dst=some 5:=by kernel_rfl
 have o21:(xu Nr 1).op=.nilCheck (.tmp 5):=by kernel_rfl
 have d21:(xu Nr 1).dst=some 6:=by kernel_rfl
 have o22:(xu Nr 2).op=.fieldAddr 126 (.tmp 6) 0:=by kernel_rfl
 have d22:(xu Nr 2).dst=some 7:=by kernel_rfl
 have o23:(xu Nr 3).op=.load 124 (.tmp 7):=by kernel_rfl
 have d23:(xu Nr 3).dst=some 8:=by kernel_rfl
 have o24:(xu Nr 4).op=.range 124 (.tmp 8):=by kernel_rfl
 have d24:(xu Nr 4).dst=some 9:=by kernel_rfl
 refine wp_seq (XE (nQ (o:=xu qcH 0) (by kernel_rfl) (by kernel_rfl) (v:=.slice none 0 0) (w':=w) (by kernel_rfl) ?_))
 rw[d00]
 show Code.wp Pg _ _ _ w
 refine wp_seq (XE (nQ (o:=xu qcI 0) (by kernel_rfl) (by kernel_rfl) (v:=.slice none 0 0) (w':=w) (by kernel_rfl) ?_))
 rw[d10]
 show Code.wp Pg _ _ _ w
 refine wp_seq (wp_seq (XE (nQ (o:=xu Nr 0) (by kernel_rfl) (by kernel_rfl) (v:=.pointer (some ⟨b0,0,none⟩)) (w':=w) ?_ ?_)))
 ·have:((A0.put (some 2) (.slice none 0 0)).put (some 3) (.slice none 0 0)).eval (.tmp 0)=.pointer (some ⟨b0,0,none⟩):=dA (by simp only[ym];exact z1)
  simp[execOp,o20,this]
 rw[d20]
 refine nQ (o:=xu Nr 1) (by kernel_rfl) (by kernel_rfl) (v:=.pointer (some ⟨b0,0,none⟩)) (w':=w) ?_ ?_
 ·have:(((A0.put (some 2) (.slice none 0 0)).put (some 3) (.slice none 0 0)).put (some 5) (.pointer (some ⟨b0,0,none⟩))).eval (.tmp 5)=.pointer (some ⟨b0,0,none⟩):=dA (by simp only[ym,tn,z0];rfl)
  simp[execOp,o21,this]
 rw[d21]
 refine nQ (o:=xu Nr 2) (by kernel_rfl) (by kernel_rfl) (v:=.pointer (some ⟨b0,0,none⟩)) (w':=w) ?_ ?_
 ·have:((((A0.put (some 2) (.slice none 0 0)).put (some 3) (.slice none 0 0)).put (some 5) (.pointer (some ⟨b0,0,none⟩))).put (some 6) (.pointer (some ⟨b0,0,none⟩))).eval (.tmp 6)=.pointer (some ⟨b0,0,none⟩):=dA (by simp only[ym,tn,z0];rfl)
  simp[execOp,o22,this,hfa]
 rw[d22]
 refine nQ (o:=xu Nr 3) (by kernel_rfl) (by kernel_rfl) (v:=.map (some bm)) (w':=w) ?_ ?_
 ·have:(((((A0.put (some 2) (.slice none 0 0)).put (some 3) (.slice none 0 0)).put (some 5) (.pointer (some ⟨b0,0,none⟩))).put (some 6) (.pointer (some ⟨b0,0,none⟩))).put (some 7) (.pointer (some ⟨b0,0,none⟩))).eval (.tmp 7)=.pointer (some ⟨b0,0,none⟩):=dA (by simp only[ym,tn,z0];rfl)
  simp[execOp,o23,this,hld]
 rw[d23]
 refine nQ (o:=xu Nr 4) (by kernel_rfl) (by kernel_rfl) (v:=QT w.heap.size) (w':=w.alloc (.mapIter (some bm) clock #[] clock)) ?_ ?_
 ·have:((((((A0.put (some 2) (.slice none 0 0)).put (some 3) (.slice none 0 0)).put (some 5) (.pointer (some ⟨b0,0,none⟩))).put (some 6) (.pointer (some ⟨b0,0,none⟩))).put (some 7) (.pointer (some ⟨b0,0,none⟩))).put (some 8) (.map (some bm))).eval (.tmp 8)=.map (some bm):=dA (by simp only[ym,tn,z0];rfl)
  simp[execOp,o24,this,hrg]
 rw[d24]
 generalize hA1:((((((A0.put (some 2) (.slice none 0 0)).put (some 3) (.slice none 0 0)).put (some 5) (.pointer (some ⟨b0,0,none⟩))).put (some 6) (.pointer (some ⟨b0,0,none⟩))).put (some 7) (.pointer (some ⟨b0,0,none⟩))).put (some 8) (.map (some bm))).put (some 9) (QT w.heap.size)=A1
 have y0:A1.tmps.size=21:=by rw[<-hA1];simp[tn,z0]
 have y3:A1.tmps[3]? =some (.slice none 0 0):=by rw[<-hA1];simp only[ym,tn,z0];rfl
 have y9:A1.tmps[9]? =some (QT w.heap.size):=by rw[<-hA1];simp only[ym,tn,z0];rfl
 have y2:A1.defers=[]:=by rw[<-hA1];simp only[bC];exact z2
 clear hA1
 have h0:SR Pg (G6 GE Γ w) Γ [] (λ_=>none) w A1.tmps ⟨(kS eS [] (QT w.heap.size) .undef).tmps,[],[]⟩:=by
  refine hB.fresh 0 y0 λt p v hp hv=>?_
  by_cases h3:t=3
  ·subst h3
   rw[y3]at hv
   cases hp;cases hv
   exact .sliceNil
  ·by_cases h9:t=9
   ·subst h9
    rw[y9]at hv
    cases hp;cases hv
    exact .val _
   ·have:p=.undef:=by
     have ht:t<21:=by have:=aq hp;simpa[kS]using this
     clear hv
     rcases(show t=0\/t=1\/t=2\/t=4\/t=5\/t=6\/t=7\/t=8\/t=10\/t=11\/t=12\/t=13\/t=14\/t=15\/t=16\/t=17\/t=18\/t=19\/t=20 by omega)with h|h|h|h|h|h|h|h|h|h|h|h|h|h|h|h|h|h|h<;>subst h<;>cases hp<;>rfl
    rw[this]
    exact .undef v
 have h1:SR Pg (G6 GE Γ w) Γ [] (λ_=>none) w A1.tmps (kS eS [] (QT w.heap.size) .undef):={h0 with
  ot:=λt k e he=>by
   simp[kS]at he
   obtain⟨⟨rfl,rfl⟩,rfl⟩:=he
   exact⟨_,_,y3,rfl,⟨0,[],World.ownsRow_nil _ _ _ _,λb hb=>by simp[Value.ownBlock]at hb⟩,λb hb=>by simp[Value.ownBlock]at hb⟩
  ob:=λi j e cs own b hB=>by simp[kS]at hB}
 obtain⟨h2,_⟩:=h1.allocO (.mapIter (some bm) clock #[] clock)
 have hR:EU Pg (G6 GE Γ w) eS es clock bm w.heap.size [] .undef A1 (w.alloc (.mapIter (some bm) clock #[] clock)):=⟨World.alloc_heap_new w _,Γ,_,h2⟩
 have hel:es.size<=bo:=by rw[hsz];simpa[df]using hlen
 have hlp:=UB (P:=Pg) (GE:=GE) (E:=G6 GE Γ w) (e:=eS) (ro:=none) (i3:=YY qa1) (i4:=YY Zt) (o10:=xu qa1 0) (o11:=xu qa1 1) (o12:=xu Zt 0) (o13:=xu Zt 1) (o4:=xu Zt 2) (c5:=qd7) hE hmap hborn (var _) hk
  (by kernel_rfl) (by kernel_rfl) (by kernel_rfl) (by kernel_rfl) (by kernel_rfl) (by kernel_rfl) (by kernel_rfl) (by kernel_rfl) (by kernel_rfl) (by kernel_rfl) (by kernel_rfl) (by kernel_rfl) (by kernel_rfl) (by kernel_rfl) (by kernel_rfl)
  (λl s hls=>qfL (QT w.heap.size) l s (by omega)) hR
 show Code.wp Pg _ _ A1 _
 refine wp_block (wp_mono hlp λq A2 w2 hq=>?_)
 obtain⟨rfl,hd2,vis,hperm,Γ2,ow2,hS2⟩:=hq
 show Code.wp Pg _ _ A2 w2
 have hS2:SR Pg (G6 GE Γ w) Γ2 [] ow2 w2 A2.tmps (oJ 21 3 (vis.map tZ) eS):=hS2.forgetT (tm:=(oJ 21 3 (vis.map tZ) eS).tmps) rfl
 have hvl:(vis.map tZ).length<=bo:=by rw[vaO,hperm.length_eq];simpa using hel
 have hwp6:=qfM (vis.map tZ) hvl none (G6 GE Γ w) [] A2 w2 hE rfl ⟨Γ2,[],ow2,hS2,λi hi=>absurd hi (vaS _)⟩
 refine wp_seq (wp_mono hwp6 λq A3 w3 hq=>?_)
 obtain⟨hd3,st3,⟨Γ3,bs3,ow3,hS3,_⟩,rfl,rfl⟩:=hq
 show Code.wp Pg _ _ A3 w3
 have hwp7:=qfN (qP (vis.map tZ)) none (G6 GE Γ w) [] A3 w3 hE rfl ⟨Γ3,bs3,ow3,hS3,λi hi=>absurd hi (vaS _)⟩
 refine wp_mono hwp7 λq A4 w4 hq=>?_
 obtain⟨hd4,st4,⟨Γ4,bs4,ow4,hS4,_⟩,rfl,rfl⟩:=hq
 have hsort:qP (vis.map tZ)=wC (m.map λe=>e.1):=by
  rw[<-Wu]
  refine D5 (nI _) (nI _) (((mJ _).trans ?_).trans (mJ _).symm)
  rw[<-hks]
  exact hperm.map tZ
 rw[hsort]at hS4
 obtain⟨vr,e1,e2,e3⟩:=nW hS4 (fn:=f82) (r:=sl cS (wC (m.map λe=>e.1))) (by kernel_rfl)
 have hf:=hS4.finish (H':=[]) (src:=dj f82.results.toList) (ro:=[(0,eS)]) e2 (aH uB _) trivial (λx hx=>by
  simp only[va4]at hx
  subst hx
  exact⟨va4.2 rfl,λu v'=>e3 0 u v' vzz⟩) (λx hx y hy _=>by
  simp only[va4]at hx hy
  rw[hx,hy])
 have hbs4:bs4.take (List.length ([]:List aA))=[]:=by simp
 rw[hbs4]at hf
 refine⟨((((hd4.trans hd3).trans hd2)).trans y2:A4.defers=[]),vr,e1,vr,Γ4,LF 0 (wy (dj f82.results.toList) [(0,eS)] ow4) ow,rfl,?_⟩
 have hT:∀b,¬(G6 GE Γ w).T b:=λb hb=>hb
 have hw:=hS.aside hf
 have hr:VR Γ4 bs w4 (sl cS (wC (m.map λe=>e.1))) vr:=e2.clo (aH uB _)
 have:=hw.setResult (d:=0) (ro:=[(0,eS)]) (by simp) hr (owC:=wy (dj f82.results.toList) [(0,eS)] ow4) (λk e hm=>?_) (λb t k hb=>?_)
 ·exact this
 ·obtain⟨u,v',h1,h2,h3,h4⟩:=hf.ot 0 k e (vag.2 ⟨(k,e),hm,rfl⟩)
  simp at h1;subst h1
  exact⟨v',h2,h3,h4⟩
 ·obtain⟨k1,k2⟩:=hf.on b _ hb
  have hge:w.heap.size<=b:=k2.resolve_left (hT b)
  refine⟨?_,k1,.inr (vaH hS.step.size hge)⟩
  cases hL:ow b with
  |none=>rfl
  |some L=>have:=(hS.on b L hL).1;omega
abbrev qfF:Nat:=106
noncomputable def qal:Code:=f106.body.getD .skip
abbrev qeC:Code:=gA qal [false]
abbrev qeD:Code:=gA qal [true,false,false]
abbrev XH:Code:=gA qal [true,false,true,false]
abbrev qdV:Code:=gA qal [true,true,false]
theorem qam:qal=.seq qeC (.seq (.seq qeD (.block 0 (.rangeFunc (.tmp 9) #[10,11] (qcq XH) (qcr XH)))) (.seq qdV .ret)):=by kernel_rfl
def wz(nm:ai)(s:ai×Bool)(x:af):Option (Bool×(ai×Bool)):=if(x.old==nm)=true then some (false,(x.new,true))else some (true,s)
def ng(scope:List af)(name:ai):Option (ai×Bool):=if decide (scope.length<4611686018427387904)=true then
 (S3 (wz name) scope.reverse ([],false)).bind λq=>if q.1=true then some ([],false)else some q.2 else none
abbrev Yk(s:ai×Bool):List aA:=[.dead,.cells [.str s.1] [],.cells [.bool s.2] []]
abbrev Vs(nm:ai)(s:ai×Bool):aB:=aO 18 [(3,.eptr [.str nm]),(4,.bptr 1 0),(5,.bptr 2 0)] (Yk s) []
abbrev qaK(sc:List af)(nm:ai):aB:=aO 18 [(0,IC sc),(3,.eptr [.str nm]),(4,.bptr 1 0),(5,.bptr 2 0)] (Yk ([],false)) []
theorem qdW(sc:List af)(nm:ai):d8 Pg GE 0 qeC (EX .normal (qaK sc nm)) (aO 18 [(0,IC sc),(1,.str nm)] [] []):=by
 have z:=se (qaF nm)<|sx (show eD Pg 9=some [.str []] by kernel_rfl)<|sx (show eD Pg 4=some [.bool false] by kernel_rfl)<|eF .normal (qaK sc nm)
 exact qp (A:=[]) mixed z (by kernel_rfl)
abbrev Y2(sc:List af)(nm:ai):aB:=aO 18 [(3,.eptr [.str nm]),(4,.bptr 1 0),(5,.bptr 2 0),(9,.func (.func QF) [] [.eptr [IC sc]])] (Yk ([],false)) []
theorem qdX(sc:List af)(nm:ai):d8 Pg GE 0 qeD (EX .normal (Y2 sc nm)) (qaK sc nm):=by
 have z:=qfO (Qv sc)<|eF .normal (Y2 sc nm)
 exact qp (A:=[]) mixed z (by kernel_rfl)
abbrev qfJ(x:af):List PVal:=[.str x.old,.str x.new]
abbrev qaL(nm:ai)(s:ai×Bool)(x:af):aB:=aO 18 [(3,.eptr [.str nm]),(4,.bptr 1 0),(5,.bptr 2 0),(7,.bptr 3 0)] (Yk s++[.cells (qfJ x) []]) []
theorem qdY(nm:ai)(s:ai×Bool)(x:af):d8 Pg GE 3 (qcq XH) (EX .normal (qaL nm s x)) (aO 18 [(3,.eptr [.str nm]),(4,.bptr 1 0),(5,.bptr 2 0),(11,.agg (ak x))] (Yk s) []):=by
 have z:=sx (show eD Pg 137=some [.str [],.str []] by kernel_rfl)<|sx (Jt x)<|eF .normal (qaL nm s x)
 exact qp (A:=[]) mixed z (by kernel_rfl)
abbrev qaM(nm:ai)(r:ai×Bool):aB:=aO 18 [(3,.eptr [.str nm]),(4,.bptr 1 0),(5,.bptr 2 0)] (Yk r++[.dead]) []
theorem qdZ(nm:ai)(s:ai×Bool)(x:af){r:Bool×(ai×Bool)}(h:wz nm s x=some r):d8 Pg GE 3 (qcr XH) (EX (if r.1=true then .normal else .ret) (qaM nm r.2)) (qaL nm s x):=by
 unfold wz at h
 rcases qaX h with⟨c1,h⟩|⟨c1,h⟩
 ·cases h
  have z:=ss<|sv (cw BZ (.str nm) [])<|sg 0 c1<|ss<|ss<|ss<|eF .ret (qaM nm (x.new,true))
  exact qp (A:=[]) mixed z (by kernel_rfl)
 ·cases h
  have z:=ss<|sv (cw BZ (.str nm) [])<|sg 0 c1<|eF .normal (qaM nm s)
  exact qp (A:=[]) mixed z (by kernel_rfl)
theorem qd0(nm:ai)(s:ai×Bool):d8 Pg GE 3 (.seq qdV .ret) (EX .ret (Vs nm ([],false))) (Vs nm s):=by
 have z:=ss<|ss<|eF .ret (Vs nm ([],false))
 exact qp (A:=[]) mixed z (by kernel_rfl)
theorem qaC(nm:ai)(s:ai×Bool):d8 Pg GE 3 .ret (EX .ret (Vs nm s)) (Vs nm s):=by
 have z:=eF .ret (Vs nm s)
 exact qp (A:=[]) mixed z (by kernel_rfl)
abbrev yn(fn:FuncId)(a:Array Value)(D:Nat)(b:Bool):Loop:={state:=if b then .ready else .done,pending:=if b then none else some .ret,fn:=fn,tmps:=a,params:=#[10,11],assign:=qcq XH,body:=qcr XH,defers:=D}
def JD(nm:ai)(Γe:aP)(we:World)(bs:be)(a:Array Value)(fn:FuncId)(l D:Nat)(b:Bool)(s:ai×Bool)(Γ:aP)(w:World):Prop:=
 ∃ow,SR Pg (G6 GE Γe we) Γ bs ow w a (Vs nm s)/\¬aN bs ow l/\¬aN bs ow D/\w.heap[l]? =some (.loop (yn fn a D b))/\w.heap[D]? =some (.deferred (some []))
theorem qa6{nm:ai}{Γe:aP}{we:World}{bs:be}{a:Array Value}{fn:FuncId}{l D:Nat}:Sd Pg GE (JD nm Γe we bs a fn l D) where
 base:=λb s Γ w ⟨ow,h,_⟩=>h.base
 side:=λb s Γ w ⟨ow,h,hTl,hTD,hhl,hhD⟩ Γ' bs' ow' w' a' st' h'=>
  ⟨ow,h.aside h',hTl,hTD,(h'.step.keep l (ip hhl) id).1.trans hhl,(h'.step.keep D (ip hhD) id).1.trans hhD⟩
theorem qcM{nm:ai}{Γe:aP}{we:World}{bs:be}{a:Array Value}{fn:FuncId}{l D:Nat}(hl:we.heap.size<=l)(hD:we.heap.size<=D)(hne:D≠l)(hb:bs.length=3)(s:ai×Bool)(Γ:aP)(w:World)(i:Int)(x:af)(v:Value)(n:Nat)(r:Bool×(ai×Bool))
  (hj:JD nm Γe we bs a fn l D true s Γ w) (hv:VR Γ [] w (.agg (ak x)) v) (hr:wz nm s x=some r):YieldAt Fence.wide n Pg l #[.int .i64 i,v] w λe w'=>∃Γ',e=.returned (.bool r.1)/\Γ.Le w Γ' w'/\JD nm Γe we bs a fn l D r.1 r.2 Γ' w':=by
 obtain⟨ow,h,hTl,hTD,hhl,hhD⟩:=hj
 have hS4:=qdZ nm s x hr
 refine⟨_,_,_,_,run_yield hhl rfl,?_⟩
 have hz:(((#[10,11]:Array Tmp).zip #[Value.int .i64 i,v]).foldl (λtmps (t,a)=>tmps.setIfInBounds t a) a)=(a.setIfInBounds 10 (.int .i64 i)).setIfInBounds 11 v:=by simp
 show RoundIn Fence.wide n Pg l fn (((#[10,11]:Array Tmp).zip #[Value.int .i64 i,v]).foldl (λtmps (t,a)=>tmps.setIfInBounds t a) a) (qcq XH) (qcr XH) w _
 rw[hz]
 have h7:SR Pg (G6 GE Γe we) Γ bs ow w ((a.setIfInBounds 10 (.int .i64 i)).setIfInBounds 11 v) (aO 18 [(3,.eptr [.str nm]),(4,.bptr 1 0),(5,.bptr 2 0),(11,.agg (ak x))] (Yk s) []):=(h.set (d:=10) (p:=.undef) (v:=.int .i64 i) (.undef _)).set (d:=11) (p:=.agg (ak x)) (hv.mono (.refl _ _) (λi b hi=>by simp at hi))
 refine roundIn_of_wpIn vzz (wpIn_mono (d8.on (qdY nm s x) (by decide) h7 (by rw[hb];decide) (some l) [] n) ?_)
 rintro e ⟨a1,ds1⟩ w1 ⟨rfl,Γ1,bs1,ow1,st1,h1,⟨rfl,rfl⟩,hbs1,hle1,hsz1,hk1⟩
 obtain⟨k1,t1⟩:=hk1 l (ip hhl) hTl
 obtain⟨k1D,t1D⟩:=hk1 D (ip hhD) hTD
 have hl1:=k1.trans hhl
 refine⟨_,run_beginRound hl1 rfl,?_⟩
 obtain⟨h1',hle1'⟩:=h1.putOther (l:=l) (o:=.loop {yn fn a D true with state:=.busy}) t1 (.inr hl) (λc t fr e=>by rw[hl1]at e;cases e)
 have hb1:3<=bs1.length:=by have:=h1.bl;rw[this];exact Nat.le_of_ble_eq_true rfl
 obtain⟨bq,s'⟩:=r
 refine wpIn_mono (d8.on hS4 (by decide) h1' hb1 (some l) [] n) ?_
 rintro e ⟨a2,ds2⟩ w2 ⟨rfl,Γ2,bs2,ow2,st2,h2,⟨rfl,rfl⟩,hbs2,hle2,hsz2,hk2⟩
 have hl1':(w1.putObj l (.loop {yn fn a D true with state:=.busy})).heap[l]? =some (.loop {yn fn a D true with state:=.busy}):=World.putObj_heap_same (ip hl1)
 have hD1':(w1.putObj l (.loop {yn fn a D true with state:=.busy})).heap[D]? =some (.deferred (some [])):=(World.putObj_heap_other hne).trans (k1D.trans hhD)
 obtain⟨k2,t2⟩:=hk2 l (ip hl1') t1
 obtain⟨k2D,t2D⟩:=hk2 D (ip hD1') t1D
 have hl2:=k2.trans hl1'
 cases bq with
 |true=>
  refine⟨_,_,run_endRound none hl2,?_⟩
  obtain⟨h3,hle3⟩:=h2.putOther (l:=l) (o:=.loop {{yn fn a D true with state:=.busy}with state:=if(none:Option Code).isNone then .ready else .done,pending:=none}) t2 (.inr hl) (λc t fr e=>by rw[hl2]at e;cases e)
  have hle:Γ.Le w Γ2 (w2.putObj l (.loop {{yn fn a D true with state:=.busy}with state:=if(none:Option Code).isNone then .ready else .done,pending:=none})):=((hle1.trans hle1').trans hle2).trans hle3
  obtain⟨ow3,h4,hT4⟩:=h.back rfl h3 hle (H':=Yk s') (λi hi=>(hbs2 i (by omega)).trans (hbs1 i (by omega))) ⟨vzz,⟨rfl,aI vzz vzz,λx hx=>hx⟩,⟨rfl,aI vzz vzz,λx hx=>hx⟩,vzz⟩ hb.symm
  exact⟨Γ2,rfl,hle,ow3,h4,λhx=>t2 (hT4 l hx),λhx=>t2D (hT4 D hx),World.putObj_heap_same (ip hl2),(World.putObj_heap_other hne).trans (k2D.trans hD1')⟩
 |false=>
  refine⟨_,_,run_endRound (some .ret) hl2,?_⟩
  obtain⟨h3,hle3⟩:=h2.putOther (l:=l) (o:=.loop {{yn fn a D true with state:=.busy}with state:=if(some Code.ret:Option Code).isNone then .ready else .done,pending:=some .ret}) t2 (.inr hl) (λc t fr e=>by rw[hl2]at e;cases e)
  have hle:Γ.Le w Γ2 (w2.putObj l (.loop {{yn fn a D true with state:=.busy}with state:=if(some Code.ret:Option Code).isNone then .ready else .done,pending:=some .ret})):=((hle1.trans hle1').trans hle2).trans hle3
  obtain⟨ow3,h4,hT4⟩:=h.back rfl h3 hle (H':=Yk s') (λi hi=>(hbs2 i (by omega)).trans (hbs1 i (by omega))) ⟨vzz,⟨rfl,aI vzz vzz,λx hx=>hx⟩,⟨rfl,aI vzz vzz,λx hx=>hx⟩,vzz⟩ hb.symm
  exact⟨Γ2,rfl,hle,ow3,h4,λhx=>t2 (hT4 l hx),λhx=>t2D (hT4 D hx),World.putObj_heap_same (ip hl2),(World.putObj_heap_other hne).trans (k2D.trans hD1')⟩
theorem AZ{sc:List af}{nm:ai}{r:ai×Bool}(h:ng sc nm=some r):CC Pg GE qfF [IC sc,.str nm] (.tuple [.str r.1,.bool r.2]) []:=by
 refine⟨aI (Se sc)<|aI vzz vzz,call106,λΓ bs ow w vs hS=>(callsIn_wide (n:=0)).1 (callsIn_of_wp_marks func106 (c:=qal) rfl vzz ?_)⟩
 obtain rfl:bs=[]:=vat hS.bl
 have hvs:vs.size=2:=hS.sz
 have hB:Ms GE Γ w:=hS.base
 have hE:nj GE 0 (G6 GE Γ w):=hB.good
 have h0:SR Pg (G6 GE Γ w) Γ [] (λ_=>none) w (vs++Array.replicate 16 undef) (aO 18 [(0,IC sc),(1,.str nm)] [] []):=by
  refine hB.fresh (a:=vs++Array.replicate 16 undef) 0 (tmps:=[IC sc,.str nm]++List.replicate 16 .undef) (by simp[hvs]) λt q u hq hu=>?_
  by_cases ht:t<2
  ·rw[vac (by simpa using ht)]at hq
   rw[vaX (by omega)]at hu
   exact hS.tm t q u hq hu
  ·rw[vaf (by show 2<=t;omega),vaW]at hq
   split at hq<;>cases hq
   exact .undef u
 have key:∀R:Ending->World->Prop,(∀{Γ6:aP} {bs6:be} {ow6:Nat->Option iL} {a6:Array Value} {w6:World},SR Pg (G6 GE Γ w) Γ6 bs6 ow6 w6 a6 (Vs nm r)->LeavesInM Fence.wide 0 Pg f106 a6 R [] .returning w6)->
   qal.wpIn Fence.wide 0 Pg (bodyPostM Fence.wide 0 Pg f106 R) ⟨vs++Array.replicate 16 undef,[]⟩ w:=λR hfin=>by
  unfold ng at h
  rcases qaX h with⟨c0,h⟩|⟨c0,h⟩
  rotate_left
  ·cases h
  have hlen:sc.length<4611686018427387904:=by simpa using c0
  rw[qam]
  refine wpIn_seq (wpIn_mono (d8.wideE (qdW sc nm) hE h0 0 []) ?_)
  rintro e ⟨a1,ds1⟩ w1 ⟨rfl,Γ1,bs1,ow1,st1,h1,rfl,rfl⟩
  obtain⟨q,hq,h⟩:=JK h
  refine wpIn_seq (wpIn_seq (wpIn_mono (d8.wideE (qdX sc nm) hE h1 0 []) ?_))
  rintro e ⟨a3,ds3⟩ w3 ⟨rfl,Γ3,bs3,ow3,st3,h3,rfl,rfl⟩
  have h6:=h3.opv [] (.tmp 9)
  have e6:opv (G6 GE Γ w).GE (Y2 sc nm).tmps (.tmp 9)=.func (.func QF) [] [.eptr [IC sc]]:=rfl
  rw[e6]at h6
  have hbl:bs3.length=3:=h3.bl
  refine wpIn_block (wpIn_rangeFunc λfn _=>?_)
  obtain⟨g1,l1⟩:=h3.allocO (.deferred (some []))
  obtain⟨g2,l2⟩:=g1.allocO (.loop (yn fn a3 w3.heap.size true))
  have gF:=g2.forgetT (tm:=(Vs nm ([],false)).tmps) rfl
  have hsz3:w.heap.size<=w3.heap.size:=h3.step.size
  have htl:∀b,w3.heap.size<=b->¬aN bs3 ow3 b:=λb hb hx=>by
   rcases hx with⟨i,hi⟩|hx
   ·have hil:i<(Y2 sc nm).boxes.length:=by rw[<-h3.bl];exact aq hi
    have:=(h3.bx i b _ hi (vab hil)).2.1
    omega
   ·cases hL:ow3 b with
    |none=>exact hx hL
    |some L=>have:=(h3.on b L hL).1;omega
  generalize hvf:(Act.mk a3 []).eval (.tmp 9)=vf at h6
  cases h6 with
  |func _ _ _ fs cs hl1 hl2 hf hc=>
  obtain rfl:fs=#[]:=vba hl1
  obtain⟨cv,rfl⟩:∃v,cs=#[v]:=vcU.1 hl2
  have hcv:VR Γ3 bs3 w3 (.eptr [IC sc]) cv:=hc 0 _ _ rfl rfl
  have hJ:JD nm Γ w bs3 a3 fn (w3.heap.size+1) w3.heap.size true ([],false) Γ3 ((w3.alloc (.deferred (some []))).alloc (.loop (yn fn a3 w3.heap.size true))):=by
   refine⟨ow3,gF,htl _ (by omega),htl _ (var _),?_,?_⟩
   ·have:=World.alloc_heap_new (w3.alloc (.deferred (some []))) (.loop (yn fn a3 w3.heap.size true))
    rwa[World.size_alloc]at this
   ·rw[dF _ _ (by rw[World.size_alloc];omega)]
    exact World.alloc_heap_new w3 _
  have hY:=qcM (nm:=nm) (Γe:=Γ) (we:=w) (bs:=bs3) (a:=a3) (fn:=fn) (l:=w3.heap.size+1) (D:=w3.heap.size) (by omega) hsz3 (by omega) hbl
  refine⟨_,_,_,{target:=.fn (.func QF) #[cv],args:=#[.func (.yield (w3.heap.size+1)) #[] #[]]},(w3.alloc (.deferred (some []))).alloc (.loop (yn fn a3 w3.heap.size true)),QF,#[.func (.yield (w3.heap.size+1)) #[] #[],cv],(w3.alloc (.deferred (some []))).alloc (.loop (yn fn a3 w3.heap.size true)),run_enterLoop_outer fn a3 #[10,11] (qcq XH) (qcr XH),?_,λ_ _=>trivial,?_,λhx=>by simp[Fence.wide]at hx,?_⟩
  ·have hvf':(Act.mk a3 []).eval (.tmp 9)=.func (.func QF) #[] #[cv]:=hvf
   simp only[resolve,hvf',Deferred.ofValue]
   simp[Act.eval]
   rfl
  ·simp[invoke,call157]
  ·refine(qbW qa6 hY sc hlen (n:=0 - 1) hq hJ (((hcv.mono l1 (.refl _)).mono l2 (.refl _)).clo (Ia sc))).mono ?_
   rintro e w4 ⟨⟨u,rfl⟩,Γ4,hle4,ow4,h4,tl4,tD4,hl4,hD4⟩
   refine⟨_,_,run_endLoop hl4 (by cases q.1<;>simp),?_⟩
   obtain⟨h5,hle5⟩:=h4.putOther (l:=w3.heap.size+1) (o:=.loop {yn fn a3 w3.heap.size q.1 with state:=.exhausted}) tl4 (.inr (show w.heap.size<=_ by omega)) (λc t fr e=>by rw[hl4]at e;cases e)
   have hD5:(w4.putObj (w3.heap.size+1) (.loop {yn fn a3 w3.heap.size q.1 with state:=.exhausted})).heap[w3.heap.size]? =some (.deferred (some [])):=(World.putObj_heap_other (by omega)).trans hD4
   generalize w4.putObj (w3.heap.size+1) (.loop {yn fn a3 w3.heap.size q.1 with state:=.exhausted})=w5 at h5 hle5 hD5
   have last:∀c:Code,d8 Pg GE 3 c (EX .ret (Vs nm r)) (Vs nm q.2)->∀Q:Exit->Act->World->Prop,(∀a w,bodyPostM Fence.wide 0 Pg f106 R .ret a w->Q .ret a w)->c.wpIn Fence.wide 0 Pg Q ⟨a3,[{target:=.collected w3.heap.size,args:=#[]}]⟩ w5:=λc hc Q hQ=>by
    refine wpIn_mono (wpIn_wide.2 (d8.on hc (by decide) h5 (by rw[hbl];decide) none [{target:=.collected w3.heap.size,args:=#[]}])) ?_
    rintro e ⟨a6,ds6⟩ w6 ⟨rfl,Γ6,bs6,ow6,st6,h6,⟨rfl,rfl⟩,hbs6,hle6,hsz6,hk6⟩
    obtain⟨k6,t6⟩:=hk6 _ (ip hD5) tD4
    have hD6:=k6.trans hD5
    obtain⟨h7,hle7⟩:=h6.putOther (l:=w3.heap.size) (o:=.deferred none) t6 (.inr hsz3) (λc t fr e=>by rw[hD6]at e;cases e)
    exact hQ _ _ ⟨by simp,.inl ⟨w3.heap.size,_,rfl,run_takeDeferred hD6,hfin h7⟩⟩
   rcases qaX h with⟨c3,h⟩|⟨c3,h⟩
   ·cases h
    have e3:(yn fn a3 w3.heap.size q.1).pending=none:=by show(if q.1=true then none else some Code.ret)=none;rw[c3];rfl
    rw[e3]
    exact last (.seq qdV .ret) (qd0 nm q.2) _ (λ_ _ hx=>hx)
   ·cases h
    have e3:(yn fn a3 w3.heap.size q.1).pending=some .ret:=by show(if q.1=true then none else some Code.ret)=some .ret;rw[c3];rfl
    rw[e3]
    exact last .ret (qaC nm q.2) _ (λ_ _ hx=>hx)
 rw[hvs]
 refine key _ λ{Γ6 bs6 ow6 a6 w6} h7=>?_
 have hS7:SR Pg ⟨GE,Γ,w,aN [] ow⟩ Γ6 bs6 ow6 w6 a6 (Vs nm r):={h7 with
  bn:=λi b hb=>(h7.bn i b hb).elim False.elim .inr
  on:=λb L hL=>⟨(h7.on b L hL).1,(h7.on b L hL).2.elim False.elim .inr⟩
  gx:=hS.gx
  step:={h7.step with keep:=λb hb _=>h7.step.keep b hb (λhx=>hx)}}
 obtain⟨vr,e1,e2,e3⟩:=nW hS7 (fn:=f106) (r:=.tuple [.str r.1,.bool r.2]) (by kernel_rfl)
 refine⟨vr,e1,vr,Γ6,wy (dj f106.results.toList) [] ow6,rfl,?_⟩
 have hf:=hS7.finish (H':=[]) (src:=dj f106.results.toList) (ro:=[]) e2 (aI vzz<|aI vzz vzz) trivial (λx hx=>by cases hx) (λx hx=>by cases hx)
 simpa using hf
end Go.Proofs.YtkdahfeiedaahaaGreatDoor
