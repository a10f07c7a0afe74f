/- PROVED: a part of the proof. Conditions: none. -/
import Derived.Test.YtggeppllafbidaaGreatDoorPkE8
import Derived.Shelf.Strconv.Itoa3
import Derived.Shelf.Sort.Plain
import Derived.Shelf.Slices.In.CompactS
import Derived.Shelf.Slices.In.SortNone
noncomputable section
namespace Go.Proofs.YtggeppllafbidaaGreatDoor
open Go Go.Sort Go.Proofs.Tryz
set_option maxRecDepth 100000
def MM(n:Int):Option ag:=if(decide (-9223372036854775808<=n)&&decide (n<=9223372036854775807))=true then some (Lib.itoa n)else none
theorem PK:gm=Lib.pow10Tab:=by kernel_rfl
theorem QX{n:Int}{r:ag}(h:MM n=some r):CC Pg GE 140 [.int .i64 n] (.str r) []:=by
 rcases aJ h with⟨b,h⟩|⟨b,h⟩
 ·obtain rfl:=lf h
  simp only[vag,vaj]at b
  refine CC.grownIS call140 fun E Γ bs ow w a st hE hS=>?_
  have htab:Lib.TabIs Pg w "internal/strconv.uint64pow10" .u64 Lib.pow10Tab:=SJ hS (g:=1) (by rw[hE,←PK];simp[GE]) (by kernel_rfl)
  refine(Any.strconv_Itoa Tryz.laysM171 n b.1 b.2 w htab).mono fun e w' he=>?_
  obtain⟨rfl,k,os,rfl⟩:=he
  exact⟨rfl,.of_grow _ _ _⟩
 ·cases h
theorem Kr{w:World}{b:Nat}{cur:Array Value}{e:TypeId}{l:List ag}(hh:w.heap[b]? =some (.cells cur e (0,0)))(ht:cur.toList.take l.length=l.map fun s=>Value.string ⟨s.toArray⟩):Holds encStr w b 0 l.toArray:=by
 intro j hj
 have hj':j<l.length:=by simpa using hj
 rw[vaE]
 refine⟨?_,frozen_of_row w b j cur e hh⟩
 rw[cell_of_row w b j cur e _ hh]
 have h1:(cur.toList.take l.length)[j]? =(l.map fun s=>Value.string ⟨s.toArray⟩)[j]?:=by rw[ht]
 rw[vao hj']at h1
 simp only[vaP,vav,vaa hj',vad]at h1
 rw[h1,getElem!_pos _ j hj]
 simp[encStr]
theorem Ic{w:World}{b n:Nat}{cur:Array Value}{e:TypeId}{os:Array Obj}(d l:List ag)(hh:w.heap[b]? =some (.cells cur e (0,0)))(hd:d.length<=cur.size)(hl:d.take l.length=l):(∀b',b'<w.heap.size->b'≠b->(grow (putRow encStr (Sort.ahead w n) b 0 d.toArray) os).heap[b']? =w.heap[b']?)/\w.heap.size<=(grow (putRow encStr (Sort.ahead w n) b 0 d.toArray) os).heap.size/\
   ∃cur',(grow (putRow encStr (Sort.ahead w n) b 0 d.toArray) os).heap[b]? =some (.cells cur' e (0,0))/\cur'.size=cur.size/\cur'.toList.take l.length=l.map fun s=>Value.string ⟨s.toArray⟩:=by
 have hb:b<w.heap.size:=(var.1 hh).1
 have hsz:(putRow encStr (Sort.ahead w n) b 0 d.toArray).heap.size=w.heap.size:=by simp[putRow,mapBlock,Sort.ahead]
 refine⟨fun b' h1 h2=>?_,?_,putCells encStr 0 d.toArray cur,?_,by simp[putCells],?_⟩
 ·show((putRow encStr (Sort.ahead w n) b 0 d.toArray).heap++os)[b']? =_
  rw[vaK (by rw[hsz];exact h1)]
  show(w.heap.modify b (onCells _))[b']? =_
  rw[vbU,vat (fun e=>h2 e.symm)]
 ·show _<=((putRow encStr (Sort.ahead w n) b 0 d.toArray).heap++os).size
  rw[Array.size_append,hsz];omega
 ·show((putRow encStr (Sort.ahead w n) b 0 d.toArray).heap++os)[b]? =_
  rw[vaK (by rw[hsz];exact hb)]
  show(w.heap.modify b (onCells _))[b]? =_
  rw[vbU,vap rfl,hh]
  rfl
 ·have hll:l.length<=d.length:=by have h0:=vbo List.length hl;rw[va3]at h0;omega
  refine vbf fun i=>?_
  by_cases hi:i<l.length
  ·have hdl:i<d.length:=by omega
   have hdi:d[i]=l[i]:=by
    have h1:(d.take l.length)[i]? =l[i]?:=by rw[hl]
    rw[vao hi,vaa hdl,vaa hi]at h1
    exact va0 h1
   rw[vao hi]
   simp only[vaP,putCells,Array.getElem?_mapIdx,vav,vaa hi,vad]
   have hc:cur[i]? =some (cur[i]'(by omega)):=va8 (by omega)
   rw[hc]
   simp only[vad]
   rw[vap ⟨vaI _,by simp;omega⟩,Nat.sub_zero,getElem!_pos _ i (by simpa using hdl)]
   simp[encStr,hdi]
  ·rw[vaz (by simp[putCells];omega),vaz (by simp;omega)]
theorem ls(l:List ag):(iN l).length=l.length:=by unfold iN;exact List.length_mergeSort _
theorem OG{n:Nat}(h:n<=dj):n<4611686018427387904:=by unfold dj at h;omega
theorem Rf:Oy Pg 107 9 (fun s=>Value.string ⟨s.toArray⟩) iN (fun _ _ _=>.tuple #[]):={
 call:=call107
 row:=fun w b cap cur l hh hc hl hm hla ht=>by
  have hlen:=OG hla
  refine(Any.slices_Sort_string Tryz.lays190 b 0 cap l w (Kr hh ht) ((var.1 hh).1) hlen).mono fun r w' hr=>?_
  obtain⟨rfl,n,os,rfl⟩:=hr
  obtain⟨k1,k2,cur',k3,k4,k5⟩:=Ic (n:=n) (os:=os) (iN l) (iN l) hh (by rw[ls];omega) (vbK)
  exact⟨rfl,by rw[ls];exact hl,rfl,rfl,rfl,k2,k1,cur',k3,by omega,k5⟩
 none:=fun w=>⟨by simp[iN],Any.slices_Sort_string_none Tryz.lays190 Option.none 0 w⟩}
theorem I2(l:List ag):(Lib.compact l++List.replicate (l.length - (Lib.compact l).length) []).take (Lib.compact l).length=Lib.compact l:=by simp
theorem Cx(l:List ag):(Lib.compact l).length<=l.length:=by
 unfold Lib.compact Lib.compactUpTo
 rw[vaU]
 exact vaV (vaQ _ _) (by simp)
theorem LK:Oy Pg 108 9 (fun s=>Value.string ⟨s.toArray⟩) Lib.compact (fun x k c=>.slice x k c):={
 call:=call108
 row:=fun w b cap cur l hh hc hl hm hla ht=>by
  have hlen:=OG hla
  refine(calls_of_every_depth fun D=>AnyS.slices_Compact_string_in Tryz.lays194 D b 0 cap l w (Kr hh ht) (by omega) hl).mono fun r w' hr=>?_
  obtain⟨rfl,q,rfl⟩:=hr
  have hcl:=Cx l
  obtain⟨k1,k2,cur',k3,k4,k5⟩:=Ic (n:=q) (os:=#[]) (Lib.compact l++List.replicate (l.length - (Lib.compact l).length) []) (Lib.compact l) hh (by simp;omega) (I2 l)
  rw[grow_empty]at k1 k2 k3
  exact⟨rfl,by omega,rfl,rfl,rfl,k2,k1,cur',k3,by omega,k5⟩
 none:=fun w=>⟨by rfl,calls_of_every_depth fun D=>AnyS.slices_Compact_string_empty_in Tryz.lays194 D Option.none 0 w⟩}
def kr(a b:List ag):Option (List ag):=(app ([]:List ag) a).bind fun l=>(app l b).bind fun l2=>some (Lib.compact (Fp l2))
noncomputable def Ls:Code:=f67.body.getD .skip
theorem VK:Pg.cellsOf 9=1:=by kernel_rfl
theorem Rk(l:List ag)(h:l.length<=dj):aL Pg GE 0 (cX Ls [true,true,false]) (EX .normal (eY 15 5 (iN l) 9)) (eY 15 5 l 9):=
 aL.inplace (t:=5) (d1:=11) (d2:=12) Rf VK h rfl rfl rfl rfl rfl rfl (by decide) (.inl ⟨rfl,ls l⟩)
theorem Rl(l:List ag)(h:l.length<=dj):aL Pg GE 0 (cX Ls [true,true,true,false]) (EX .normal (eY 15 4 (Lib.compact l) 9)) (eY 15 5 l 9):=
 aL.inplace3 (t:=5) (d1:=13) (d2:=14) LK VK h rfl rfl rfl rfl rfl rfl (by decide) (fun _ _ _=>rfl) rfl rfl rfl (by decide) (by decide)
theorem Qr{α:Type}{l r z:List α}(h:app l r=some z):z.length<=dj:=by
 unfold app at h
 split at h
 ·cases h;simpa using ‹_›
 ·cases h
theorem vA{a b:List ag}{r:List ag}(h:kr a b=some r):CC Pg GE 67 [sl cS a,sl cS b] (sl cS r) [(0,9)]:=by
 obtain⟨l,bl,h⟩:=ay h
 obtain⟨l2,bl2,h⟩:=ay h
 obtain rfl:=lf h
 rw[Kt]
 have h2:=Qr bl2
 have h3:(iN l2).length<=dj:=by rw[ls];exact h2
 exact C.ev (A:=[8,10]) mixed call67 func67 (c:=Ls) rfl (aI (aw ie a)<|aI (aw ie b) trivial)
  [.v (sl cS ([]:List ag)),.v (sl cS l),.v (sl cS l2),.pa 0,.pc (eY 15 5 l2 9) .normal (eY 15 5 (iN l2) 9),.pa 0,.pc (eY 15 5 (iN l2) 9) .normal (eY 15 4 (Lib.compact (iN l2)) 9)]
  (Eq.mp (by kernel_rfl) (aI (bh.mk' (v:=PVal.str) D8 ([]:List ag) 0 (by kernel_rfl))<|aI (bh.ap bl)<|aI (bh.ap bl2)<|aI (fr (eY 15 5 l2 9))<|aI (Rk l2 h2)<|
   aI (fr (eY 15 5 (iN l2) 9))<|aI (Rl (iN l2) h3)<|aI (rP (sl cS (Lib.compact (iN l2)))) (aw ie (Lib.compact (iN l2)))))
open Go Go.Proofs.Tryz
set_option linter.unusedVariables false
abbrev fB:Nat:=105
abbrev fW:Nat:=129
noncomputable def bW:Code:=f129.body.getD .skip
noncomputable def bB:Code:=f105.body.getD .skip
theorem HG(p:aa):CC Pg GE fB [.agg (ac p)] (.func (.func fW) [] [.eptr (ac p)]) []:=by
 have z:=se (bJ p)<|en (aI (rP (.func (.func fW) [] [.eptr (ac p)]))<|(aI trivial (aI (show i8 0 (ac p)from ah p) trivial)))
 exact C.evp (A:=[]) mixed call105 func105 (c:=bB) rfl (aI (ah p) trivial) z (by kernel_rfl)
theorem TK:bW=.region (Up bW) (jT bW) false:=by kernel_rfl
theorem TO:List.range (jT bW).size=[0,1]++2::([]:List Nat):=by kernel_rfl
theorem TM:[0,1].map (fun i=>(jT bW)[i]?)=((jT bW).toList.take 2).map some:=by kernel_rfl
theorem TN:((jT bW).toList.take 2).all FP=true:=by kernel_rfl
theorem UU:(jT bW)[2]? =some (MT bW 2):=by kernel_rfl
theorem UT:(MT bW 2).guard=none:=by kernel_rfl
theorem TL:(MT bW 2).op=.call {callee:=.value (.func fV),args:=#[.tmp 3,.tmp 4],argTypes:=SM (MT bW 2)}:=by kernel_rfl
theorem US:(MT bW 2).dst=some 5:=by kernel_rfl
theorem Sk(p:aa)(l:Nat):cz Pg GE [] (jT bW) (fun st=>FG st (aP 6 [(3,.agg (ac p)),(4,yv l)] [] [])) ((jT bW).toList.take 2) 0 (aP 6 [(0,yv l),(1,.eptr (ac p))] [] []):=by
 have z:=sv (aM p)<|en (fr (aP 6 [(3,.agg (ac p)),(4,yv l)] [] []))
 exact Ag z (by kernel_rfl)
section
variable{S:Type}{step:S->aa->Option (Bool×S)}{J:Bool->S->aS->World->Prop}{l:Nat}
theorem OM(hY:Yd Pg GE l ac step J)(p:aa){s:S}{r:Bool×S}{Γ:aS}{w:World}{v:Value}{n:Nat}(hv:Hy step p s=some r)(hJ:J true s Γ w)(hvr:VR Γ [] w (.eptr (ac p)) v):CallsIn Fence.wide n Pg fW #[.func (.yield l) #[] #[],v] w fun e w'=>(∃u,e=.returned u)/\∃Γ',Γ.Le w Γ' w'/\J r.1 r.2 Γ' w':=by
 refine callsIn_of_wp func129 (c:=bW) rfl trivial ?_
 have h0:VF J Γ w true s (aP 6 [(0,yv l),(1,.eptr (ac p))] [] []) (#[.func (.yield l) #[] #[],v]++Array.replicate 4 undef) w:=by
  refine⟨Γ,hJ,.refl _ _,_,_,_,(hY.base _ _ _ _ hJ).fresh 0 (tmps:=[yv l,.eptr (ac p)]++List.replicate 4 .undef) (by simp) fun t q u hq hu=>?_⟩
  by_cases ht:t<2
  ·rw[vac (by simpa using ht)]at hq
   rw[vaK (by simpa using ht)]at hu
   match t,ht with
   |0,_=>simp at hq hu;subst hq;subst hu;exact .val _
   |1,_=>simp at hq hu;subst hq;subst hu;exact hvr
  ·rw[vaf (by simpa using ht),vaO]at hq
   split at hq<;>cases hq
   exact .undef u
 show bW.wpIn Fence.wide n Pg _ ⟨_,[]⟩ w
 have d2:(PVal.eptr (ac p)).cl 0:=ah p
 have d3:(PVal.agg (ac p)).cl 0:=ah p
 have key:(Code.region (Up bW) (jT bW) false).wpIn Fence.wide n Pg (bodyPost Pg f129 fun e w'=>(∃u,e=.returned u)/\∃Γ',Γ.Le w Γ' w'/\J r.1 r.2 Γ' w') ⟨#[.func (.yield l) #[] #[],v]++Array.replicate 4 undef,[]⟩ w:=by
  refine wpIn_region ?_
  rw[TO]
  obtain⟨Γ1,hJ1,hle1,hS⟩:=VF.again hY (k:=0) (NB (L:=[(0,yv l),(1,.eptr (ac p))]) (by exact aI trivial<|aI d2 trivial) 0 rfl) h0
  refine wA (A:=[]) (K:=fun st=>FG st (aP 6 [(3,.agg (ac p)),(4,yv l)] [] [])) (fun Γ' bs' ow' a' w' st hS' hK=>?_) _ _ Γ1 _ _ _ w _ TM (BU TN) hS (Sk p l)
  obtain⟨Γ2,bs2,ow2,hS2⟩:=FG.sr hS' hK
  refine yS UU UT (VF.visitc hY (kA:=0) (stB:=aP 6 [(3,.agg (ac p)),(4,yv l),(5,.bool r.1)] [] []) (NB (by exact aI d3<|aI trivial trivial) 0 rfl) (K8 hY p) hv (y:=4) (x:=3) (d:=5) rfl rfl TL US rfl ⟨Γ2,hY.side _ _ _ _ hJ1 _ _ _ _ _ _ hS2,hle1.trans hS2.step.le,_,_,_,hS2⟩ fun a3 w3 h3=>?_)
  obtain⟨Γ3,hJ3,hle3,E,bs3,ow3,hS3⟩:=h3
  obtain⟨u,e1,_⟩:=ru hS3 (fn:=f129) (r:=.tuple []) (by kernel_rfl)
  exact⟨rfl,u,e1,⟨u,rfl⟩,Γ3,hle3,hJ3⟩
 rw[<-TK]at key
 exact key
end
abbrev WA:Nat:=64
noncomputable def Rv:Code:=f64.body.getD .skip
def Qc:Code->Code
 |.rangeFunc _ _ a _=>a
 |_=>.skip
def Qd:Code->Code
 |.rangeFunc _ _ _ b=>b
 |_=>.skip
abbrev VT:Code:=cX Rv [false]
abbrev VU:Code:=cX Rv [true,false]
abbrev VV:Code:=cX Rv [true,true,false,false]
abbrev Qb:Code:=cX Rv [true,true,false,true,false]
abbrev U3:Code:=cX Rv [true,true,true,false]
theorem Sj:Rv=.seq VT (.seq VU (.seq (.seq VV (.block 0 (.rangeFunc (.tmp 6) #[7] (Qc Qb) (Qd Qb)))) (.seq U3 .ret))):=by kernel_rfl
def mE(s:List ag)(x:aa):Option (Bool×List ag):=if(x.Op==3)=true then(app s [x.Name]).bind fun l=>some (true,l)else some (true,s)
def lP(p:aa):Option (List ag):=(Hy mE p []).bind fun q=>(kr q.2 []).bind fun r=>some r
abbrev P7(s:List ag):List aC:=[.dead,.cells [sl cS s] [(0,9)]]
abbrev Vb(s:List ag):ax:=aP 18 [(3,.bptr 1 0)] (P7 s) []
theorem WI(p:aa):aL Pg GE 0 VT (EX .normal (aP 18 [(1,.eptr (ac p))] [.dead] [])) (aP 18 [(0,.agg (ac p))] [] []):=by
 have z:=se (bJ p)<|eF .normal (aP 18 [(1,.eptr (ac p))] [.dead] [])
 exact dH (A:=[]) mixed z (by kernel_rfl)
theorem WJ(p:aa):aL Pg GE 0 VU (EX .normal (aP 18 [(1,.eptr (ac p)),(3,.bptr 1 0)] (P7 []) [])) (aP 18 [(1,.eptr (ac p))] [.dead] []):=by
 have z:=sx (show ja Pg 24=some [sl cS ([]:List ag)] by kernel_rfl)<|eF .normal (aP 18 [(1,.eptr (ac p)),(3,.bptr 1 0)] (P7 []) [])
 exact dH (A:=[]) mixed z (by kernel_rfl)
abbrev stR(p:aa):ax:=aP 18 [(3,.bptr 1 0),(6,.func (.func fW) [] [.eptr (ac p)])] (P7 []) []
theorem WK(p:aa):aL Pg GE 0 VV (EX .normal (stR p)) (aP 18 [(1,.eptr (ac p)),(3,.bptr 1 0)] (P7 []) []):=by
 have z:=sv (aM p)<|aX (HG p)<|eF .normal (stR p)
 exact dH (A:=[]) mixed z (by kernel_rfl)
abbrev Vc(s:List ag)(x:aa):ax:=aP 18 [(3,.bptr 1 0),(4,.bptr 2 0)] (P7 s++[.cells (JI x) []]) []
theorem WL(s:List ag)(x:aa):aL Pg GE 2 (Qc Qb) (EX .normal (Vc s x)) (aP 18 [(3,.bptr 1 0),(7,.agg (ac x))] (P7 s) []):=by
 have z:=sx fY<|sx (cb x)<|eF .normal (Vc s x)
 exact dH (A:=[]) mixed z (by kernel_rfl)
abbrev Vd(r:List ag):ax:=aP 18 [(3,.bptr 1 0)] (P7 r++[.dead]) []
theorem WM(s:List ag)(x:aa){r:Bool×List ag}(h:mE s x=some r):r.1=true/\aL Pg GE 2 (Qd Qb) (EX .normal (Vd r.2)) (Vc s x):=by
 unfold mE at h
 rcases aJ h with⟨c1,h⟩|⟨c1,h⟩
 ·obtain⟨l,bl,h⟩:=ay h
  cases h
  refine⟨rfl,?_⟩
  have z:=ss<|sg 0 c1<|ss<|sv (bh.mk' (v:=PVal.str) D8 ([x.Name]:List ag) 1 (by kernel_rfl))<|sv (bh.ap bl)<|eF .normal (Vd l)
  exact dH (A:=[11]) mixed z (by kernel_rfl)
 ·cases h
  refine⟨rfl,?_⟩
  have z:=ss<|sg 0 c1<|eF .normal (Vd s)
  exact dH (A:=[11]) mixed z (by kernel_rfl)
abbrev Ve(r:List ag):ax:=aP 18 [(2,sl cS r)] [.dead,.dead] [((2,0),9)]
theorem WN(s:List ag){r:List ag}(h:kr s []=some r):aL Pg GE 2 (.seq U3 .ret) (EX .ret (Ve r)) (Vb s):=by
 have z:=sv (show cw Pg 24 [sl cS s]=some (sl cS s) by kernel_rfl)<|aX (vA h)<|eF .ret (Ve r)
 exact dH (A:=[]) mixed z (by kernel_rfl)
abbrev y5(fn:FuncId)(a:Array Value)(D:Nat):Loop:={state:=.ready,pending:=none,fn:=fn,tmps:=a,params:=#[7],assign:=Qc Qb,body:=Qd Qb,defers:=D}
def JF(Γe:aS)(we:World)(bs:bv)(a:Array Value)(fn:FuncId)(l D:Nat)(b:Bool)(s:List ag)(Γ:aS)(w:World):Prop:=
 b=true/\∃ow,SR Pg (D0 GE Γe we) Γ bs ow w a (Vb s)/\¬bS bs ow l/\¬bS bs ow D/\w.heap[l]? =some (.loop (y5 fn a D))/\w.heap[D]? =some (.deferred (some []))
theorem cy{w:World}{b:Nat}{o:Obj}(h:w.heap[b]? =some o):b<w.heap.size:=(var.1 h).1
theorem Tp{Γe:aS}{we:World}{bs:bv}{a:Array Value}{fn:FuncId}{l D:Nat}(hl:we.heap.size<=l)(hD:we.heap.size<=D)(hne:D≠l)(hb:bs.length=2):Yd Pg GE l ac mE (JF Γe we bs a fn l D) where
 base:=fun b s Γ w ⟨_,ow,h,_⟩=>h.base
 side:=fun b s Γ w ⟨h0,ow,h,hTl,hTD,hhl,hhD⟩ Γ' bs' ow' w' a' st' h'=>
  ⟨h0,ow,h.aside h',hTl,hTD,(h'.step.keep l (cy hhl) id).1.trans hhl,(h'.step.keep D (cy hhD) id).1.trans hhD⟩
 yield:=fun s Γ w x v n r ⟨h0,ow,h,hTl,hTD,hhl,hhD⟩ hv hr=>by
  obtain⟨hr1,hS4⟩:=WM s x hr
  refine⟨_,_,_,_,run_yield hhl rfl,?_⟩
  have hz:(((#[7]:Array Tmp).zip #[v]).foldl (fun tmps (t,a)=>tmps.setIfInBounds t a) a)=a.setIfInBounds 7 v:=by simp
  show RoundIn Fence.wide n Pg l fn (((#[7]:Array Tmp).zip #[v]).foldl (fun tmps (t,a)=>tmps.setIfInBounds t a) a) (Qc Qb) (Qd Qb) w _
  rw[hz]
  have h7:SR Pg (D0 GE Γe we) Γ bs ow w (a.setIfInBounds 7 v) (aP 18 [(3,.bptr 1 0),(7,.agg (ac x))] (P7 s) []):=h.set (d:=7) (p:=.agg (ac x)) (hv.mono (.refl _ _) (fun i b hi=>by simp at hi))
  refine roundIn_of_wpIn trivial (wpIn_mono (aL.on (WL s x) (by decide) h7 (by rw[hb];decide) (some l) [] n) ?_)
  rintro e ⟨a1,ds1⟩ w1 ⟨rfl,Γ1,bs1,ow1,st1,h1,⟨rfl,rfl⟩,hbs1,hle1,hsz1,hk1⟩
  obtain⟨k1,t1⟩:=hk1 l (cy hhl) hTl
  obtain⟨k1D,t1D⟩:=hk1 D (cy hhD) hTD
  have hl1:=k1.trans hhl
  refine⟨_,run_beginRound hl1 rfl,?_⟩
  obtain⟨h1',hle1'⟩:=h1.putOther (l:=l) (o:=.loop {y5 fn a D with state:=.busy}) t1 (.inr hl) (fun c t fr e=>by rw[hl1]at e;cases e)
  have hb1:2<=bs1.length:=by have:=h1.bl;rw[this];exact vcu rfl
  refine wpIn_mono (aL.on hS4 (by decide) h1' hb1 (some l) [] n) ?_
  rintro e ⟨a2,ds2⟩ w2 ⟨rfl,Γ2,bs2,ow2,st2,h2,⟨rfl,rfl⟩,hbs2,hle2,hsz2,hk2⟩
  have hl1':(w1.putObj l (.loop {y5 fn a D with state:=.busy})).heap[l]? =some (.loop {y5 fn a D with state:=.busy}):=World.putObj_heap_same (cy hl1)
  have hD1':(w1.putObj l (.loop {y5 fn a D with state:=.busy})).heap[D]? =some (.deferred (some [])):=(World.putObj_heap_other hne).trans (k1D.trans hhD)
  obtain⟨k2,t2⟩:=hk2 l (cy hl1') t1
  obtain⟨k2D,t2D⟩:=hk2 D (cy hD1') t1D
  have hl2:=k2.trans hl1'
  refine⟨_,_,run_endRound none hl2,?_⟩
  obtain⟨h3,hle3⟩:=h2.putOther (l:=l) (o:=.loop {{y5 fn a D with state:=.busy}with state:=if(none:Option Code).isNone then .ready else .done,pending:=none}) t2 (.inr hl) (fun c t fr e=>by rw[hl2]at e;cases e)
  have hle:Γ.Le w Γ2 (w2.putObj l (.loop {{y5 fn a D with state:=.busy}with state:=if(none:Option Code).isNone then .ready else .done,pending:=none})):=((hle1.trans hle1').trans hle2).trans hle3
  obtain⟨ow3,h4,hT4⟩:=h.back rfl h3 hle (H':=P7 r.2) (fun i hi=>(hbs2 i (by omega)).trans (hbs1 i (by omega))) (by
   refine⟨trivial,⟨rfl,aI (up (aw ie r.2)) trivial,fun x hx=>hx⟩,trivial⟩) hb.symm
  refine⟨Γ2,by rw[hr1];rfl,hle,hr1,ow3,h4,fun hx=>t2 (hT4 l hx),fun hx=>t2D (hT4 D hx),?_,?_⟩
  ·exact World.putObj_heap_same (cy hl2)
  ·exact(World.putObj_heap_other hne).trans (k2D.trans hD1')
theorem Ak{p:aa}{r:List ag}(h:lP p=some r):CC Pg GE WA [.agg (ac p)] (sl cS r) [(0,9)]:=by
 obtain⟨q,hq,h⟩:=ay h
 obtain⟨r',hu,h⟩:=ay h
 cases h
 refine⟨aI (ah p) trivial,call64,fun Γ bs ow w vs hS=>(callsIn_wide (n:=0)).1 (callsIn_of_wp_marks func64 (c:=Rv) rfl trivial ?_)⟩
 obtain rfl:bs=[]:=vak hS.bl
 obtain⟨v,rfl⟩:∃v,vs=#[v]:=vbG.1 hS.sz
 have hB:GB GE Γ w:=hS.base
 have hE:zo GE 0 (D0 GE Γ w):=hB.good
 have hvr:VR Γ [] w (.agg (ac p)) v:=hS.tm 0 _ _ rfl rfl
 have h0:SR Pg (D0 GE Γ w) Γ [] (fun _=>none) w (#[v]++Array.replicate 17 undef) (aP 18 [(0,.agg (ac p))] [] []):=by
  refine hB.fresh (a:=#[v]++Array.replicate 17 undef) 0 (tmps:=[.agg (ac p)]++List.replicate 17 .undef) (by simp) fun t q u hq hu=>?_
  by_cases ht:t<1
  ·rw[vac (by simpa using ht)]at hq
   rw[vaK (by simpa using ht)]at hu
   match t,ht with
   |0,_=>simp at hq hu;subst hq;subst hu;exact hvr
  ·rw[vaf (by show 1<=t;omega),vaO]at hq
   split at hq<;>cases hq
   exact .undef u
 show Rv.wpIn Fence.wide 0 Pg _ ⟨#[v]++Array.replicate 17 undef,[]⟩ w
 rw[Sj]
 refine wpIn_seq (wpIn_mono (aL.wideE (WI p) hE h0 0 []) ?_)
 rintro e ⟨a1,ds1⟩ w1 ⟨rfl,Γ1,bs1,ow1,st1,h1,rfl,rfl⟩
 refine wpIn_seq (wpIn_mono (aL.wideE (WJ p) hE h1 0 []) ?_)
 rintro e ⟨a2,ds2⟩ w2 ⟨rfl,Γ2,bs2,ow2,st2,h2,rfl,rfl⟩
 refine wpIn_seq (wpIn_seq (wpIn_mono (aL.wideE (WK p) hE h2 0 []) ?_))
 rintro e ⟨a3,ds3⟩ w3 ⟨rfl,Γ3,bs3,ow3,st3,h3,rfl,rfl⟩
 have h6:=h3.opv [] (.tmp 6)
 have e6:opv (D0 GE Γ w).GE (stR p).tmps (.tmp 6)=.func (.func fW) [] [.eptr (ac p)]:=rfl
 rw[e6]at h6
 have hbl:bs3.length=2:=h3.bl
 refine wpIn_block (wpIn_rangeFunc fun fn _=>?_)
 obtain⟨g1,l1⟩:=h3.allocO (.deferred (some []))
 obtain⟨g2,l2⟩:=g1.allocO (.loop (y5 fn a3 w3.heap.size))
 have gF:=g2.forgetT (tm:=(Vb []).tmps) rfl
 have hsz3:w.heap.size<=w3.heap.size:=h3.step.size
 have htl:∀b,w3.heap.size<=b->¬bS bs3 ow3 b:=fun b hb hx=>by
  rcases hx with⟨i,hi⟩|hx
  ·have hil:i<(stR p).boxes.length:=by rw[<-h3.bl];exact aj hi
   have:=(h3.bx i b _ hi (vaa hil)).2.1
   omega
  ·cases hL:ow3 b with
   |none=>exact hx hL
   |some L=>have:=(h3.on b L hL).1;omega
 generalize hvf:(Act.mk a3 []).eval (.tmp 6)=vf at h6
 cases h6 with
 |func _ _ _ fs cs hl1 hl2 hf hc=>
 obtain rfl:fs=#[]:=vaW hl1
 obtain⟨cv,rfl⟩:∃v,cs=#[v]:=vbG.1 hl2
 have hcv:VR Γ3 bs3 w3 (.eptr (ac p)) cv:=hc 0 _ _ rfl rfl
 have hJ:JF Γ w bs3 a3 fn (w3.heap.size+1) w3.heap.size true [] Γ3 ((w3.alloc (.deferred (some []))).alloc (.loop (y5 fn a3 w3.heap.size))):=by
  refine⟨rfl,ow3,gF,htl _ (by omega),htl _ (van _),?_,?_⟩
  ·have:=World.alloc_heap_new (w3.alloc (.deferred (some []))) (.loop (y5 fn a3 w3.heap.size))
   rwa[World.size_alloc]at this
  ·rw[cP _ _ (by rw[World.size_alloc];omega)]
   exact World.alloc_heap_new w3 _
 have hY:=Tp (Γe:=Γ) (we:=w) (bs:=bs3) (a:=a3) (fn:=fn) (l:=w3.heap.size+1) (D:=w3.heap.size) (by omega) hsz3 (by omega) hbl
 refine⟨_,_,_,{target:=.fn (.func fW) #[cv],args:=#[.func (.yield (w3.heap.size+1)) #[] #[]]},(w3.alloc (.deferred (some []))).alloc (.loop (y5 fn a3 w3.heap.size)),fW,#[.func (.yield (w3.heap.size+1)) #[] #[],cv],(w3.alloc (.deferred (some []))).alloc (.loop (y5 fn a3 w3.heap.size)),run_enterLoop_outer fn a3 #[7] (Qc Qb) (Qd Qb),?_,fun _ _=>trivial,?_,fun hx=>by simp[Fence.wide]at hx,?_⟩
 ·have hvf':(Act.mk a3 []).eval (.tmp 6)=.func (.func fW) #[] #[cv]:=hvf
  simp only[resolve,hvf',Deferred.ofValue]
  simp[Act.eval]
 ·simp[invoke,call129]
 ·refine(OM hY p (n:=0 - 1) hq hJ (((hcv.mono l1 (.refl _)).mono l2 (.refl _)).clo (show i8 0 (ac p)from ah p))).mono ?_
  rintro e w4 ⟨⟨u,rfl⟩,Γ4,hle4,hq1,ow4,h4,tl4,tD4,hl4,hD4⟩
  refine⟨none,_,run_endLoop hl4 (by simp),?_⟩
  obtain⟨h5,hle5⟩:=h4.putOther (l:=w3.heap.size+1) (o:=.loop {y5 fn a3 w3.heap.size with state:=.exhausted}) tl4 (.inr (show w.heap.size<=_ by omega)) (fun c t fr e=>by rw[hl4]at e;cases e)
  have hD5:(w4.putObj (w3.heap.size+1) (.loop {y5 fn a3 w3.heap.size with state:=.exhausted})).heap[w3.heap.size]? =some (.deferred (some [])):=(World.putObj_heap_other (by omega)).trans hD4
  generalize w4.putObj (w3.heap.size+1) (.loop {y5 fn a3 w3.heap.size with state:=.exhausted})=w5 at h5 hle5 hD5
  show(Code.seq U3 .ret).wpIn Fence.wide 0 Pg _ ⟨a3,[{target:=.collected w3.heap.size,args:=#[]}]⟩ w5
  refine wpIn_mono (wpIn_wide.2 (aL.on (WN q.2 hu) (by decide) h5 (by rw[hbl];decide) none [{target:=.collected w3.heap.size,args:=#[]}])) ?_
  rintro e ⟨a6,ds6⟩ w6 ⟨rfl,Γ6,bs6,ow6,st6,h6,⟨rfl,rfl⟩,hbs6,hle6,hsz6,hk6⟩
  obtain⟨k6,t6⟩:=hk6 _ (cy hD5) tD4
  have hD6:=k6.trans hD5
  obtain⟨h7,hle7⟩:=h6.putOther (l:=w3.heap.size) (o:=.deferred none) t6 (.inr hsz3) (fun c t fr e=>by rw[hD6]at e;cases e)
  refine⟨by simp,.inl ⟨w3.heap.size,_,rfl,run_takeDeferred hD6,?_⟩⟩
  have hS7:SR Pg ⟨GE,Γ,w,bS [] ow⟩ Γ6 bs6 ow6 (w6.putObj w3.heap.size (.deferred none)) a6 (Ve r):={h7 with
   bn:=fun i b hb=>(h7.bn i b hb).elim False.elim .inr
   on:=fun b L hL=>⟨(h7.on b L hL).1,(h7.on b L hL).2.elim False.elim .inr⟩
   gx:=hS.gx
   step:={h7.step with keep:=fun b hb _=>h7.step.keep b hb (fun hx=>hx)}}
  obtain⟨vr,e1,e2,e3⟩:=ru hS7 (fn:=f64) (r:=sl cS r) (by kernel_rfl)
  refine⟨vr,e1,vr,Γ6,zK (ei f64.results.toList) [(0,9)] ow6,rfl,?_⟩
  have hrs:f64.results.toList=[.tmp 2]:=by kernel_rfl
  have hf:=hS7.finish (H':=[]) (src:=ei f64.results.toList) (ro:=[(0,9)]) e2 (aw ie r) trivial (fun x hx=>by
   simp only[vaJ]at hx
   subst hx
   refine⟨?_,fun u v'=>e3 0 u v' ?_⟩
   ·rw[hrs];exact vaJ.2 rfl
   ·rw[hrs];trivial) (fun x hx y hy _=>by
   simp only[vaJ]at hx hy
   rw[hx,hy])
  simpa using hf
theorem HN:lB Pg 72 9:=Ns Tryz.lc72 rfl rfl (by kernel_rfl) call72
theorem LG{l r:List ag}(h:vj l=some r):CC Pg GE 72 [sl cS l] (sl cS r) [(0,9)]:=bh.cloneCC HN h
abbrev qM:=(waC->Option Bool)
abbrev wa(R:qM):Prop:=∀(a:waC) (r:Bool),R a=some r->CC Pg GE 8 [sl af a] (.bool r) []
abbrev pK:=(ae->Option Int)
abbrev ua(R:pK):Prop:=∀(t:ae) (r:Int),R t=some r->CC Pg GE 42 [.agg (af t)] (.int .i64 r) []
noncomputable def UL:Code:=f42.body.getD .skip
def Uw:List Nat:=[18]
section
variable(R3:pK)(t7:waC)(t8:Int)(k:Int)(t9:Int)
def iD:ax:=aP 19 [(3,.int .i64 k),(7,sl af t7),(8,.int .i64 t8),(9,.int .i64 t9)] [.dead] []
def oq(o:Int):ax:=aP 19 [(3,.int .i64 o)] [.dead] []
def u9:Option ((Int×Int)⊕(Int)):=
 if(decide (t9<t8))=true then
  (dT t7 t9).bind fun x2=>
  (R3 x2).bind fun r3=>
  some (.inl (bL (k+r3),bL (t9+1)))
 else
  some (.inr k)
def sG:Option Int:=loop (fun(zz:Int×Int)=>u9 R3 t7 t8 zz.1 zz.2) (k,t9)
theorem Bo(hR3:ua R3){y:(Int×Int)⊕(Int)}(h:u9 R3 t7 t8 k t9=some y):aL Pg GE 0 (cA UL 119) (LQ (fun(zz:Int×Int)=>iD t7 t8 zz.1 zz.2) (fun _=>.exit 0) oq y) (iD t7 t8 k t9):=by
 rcases aJ h with⟨c1,h⟩|⟨c1,h⟩
 ·obtain⟨x2,bx2,h⟩:=ay h
  obtain⟨r3,br3,h⟩:=ay h
  obtain rfl:=lf h
  have z:=sg 0 c1<|sv (cO.ia (k:=.i64) bx2)<|sv (aV x2)<|sx jc<|sx (cQ x2)<|sv (bw x2 [])<|aX (hR3 _ _ br3)<|pq 0 .normal (iD t7 t8 (bL (k+r3)) (bL (t9+1))) rfl (cG (aI trivial (aI (up (aw al t7)) (aI trivial (aI trivial trivial))))) (aI trivial trivial)
  exact cJ (A:=Uw) mixed z<|by kernel_rfl
 ·obtain rfl:=lf h
  have z:=sg 0 c1<|eF (.exit 0) (oq k)
  exact fG Uw (by intro hx;cases hx) z<|by kernel_rfl
theorem Dq(hR3:ua R3){x:Int}(h:sG R3 t7 t8 k t9=some x):aL Pg GE 0 (.loop (cA UL 119)) (EX (.exit 0) (oq x)) (iD t7 t8 k t9):=
 aL.loop (S:=fun(zz:Int×Int)=>iD t7 t8 zz.1 zz.2) (ex:=(fun _=>.exit 0)) (s:=(k,t9)) h fun zz y hy=>Bo R3 t7 t8 zz.1 zz.2 hR3 hy
end
def pL(R3:pK)(t:ae):Option Int:=
 (sG R3 t.Args (t.Args.length:Int) 1 0).bind fun o4=>
 some o4
theorem G7(R3:pK)(hR3:ua R3){t:ae}{r:Int}(h:pL R3 t=some r):CC Pg GE 42 [.agg (af t)] (.int .i64 r) []:=by
 obtain⟨o4,bo4,h⟩:=ay h
 obtain rfl:=lf h
 have z:=se (bR t)<|sv (aA t)<|sv (aB t)<|cf (cO.ln t.Args)<|ct (Dq R3 t.Args (t.Args.length:Int) 1 0 hR3 bo4)<|en (aI (rP (.int .i64 o4))<|trivial)
 exact bo Uw call42 func42 (c:=UL) rfl (aI (al t) trivial) z<|by kernel_rfl
def u7:(ae->Option Int)->(ae)->Option Int:=fun(rec:ae->Option Int) (x:ae)=>pL (fun t=>rec t) x
def Bn(t:ae):Option Int:=lH u7 t
theorem IP{t:ae}{r:Int}(h:Bn t=some r):CC Pg GE 42 [.agg (af t)] (.int .i64 r) []:=
 cC (F:=u7) (M:=fun(x:ae) (r:Int)=>CC Pg GE 42 [.agg (af x)] (.int .i64 r) []) (fun rec hrec x r h=>G7 _ (fun t r h=>hrec t r h) h) h
abbrev pI:=(aa->Option Int)
abbrev tY(R:pI):Prop:=∀(p:aa) (r:Int),R p=some r->CC Pg GE 17 [.agg (ac p)] (.int .i64 r) []
noncomputable def UI:Code:=f17.body.getD .skip
def Uu:List Nat:=[18]
section
variable(R4:pI)(t7:waB)(t8:Int)(n:Int)(t9:Int)
def iw:ax:=aP 19 [(3,.int .i64 n),(7,sl ac t7),(8,.int .i64 t8),(9,.int .i64 t9)] [.dead] []
def ol(o:Int):ax:=aP 19 [(3,.int .i64 o)] [.dead] []
def kL:Option ((Int×Int)⊕(Int)):=
 if(decide (t9<t8))=true then
  (dT t7 t9).bind fun x2=>
  (R4 x2).bind fun r3=>
  some (.inl (bL (n+r3),bL (t9+1)))
 else
  some (.inr n)
def rZ:Option Int:=loop (fun(zz:Int×Int)=>kL R4 t7 t8 zz.1 zz.2) (n,t9)
theorem Bj(hR4:tY R4){y:(Int×Int)⊕(Int)}(h:kL R4 t7 t8 n t9=some y):aL Pg GE 0 (cA UI 119) (LQ (fun(zz:Int×Int)=>iw t7 t8 zz.1 zz.2) (fun _=>.exit 0) ol y) (iw t7 t8 n t9):=by
 rcases aJ h with⟨c1,h⟩|⟨c1,h⟩
 ·obtain⟨x2,bx2,h⟩:=ay h
  obtain⟨r3,br3,h⟩:=ay h
  obtain rfl:=lf h
  have z:=sg 0 c1<|sv (aZ.ia (k:=.i64) bx2)<|sv (aM x2)<|sx fY<|sx (cb x2)<|sv (bj x2 [])<|aX (hR4 _ _ br3)<|pq 0 .normal (iw t7 t8 (bL (n+r3)) (bL (t9+1))) rfl (cG (aI trivial (aI (up (aw ah t7)) (aI trivial (aI trivial trivial))))) (aI trivial trivial)
  exact cJ (A:=Uu) mixed z<|by kernel_rfl
 ·obtain rfl:=lf h
  have z:=sg 0 c1<|eF (.exit 0) (ol n)
  exact fG Uu (by intro hx;cases hx) z<|by kernel_rfl
theorem Df(hR4:tY R4){x:Int}(h:rZ R4 t7 t8 n t9=some x):aL Pg GE 0 (.loop (cA UI 119)) (EX (.exit 0) (ol x)) (iw t7 t8 n t9):=
 aL.loop (S:=fun(zz:Int×Int)=>iw t7 t8 zz.1 zz.2) (ex:=(fun _=>.exit 0)) (s:=(n,t9)) h fun zz y hy=>Bj R4 t7 t8 zz.1 zz.2 hR4 hy
end
def pB(R4:pI)(p:aa):Option Int:=
 (rZ R4 p.Kids (p.Kids.length:Int) 1 0).bind fun o4=>
 some o4
theorem GO(R4:pI)(hR4:tY R4){p:aa}{r:Int}(h:pB R4 p=some r):CC Pg GE 17 [.agg (ac p)] (.int .i64 r) []:=by
 obtain⟨o4,bo4,h⟩:=ay h
 obtain rfl:=lf h
 have z:=se (bJ p)<|sv (aG p)<|sv (aH p)<|cf (aZ.ln p.Kids)<|ct (Df R4 p.Kids (p.Kids.length:Int) 1 0 hR4 bo4)<|en (aI (rP (.int .i64 o4))<|trivial)
 exact bo Uu call17 func17 (c:=UI) rfl (aI (ah p) trivial) z<|by kernel_rfl
def uv:(aa->Option Int)->(aa)->Option Int:=fun(rec:aa->Option Int) (x:aa)=>pB (fun p=>rec p) x
def nS(p:aa):Option Int:=lH uv p
theorem nu{p:aa}{r:Int}(h:nS p=some r):CC Pg GE 17 [.agg (ac p)] (.int .i64 r) []:=
 cC (F:=uv) (M:=fun(x:aa) (r:Int)=>CC Pg GE 17 [.agg (ac x)] (.int .i64 r) []) (fun rec hrec x r h=>GO _ (fun p r h=>hrec p r h) h) h
noncomputable def b8:Code:=Tryz.f8.body.getD .skip
def A8:List Nat:=[]
section
variable(R2:qM)(t7:waC)(t8:Int)(t9:Int)(m:Int)(m2:ag)(m3:waC)(m4:waA)(m5:Int)(m6:ag)(m7:Int)(m8:waB)(m9:waB)
def IR:ax:=aP 52 [(4,.bptr 0 0),(7,sl af t7),(8,.int .i64 t8),(9,.int .i64 t9)] [.cells [.int .i64 m,.str m2,sl af m3,sl cS m4,.int .i64 m5,.str m6,.int .i64 m7,sl ac m8,sl ac m9] []] []
def iS(o:Bool):ax:=aP 52 [(4,.bptr 0 0),(7,sl af t7),(8,.int .i64 t8),(9,.int .i64 t9),(39,.bool o)] [.cells [.int .i64 m,.str m2,sl af m3,sl cS m4,.int .i64 m5,.str m6,.int .i64 m7,sl ac m8,sl ac m9] []] []
def yx:Option Bool:=
 (Bn (⟨m,m2,m3,m4,(⟨m5,m6,m7,m8⟩:aa),m9⟩:ae)).bind fun r3=>
 if(decide (r3>40))=true then
  some true
 else
  (nS (⟨m5,m6,m7,m8⟩:aa)).bind fun r6=>
  if(decide (r6>60))=true then
   some true
  else
   if(decide ((m4.length:Int)>20))=true then
    some true
   else
    if(decide ((m9.length:Int)>20))=true then
     some true
    else
     (R2 m3).bind fun r13=>
     some (!r13)
theorem G8(hR2:wa R2){x:Bool}(h:yx R2 m m2 m3 m4 m5 m6 m7 m8 m9=some x):aL Pg GE 0 (cA b8 7148) (EX .normal (iS t7 t8 t9 m m2 m3 m4 m5 m6 m7 m8 m9 x)) (IR t7 t8 t9 m m2 m3 m4 m5 m6 m7 m8 m9):=by
 obtain⟨r3,br3,h⟩:=ay h
 have p5:=fun{sc F} (r:PS sc F)=>sv (bw (⟨m,m2,m3,m4,(⟨m5,m6,m7,m8⟩:aa),m9⟩:ae) [])<|aX (IP br3)<|r
 rcases aJ h with⟨c4,h⟩|⟨c4,h⟩
 ·obtain rfl:=lf h
  exact bm A8 (p5<|sg 4 c4<|eF .normal (iS t7 t8 t9 m m2 m3 m4 m5 m6 m7 m8 m9 true))<|by kernel_rfl
 ·obtain⟨r6,br6,h⟩:=ay h
  have p8:=fun{sc F} (r:PS sc F)=>p5<|sg 4 c4<|sv (bj (⟨m5,m6,m7,m8⟩:aa) [sl ac m9])<|aX (nu br6)<|r
  rcases aJ h with⟨c7,h⟩|⟨c7,h⟩
  ·obtain rfl:=lf h
   exact bm A8 (p8<|sg 10 c7<|eF .normal (iS t7 t8 t9 m m2 m3 m4 m5 m6 m7 m8 m9 true))<|by kernel_rfl
  ·have p10:=fun{sc F} (r:PS sc F)=>p8<|sg 10 c7<|ss<|cf (bh.ln m4)<|r
   rcases aJ h with⟨c9,h⟩|⟨c9,h⟩
   ·obtain rfl:=lf h
    exact bm A8 (p10<|sg 16 c9<|eF .normal (iS t7 t8 t9 m m2 m3 m4 m5 m6 m7 m8 m9 true))<|by kernel_rfl
   ·have p12:=fun{sc F} (r:PS sc F)=>p10<|sg 16 c9<|ss<|cf (aZ.ln m9)<|r
    rcases aJ h with⟨c11,h⟩|⟨c11,h⟩
    ·obtain rfl:=lf h
     exact bm A8 (p12<|sg 22 c11<|eF .normal (iS t7 t8 t9 m m2 m3 m4 m5 m6 m7 m8 m9 true))<|by kernel_rfl
    ·obtain⟨r13,br13,h⟩:=ay h
     obtain rfl:=lf h
     exact bm A8 (p12<|sg 22 c11<|ss<|aX (hR2 _ _ br13)<|eF .normal (iS t7 t8 t9 m m2 m3 m4 m5 m6 m7 m8 m9 (!r13)))<|by kernel_rfl
end
section
variable(t7:waC)(t8:Int)(t9:Int)(t41:waB)(t42:Int)(m:Int)(m2:ag)(m3:waC)(m4:waA)(m5:Int)(m6:ag)(m7:Int)(m8:waB)(t43:Int)
def kP:ax:=aP 52 [(7,sl af t7),(8,.int .i64 t8),(9,.int .i64 t9),(41,sl ac t41),(42,.int .i64 t42),(43,.int .i64 t43)] [.cells [.int .i64 m,.str m2,sl af m3,sl cS m4,.int .i64 m5,.str m6,.int .i64 m7,sl ac m8,sl ac t41] []] []
def kQ(o:Unit⊕(Unit)):Exit:=match o with
 |(.inl _)=>.ret
 |(.inr _)=>.exit 2
def iU(o:Unit⊕(Unit)):ax:=match o with
 |(.inl o)=>aP 52 [(2,.bool false)] [.cells [.int .i64 m,.str m2,sl af m3,sl cS m4,.int .i64 m5,.str m6,.int .i64 m7,sl ac m8,sl ac t41] []] []
 |(.inr o)=>aP 52 [(7,sl af t7),(8,.int .i64 t8),(9,.int .i64 t9)] [.cells [.int .i64 m,.str m2,sl af m3,sl cS m4,.int .i64 m5,.str m6,.int .i64 m7,sl ac m8,sl ac t41] []] []
def zB:Option (Int⊕(Unit⊕(Unit))):=
 if(decide (t43<t42))=true then
  (dT t41 t43).bind fun x18=>
  (nS x18).bind fun r19=>
  if(decide (r19>60))=true then
   some (.inr (.inl ()))
  else
   some (.inl (bL (t43+1)))
 else
  some (.inr (.inr ()))
def yz:Option (Unit⊕(Unit)):=loop (fun(zz:Int)=>zB t41 t42 zz) t43
theorem EY{y:Int⊕(Unit⊕(Unit))}(h:zB t41 t42 t43=some y):aL Pg GE 0 (cA b8 28607) (LQ (fun(zz:Int)=>kP t7 t8 t9 t41 t42 m m2 m3 m4 m5 m6 m7 m8 zz) kQ (iU t7 t8 t9 t41 m m2 m3 m4 m5 m6 m7 m8) y) (kP t7 t8 t9 t41 t42 m m2 m3 m4 m5 m6 m7 m8 t43):=by
 rcases aJ h with⟨c17,h⟩|⟨c17,h⟩
 ·obtain⟨x18,bx18,h⟩:=ay h
  obtain⟨r19,br19,h⟩:=ay h
  have p21:=fun{sc F} (r:PS sc F)=>sg 0 c17<|sv (aZ.ia (k:=.i64) bx18)<|sv (aM x18)<|sx fY<|sx (cb x18)<|sv (bj x18 [])<|aX (nu br19)<|r
  rcases aJ h with⟨c20,h⟩|⟨c20,h⟩
  ·obtain rfl:=lf h
   have z:=p21<|sg 0 c20<|pq 0 (kQ (.inl ())) (iU t7 t8 t9 t41 m m2 m3 m4 m5 m6 m7 m8 (.inl ())) rfl (cG (aI trivial trivial)) (aI (aI trivial (aI trivial (aI (up (aw al m3)) (aI (up (aw ie m4)) (aI trivial (aI trivial (aI trivial (aI (up (aw ah m8)) (aI (up (aw ah t41)) trivial))))))))) trivial)
   exact oM (A:=A8) mixed (by intro hx;cases hx) z<|by kernel_rfl
  ·obtain rfl:=lf h
   have z:=p21<|sg 0 c20<|pq 0 .normal (kP t7 t8 t9 t41 t42 m m2 m3 m4 m5 m6 m7 m8 (bL (t43+1))) rfl (cG (aI (up (aw al t7)) (aI trivial (aI trivial (aI (up (aw ah t41)) (aI trivial (aI trivial trivial))))))) (aI (aI trivial (aI trivial (aI (up (aw al m3)) (aI (up (aw ie m4)) (aI trivial (aI trivial (aI trivial (aI (up (aw ah m8)) (aI (up (aw ah t41)) trivial))))))))) trivial)
   exact cJ (A:=A8) mixed z<|by kernel_rfl
 ·obtain rfl:=lf h
  have z:=sg 0 c17<|eF (kQ (.inr ())) (iU t7 t8 t9 t41 m m2 m3 m4 m5 m6 m7 m8 (.inr ()))
  exact fG A8 (by intro hx;cases hx) z<|by kernel_rfl
theorem xm{x:Unit⊕(Unit)}(h:yz t41 t42 t43=some x):aL Pg GE 0 (.loop (cA b8 28607)) (EX (kQ x) (iU t7 t8 t9 t41 m m2 m3 m4 m5 m6 m7 m8 x)) (kP t7 t8 t9 t41 t42 m m2 m3 m4 m5 m6 m7 m8 t43):=
 aL.loop (S:=fun(zz:Int)=>kP t7 t8 t9 t41 t42 m m2 m3 m4 m5 m6 m7 m8 zz) (ex:=kQ) (s:=t43) h fun zz y hy=>EY t7 t8 t9 t41 t42 m m2 m3 m4 m5 m6 m7 m8 zz hy
end
section
variable(R2:qM)(t7:waC)(t8:Int)(t9:Int)
def kO:ax:=aP 52 [(7,sl af t7),(8,.int .i64 t8),(9,.int .i64 t9)] [] []
def iT(o:Unit⊕(Unit)):Exit:=match o with
 |(.inl _)=>.ret
 |(.inr _)=>.exit 0
def gf(o:Unit⊕(Unit)):ax:=match o with
 |(.inl o)=>aP 52 [(2,.bool false)] [] []
 |(.inr o)=>aP 52 [] [] []
def zA:Option (Int⊕(Unit⊕(Unit))):=
 if (decide (t9 < t8)) = true then
  (dT t7 t9).bind fun x2=>
  (yx R2 x2.Op x2.Name x2.Args x2.Names x2.Pred.Op x2.Pred.Name x2.Pred.N x2.Pred.Kids x2.Preds).bind fun o14=>
  if o14=true then
   some (.inr (.inl ()))
  else
   (yz x2.Preds (x2.Preds.length:Int) 0).bind fun o22=>match o22 with
   |(.inl o22)=>
    some (.inr (.inl ()))
   |(.inr o22)=>
    some (.inl (bL (t9+1)))
 else
  some (.inr (.inr ()))
def yy:Option (Unit⊕(Unit)):=loop (fun(zz:Int)=>zA R2 t7 t8 zz) t9
theorem EW(hR2:wa R2){y:Int⊕(Unit⊕(Unit))}(h:zA R2 t7 t8 t9=some y):aL Pg GE 0 (cA b8 55) (LQ (fun(zz:Int)=>kO t7 t8 zz) iT gf y) (kO t7 t8 t9):=by
 rcases aJ h with⟨c1,h⟩|⟨c1,h⟩
 ·obtain⟨x2,bx2,h⟩:=ay h
  obtain⟨o14,bo14,h⟩:=ay h
  have p16:=fun{sc F} (r:PS sc F)=>sg 0 c1<|sv (cO.ia (k:=.i64) bx2)<|sv (aV x2)<|sx jc<|sx (cQ x2)<|iO 1<|ct (G8 R2 t7 t8 t9 x2.Op x2.Name x2.Args x2.Names x2.Pred.Op x2.Pred.Name x2.Pred.N x2.Pred.Kids x2.Preds hR2 bo14)<|r
  rcases aJ h with⟨c15,h⟩|⟨c15,h⟩
  ·obtain rfl:=lf h
   have z:=p16<|sg 0 c15<|pq 0 (iT (.inl ())) (gf (.inl ())) rfl (cG (aI trivial trivial)) trivial
   exact oM (A:=A8) mixed (by intro hx;cases hx) z<|by kernel_rfl
  ·obtain⟨o22,bo22,h⟩:=ay h
   rcases o22 with o22|o22
   ·obtain rfl:=lf h
    have z:=p16<|sg 0 c15<|ss<|cf (aZ.ln x2.Preds)<|ct (e:=.ret) (s1:=iU t7 t8 t9 x2.Preds x2.Op x2.Name x2.Args x2.Names x2.Pred.Op x2.Pred.Name x2.Pred.N x2.Pred.Kids (.inl o22)) (xm t7 t8 t9 x2.Preds (x2.Preds.length:Int) x2.Op x2.Name x2.Args x2.Names x2.Pred.Op x2.Pred.Name x2.Pred.N x2.Pred.Kids 0 bo22)<|pq 0 (iT (.inl ())) (gf (.inl ())) rfl (cG (aI trivial trivial)) trivial
    exact oM (A:=A8) mixed (by intro hx;cases hx) z<|by kernel_rfl
   ·obtain rfl:=lf h
    have z:=p16<|sg 0 c15<|ss<|cf (aZ.ln x2.Preds)<|ct (e:=.exit 2) (s1:=iU t7 t8 t9 x2.Preds x2.Op x2.Name x2.Args x2.Names x2.Pred.Op x2.Pred.Name x2.Pred.N x2.Pred.Kids (.inr o22)) (xm t7 t8 t9 x2.Preds (x2.Preds.length:Int) x2.Op x2.Name x2.Args x2.Names x2.Pred.Op x2.Pred.Name x2.Pred.N x2.Pred.Kids 0 bo22)<|pq 0 .normal (kO t7 t8 (bL (t9+1))) rfl (cG (aI (up (aw al t7)) (aI trivial (aI trivial trivial)))) trivial
    exact cJ (A:=A8) mixed z<|by kernel_rfl
 ·obtain rfl:=lf h
  have z:=sg 0 c1<|eF (iT (.inr ())) (gf (.inr ()))
  exact fG A8 (by intro hx;cases hx) z<|by kernel_rfl
theorem xl(hR2:wa R2){x:Unit⊕(Unit)}(h:yy R2 t7 t8 t9=some x):aL Pg GE 0 (.loop (cA b8 55)) (EX (iT x) (gf x)) (kO t7 t8 t9):=
 aL.loop (S:=fun(zz:Int)=>kO t7 t8 zz) (ex:=iT) (s:=t9) h fun zz y hy=>EW R2 t7 t8 zz hR2 hy
end
def wk(R2:qM)(a:waC):Option Bool:=
 (yy R2 a (a.length:Int) 0).bind fun o23=>match o23 with
 |(.inl o23)=>
  some false
 |(.inr o23)=>
  some true
theorem J3(R2:qM)(hR2:wa R2){a:waC}{r:Bool}(h:wk R2 a=some r):CC Pg GE 8 [sl af a] (.bool r) []:=by
 obtain⟨o23,bo23,h⟩:=ay h
 rcases o23 with o23|o23
 ·obtain rfl:=lf h
  have z:=cf (cO.ln a)<|ct (e:=.ret) (s1:=gf (.inl o23)) (xl R2 a (a.length:Int) 0 hR2 bo23)<|en (aI (rP (.bool false))<|trivial)
  exact bo A8 call8 func8 (c:=b8) rfl (aI (aw al a) trivial) z<|by kernel_rfl
 ·obtain rfl:=lf h
  have z:=cf (cO.ln a)<|ct (e:=.exit 0) (s1:=gf (.inr o23)) (xl R2 a (a.length:Int) 0 hR2 bo23)<|en (aI (rP (.bool true))<|trivial)
  exact bo A8 call8 func8 (c:=b8) rfl (aI (aw al a) trivial) z<|by kernel_rfl
def Bp:(waC->Option Bool)->(waC)->Option Bool:=fun(rec:waC->Option Bool) (x:waC)=>wk (fun a=>rec a) x
def IQ(a:waC):Option Bool:=lH Bp a
theorem Lk{a:waC}{r:Bool}(h:IQ a=some r):CC Pg GE 8 [sl af a] (.bool r) []:=
 cC (F:=Bp) (M:=fun(x:waC) (r:Bool)=>CC Pg GE 8 [sl af x] (.bool r) []) (fun rec hrec x r h=>J3 _ (fun a r h=>hrec a r h) h) h
noncomputable def Wn:Code:=f44.body.getD .skip
def V8:List Nat:=[]
def mw(s:ag):Option aa:=
 some (⟨3,s,0,([]:List aa)⟩:aa)
theorem ej{s:ag}{r:aa}(h:mw s=some r):CC Pg GE 44 [.str s] (.agg (ac r)) [(3,28)]:=by
 obtain rfl:=lf h
 have z:=sx fY<|sb (nD 3 s) (nA 3 s)<|sy (aQ (⟨3,s,0,([]:List aa)⟩:aa))<|en (aI (dw (⟨3,s,0,([]:List aa)⟩:aa))<|aI (ah (⟨3,s,0,([]:List aa)⟩:aa))<|rT)
 exact bo V8 call44 func44 (c:=Wn) rfl (aI trivial trivial) z<|by kernel_rfl
noncomputable def Wo:Code:=f45.body.getD .skip
def V9:List Nat:=[]
def EZ(k:Int):Option aa:=
 some (⟨1,([]:ag),k,([]:List aa)⟩:aa)
theorem qO{k:Int}{r:aa}(h:EZ k=some r):CC Pg GE 45 [.int .i64 k] (.agg (ac r)) [(3,28)]:=by
 obtain rfl:=lf h
 have z:=sx fY<|sb (nE 1 k) (nB 1 k)<|sy (aQ (⟨1,([]:ag),k,([]:List aa)⟩:aa))<|en (aI (dw (⟨1,([]:ag),k,([]:List aa)⟩:aa))<|aI (ah (⟨1,([]:ag),k,([]:List aa)⟩:aa))<|rT)
 exact bo V9 call45 func45 (c:=Wo) rfl (aI trivial trivial) z<|by kernel_rfl
noncomputable def Wm:Code:=f43.body.getD .skip
def V7:List Nat:=[]
def lF(a:Int)(a2:waB):Option aa:=
 some (⟨a,([]:ag),0,a2⟩:aa)
theorem eZ{a:Int}{a2:waB}{r:aa}(h:lF a a2=some r):CC Pg GE 43 [.int .i64 a,sl ac a2] (.agg (ac r)) []:=by
 obtain rfl:=lf h
 have z:=sx fY<|sv (nF a a2)<|sx (cb (⟨a,([]:ag),0,a2⟩:aa))<|en (aI (dw (⟨a,([]:ag),0,a2⟩:aa))<|(ah (⟨a,([]:ag),0,a2⟩:aa)))
 exact bo V7 call43 func43 (c:=Wm) rfl (aI trivial (aI (aw ah a2) trivial)) z<|by kernel_rfl
noncomputable def Wp:Code:=f46.body.getD .skip
def Wa:List Nat:=[]
def f9(p:aa):Option ae:=
 some (⟨1,([]:ag),([]:List ae),([]:List ag),p,([]:List aa)⟩:ae)
theorem eJ{p:aa}{r:ae}(h:f9 p=some r):CC Pg GE 46 [.agg (ac p)] (.agg (af r)) [(2,30),(3,9),(8,28)]:=by
 obtain rfl:=lf h
 have z:=se (bJ p)<|sx jc<|sv (aM p)<|sb (IY 1 p) (IX 1 p)<|sy (aU (⟨1,([]:ag),([]:List ae),([]:List ag),p,([]:List aa)⟩:ae))<|en (aI (dy (⟨1,([]:ag),([]:List ae),([]:List ag),p,([]:List aa)⟩:ae))<|aI (al (⟨1,([]:ag),([]:List ae),([]:List ag),p,([]:List aa)⟩:ae))<|rT)
 exact bo Wa call46 func46 (c:=Wp) rfl (aI (ah p) trivial) z<|by kernel_rfl
noncomputable def Wq:Code:=f47.body.getD .skip
def Wb:List Nat:=[]
def DZ(name:ag)(result:ae):Option ae:=
 (f9 (⟨0,([]:ag),0,([]:List aa)⟩:aa)).bind fun r1=>
 some (⟨6,([]:ag),([r1,result]:List ae),([name]:List ag),(⟨0,([]:ag),0,([]:List aa)⟩:aa),([]:List aa)⟩:ae)
theorem yA{name:ag}{result:ae}{r:ae}(h:DZ name result=some r):CC Pg GE 47 [.str name,.agg (af result)] (.agg (af r)) [(7,28),(8,28)]:=by
 obtain⟨r1,br1,h⟩:=ay h
 obtain rfl:=lf h
 have z:=se (bR result)<|sx jc<|ze [0,1,0,4,0,28,63,127]<|sv (bh.mk' (v:=PVal.str) D8 ([name]:List ag) 1 (by kernel_rfl))<|sb (oC) (oA)<|aX (eJ br1)<|sv (aV result)<|sv (cO.mk' (v:=wJ) ri ([r1,result]:List ae) 2 (by kernel_rfl))<|sb (E4 6 ([name]:List ag) ([r1,result]:List ae)) (E3 6 ([name]:List ag) ([r1,result]:List ae))<|Ri (cQ (⟨6,([]:ag),([r1,result]:List ae),([name]:List ag),(⟨0,([]:ag),0,([]:List aa)⟩:aa),([]:List aa)⟩:ae))<|en (aI (dy (⟨6,([]:ag),([r1,result]:List ae),([name]:List ag),(⟨0,([]:ag),0,([]:List aa)⟩:aa),([]:List aa)⟩:ae))<|aI (al (⟨6,([]:ag),([r1,result]:List ae),([name]:List ag),(⟨0,([]:ag),0,([]:List aa)⟩:aa),([]:List aa)⟩:ae))<|rT)
 exact bo Wb call47 func47 (c:=Wq) rfl (aI trivial (aI (al result) trivial)) z<|by kernel_rfl
noncomputable def Qs:Code:=f106.body.getD .skip
def Oq:List Nat:=[10,17]
section
variable(s:waA)(v:ag)(t7:Int)(t8:Int)
def fp:ax:=aP 19 [(0,sl cS s),(1,.str v),(7,.int .i64 t7),(8,.int .i64 t8)] [] []
def fq(o:Int⊕(Unit)):Exit:=match o with
 |(.inl _)=>.ret
 |(.inr _)=>.exit 0
def eb(o:Int⊕(Unit)):ax:=match o with
 |(.inl o)=>aP 19 [(4,.int .i64 o)] [] []
 |(.inr o)=>aP 19 [] [] []
def dt:Option (Int⊕(Int⊕(Unit))):=
 if(decide (t8<t7))=true then
  (dT s t8).bind fun x2=>
  if(v==x2)=true then
   some (.inr (.inl t8))
  else
   some (.inl (bL (t8+1)))
 else
  some (.inr (.inr ()))
def na:Option (Int⊕(Unit)):=loop (fun(zz:Int)=>dt s v t7 zz) t8
theorem w9{y:Int⊕(Int⊕(Unit))}(h:dt s v t7 t8=some y):aL Pg GE 0 (cA Qs 55) (LQ (fun(zz:Int)=>fp s v t7 zz) fq eb y) (fp s v t7 t8):=by
 rcases aJ h with⟨c1,h⟩|⟨c1,h⟩
 ·obtain⟨x2,bx2,h⟩:=ay h
  have p4:=fun{sc F} (r:PS sc F)=>sg 0 c1<|sv (bh.ia (k:=.i64) bx2)<|sv (dB Cb (.str x2) [])<|r
  rcases aJ h with⟨c3,h⟩|⟨c3,h⟩
  ·obtain rfl:=lf h
   have z:=p4<|sg 0 c3<|eF (fq (.inl t8)) (eb (.inl t8))
   exact fG Oq (by intro hx;cases hx) z<|by kernel_rfl
  ·obtain rfl:=lf h
   exact pZ Oq (p4<|sg 0 c3<|eF .normal (fp s v t7 (bL (t8+1))))<|by kernel_rfl
 ·obtain rfl:=lf h
  have z:=sg 0 c1<|eF (fq (.inr ())) (eb (.inr ()))
  exact fG Oq (by intro hx;cases hx) z<|by kernel_rfl
theorem pj{x:Int⊕(Unit)}(h:na s v t7 t8=some x):aL Pg GE 0 (.loop (cA Qs 55)) (EX (fq x) (eb x)) (fp s v t7 t8):=
 aL.loop (S:=fun(zz:Int)=>fp s v t7 zz) (ex:=fq) (s:=t8) h fun zz y hy=>w9 s v t7 zz hy
end
def lr(s:waA)(v:ag):Option Int:=
 (na s v (s.length:Int) 0).bind fun o5=>match o5 with
 |(.inl o5)=>
  some o5
 |(.inr o5)=>
  some (-1)
theorem tH{s:waA}{v:ag}{r:Int}(h:lr s v=some r):CC Pg GE 106 [sl cS s,.str v] (.int .i64 r) []:=by
 obtain⟨o5,bo5,h⟩:=ay h
 rcases o5 with o5|o5
 ·obtain rfl:=lf h
  have z:=cf (bh.ln s)<|ct (e:=.ret) (s1:=eb (.inl o5)) (pj s v (s.length:Int) 0 bo5)<|en (aI (rP (.int .i64 o5))<|trivial)
  exact bo Oq call106 func106 (c:=Qs) rfl (aI (aw ie s) (aI trivial trivial)) z<|by kernel_rfl
 ·obtain rfl:=lf h
  have z:=cf (bh.ln s)<|ct (e:=.exit 0) (s1:=eb (.inr o5)) (pj s v (s.length:Int) 0 bo5)<|en (aI (rP (.int .i64 (-1)))<|trivial)
  exact bo Oq call106 func106 (c:=Qs) rfl (aI (aw ie s) (aI trivial trivial)) z<|by kernel_rfl
noncomputable def Wx:Code:=f66.body.getD .skip
def Wi:List Nat:=[]
def dz(s:waA)(v:ag):Option Bool:=
 (lr s v).bind fun r1=>
 some (decide (r1>=0))
theorem eU{s:waA}{v:ag}{r:Bool}(h:dz s v=some r):CC Pg GE 66 [sl cS s,.str v] (.bool r) []:=by
 obtain⟨r1,br1,h⟩:=ay h
 obtain rfl:=lf h
 have z:=aX (tH br1)<|en (aI (rP (.bool (decide (r1>=0))))<|trivial)
 exact bo Wi call66 func66 (c:=Wx) rfl (aI (aw ie s) (aI trivial trivial)) z<|by kernel_rfl
noncomputable def Uk:Code:=f49.body.getD .skip
def SU:List Nat:=[13,28,34]
section
variable(hidden:waA)(s:ai)(i:Int)(n:ag)(t9:waA)(t10:Int)(m:waB)(m2:waA)(m3:waB)
def kD:ax:=aP 45 [(1,sl cS hidden),(2,.eptr (am s)),(4,.bptr 1 0),(5,.bptr 2 0),(6,.int .i64 i),(7,.str n),(9,sl cS t9),(10,.int .i64 t10),(11,.int .i64 i)] [.dead,.cells [sl cS ([]:List ag),sl ac m] [(0,9),(1,28)],.cells [sl cS m2,sl ac m3] [(0,9),(1,28)]] []
def dg(o:Bool):ax:=aP 45 [(1,sl cS hidden),(2,.eptr (am s)),(4,.bptr 1 0),(5,.bptr 2 0),(6,.int .i64 i),(7,.str n),(9,sl cS t9),(10,.int .i64 t10),(11,.int .i64 i),(26,.bool o)] [.dead,.cells [sl cS ([]:List ag),sl ac m] [(0,9),(1,28)],.cells [sl cS m2,sl ac m3] [(0,9),(1,28)]] []
def dC:Option Bool:=
 (dz hidden n).bind fun r3=>
 if(!r3)=true then
  (dz m2 n).bind fun r5=>
  some (!r5)
 else
  some false
theorem kl{x:Bool}(h:dC hidden n m2=some x):aL Pg GE 0 (cA Uk 7670) (EX .normal (dg hidden s i n t9 t10 m m2 m3 x)) (kD hidden s i n t9 t10 m m2 m3):=by
 obtain⟨r3,br3,h⟩:=ay h
 rcases aJ h with⟨c4,h⟩|⟨c4,h⟩
 ·obtain⟨r5,br5,h⟩:=ay h
  obtain rfl:=lf h
  exact bm SU (aX (eU br3)<|sg 5 c4<|ss<|aX (eU br5)<|eF .normal (dg hidden s i n t9 t10 m m2 m3 (!r5)))<|by kernel_rfl
 ·obtain rfl:=lf h
  exact bm SU (aX (eU br3)<|sg 5 c4<|eF .normal (dg hidden s i n t9 t10 m m2 m3 false))<|by kernel_rfl
end
section
variable(hidden:waA)(s:ai)(t9:waA)(t10:Int)(m:waB)(t11:Int)(m2:waA)(m3:waB)
def bN:ax:=aP 45 [(1,sl cS hidden),(2,.eptr (am s)),(4,.bptr 1 0),(5,.bptr 2 0),(9,sl cS t9),(10,.int .i64 t10),(11,.int .i64 t11)] [.dead,.cells [sl cS ([]:List ag),sl ac m] [(0,9),(1,28)],.cells [sl cS m2,sl ac m3] [(0,9),(1,28)]] []
def dh(o:waA×waB):ax:=aP 45 [(4,.bptr 1 0),(5,.bptr 2 0)] [.dead,.cells [sl cS ([]:List ag),sl ac m] [(0,9),(1,28)],.cells [sl cS o.1,sl ac o.2] [(0,9),(1,28)]] []
def bA:Option ((Int×waA×waB)⊕((waA×waB))):=
 if(decide (t11<t10))=true then
  (dT t9 t11).bind fun x2=>
  (dC hidden x2 m2).bind fun o6=>
  if o6=true then
   (app m2 ([x2]:List ag)).bind fun l9=>
   (dT s.by_ t11).bind fun x10=>
   (app m3 ([x10]:List aa)).bind fun l11=>
   some (.inl (bL (t11+1),l9,l11))
  else
   some (.inl (bL (t11+1),m2,m3))
 else
  some (.inr (m2,m3))
def dD:Option ((waA×waB)):=loop (fun(zz:Int×waA×waB)=>bA hidden s t9 t10 zz.1 zz.2.1 zz.2.2) (t11,m2,m3)
theorem jX{y:(Int×waA×waB)⊕((waA×waB))}(h:bA hidden s t9 t10 t11 m2 m3=some y):aL Pg GE 0 (cA Uk 119) (LQ (fun(zz:Int×waA×waB)=>bN hidden s t9 t10 m zz.1 zz.2.1 zz.2.2) (fun _=>.exit 0) (dh m) y) (bN hidden s t9 t10 m t11 m2 m3):=by
 rcases aJ h with⟨c1,h⟩|⟨c1,h⟩
 ·obtain⟨x2,bx2,h⟩:=ay h
  obtain⟨o6,bo6,h⟩:=ay h
  have p8:=fun{sc F} (r:PS sc F)=>sg 0 c1<|sv (bh.ia (k:=.i64) bx2)<|sv (dB Cb (.str x2) [])<|iO 0<|ct (kl hidden s t11 x2 t9 t10 m m2 m3 bo6)<|r
  rcases aJ h with⟨c7,h⟩|⟨c7,h⟩
  ·obtain⟨l9,bl9,h⟩:=ay h
   obtain⟨x10,bx10,h⟩:=ay h
   obtain⟨l11,bl11,h⟩:=ay h
   obtain rfl:=lf h
   exact pZ SU (p8<|sg 0 c7<|sv (bh.mk' (v:=PVal.str) D8 ([x2]:List ag) 1 (by kernel_rfl))<|sv (bh.ap bl9)<|ze [0,1,0,4,0,28,60,124,255,511,1023]<|sv (ed s)<|sv (ee s)<|sv (aZ.ia (k:=.i64) bx10)<|sv (aM x10)<|sv (aZ.mk' (v:=cu) bK ([x10]:List aa) 1 (by kernel_rfl))<|sv (aZ.ap bl11)<|SE (rfl:cp (sl ac l11)=some [sl ac l11])<|eF .normal (bN hidden s t9 t10 m (bL (t11+1)) l9 l11))<|by kernel_rfl
  ·obtain rfl:=lf h
   exact pZ SU (p8<|sg 0 c7<|eF .normal (bN hidden s t9 t10 m (bL (t11+1)) m2 m3))<|by kernel_rfl
 ·obtain rfl:=lf h
  have z:=sg 0 c1<|eF (.exit 0) (dh m (m2,m3))
  exact fG SU (by intro hx;cases hx) z<|by kernel_rfl
theorem km{x:(waA×waB)}(h:dD hidden s t9 t10 t11 m2 m3=some x):aL Pg GE 0 (.loop (cA Uk 119)) (EX (.exit 0) (dh m x)) (bN hidden s t9 t10 m t11 m2 m3):=
 aL.loop (S:=fun(zz:Int×waA×waB)=>bN hidden s t9 t10 m zz.1 zz.2.1 zz.2.2) (ex:=(fun _=>.exit 0)) (s:=(t11,m2,m3)) h fun zz y hy=>jX hidden s t9 t10 m zz.1 zz.2.1 zz.2.2 hy
end
def bE(s:ai)(hidden:waA):Option ai:=
 (dD hidden s s.names (s.names.length:Int) 0 ([]:List ag) ([]:List aa)).bind fun o12=>
 some (⟨o12.1,o12.2⟩:ai)
theorem dE{s:ai}{hidden:waA}{r:ai}(h:bE s hidden=some r):CC Pg GE 49 [.agg (am s),sl cS hidden] (.agg (am r)) [(0,9),(1,28)]:=by
 obtain⟨o12,bo12,h⟩:=ay h
 obtain rfl:=lf h
 have z:=se (cE s)<|sx Mg<|sx Mg<|sv (gj s)<|sv (gn s)<|cf (bh.ln s.names)<|ct (km hidden s s.names (s.names.length:Int) ([]:List aa) 0 ([]:List ag) ([]:List aa) bo12)<|sz (bM (⟨o12.1,o12.2⟩:ai) [])<|sy (bX (⟨o12.1,o12.2⟩:ai))<|en (aI (jY (⟨o12.1,o12.2⟩:ai))<|aI (aT (⟨o12.1,o12.2⟩:ai))<|rT)
 exact bo SU call49 func49 (c:=Uk) rfl (aI (aT s) (aI (aw ie hidden) trivial)) z<|by kernel_rfl
abbrev bD:=(ai->ae->Option ae)
abbrev ce(R:bD):Prop:=∀(s:ai) (t:ae) (r:ae),R s t=some r->CC Pg GE 50 [.agg (am s),.agg (af t)] (.agg (af r)) [(2,30)]
abbrev jZ:=(aa->waA->waB->Option aa)
abbrev mN(R:jZ):Prop:=∀(p:aa) (a:waA) (a2:waB) (r:aa),R p a a2=some r->CC Pg GE 101 [.agg (ac p),sl cS a,sl ac a2] (.agg (ac r)) [(3,28)]
noncomputable def UF:Code:=f121.body.getD .skip
def Ur:List Nat:=[]
def sT(a:waA)(s:ag):Option Int:=
 (lr a s).bind fun r1=>
 some r1
theorem xA{a:waA}{s:ag}{r:Int}(h:sT a s=some r):CC Pg GE 121 [sl cS a,.str s] (.int .i64 r) []:=by
 obtain⟨r1,br1,h⟩:=ay h
 obtain rfl:=lf h
 have z:=aX (tH br1)<|en (aI (rP (.int .i64 r1))<|trivial)
 exact bo Ur call121 func121 (c:=UF) rfl (aI (aw ie a) (aI trivial trivial)) z<|by kernel_rfl
abbrev mf:=(aa->Option aa)
abbrev qm(R:mf):Prop:=∀(p:aa) (r:aa),R p=some r->CC Pg GE 99 [.agg (ac p)] (.agg (ac r)) [(3,28)]
end Go.Proofs.YtggeppllafbidaaGreatDoor
