/- WHAT IS PROVED: parts of the proof, put together by a program (GL VisD VisE VisF). Conditions: none. -/
import Derived.Test.YtgldgpdhblndkaaGreatDoorPkE21
import Derived.Test.YtgldgpdhblndkaaGreatDoorPkE25
import Derived.Test.YtgldgpdhblndkaaGreatDoorPkE26
import Derived.Shelf.Strconv.Itoa3
import Derived.Shelf.Sort.Plain
import Derived.Shelf.Slices.In.CompactS
import Derived.Shelf.Slices.In.SortNone
import Derived.Test.YtgldgpdhblndkaaGreatDoorPkE27
noncomputable section
namespace Go.Proofs.YtgldgpdhblndkaaGreatDoor
open Go Go.Sort
set_option maxRecDepth 100000
def qGi (n:Int):Option Str:=if (decide (-9223372036854775808 ≤ n) && decide (n ≤ 9223372036854775807)) = true then some (Lib.itoa n) else none
theorem qGr:qe3 = Lib.pow10Tab:=by kernel_rfl
theorem qHF {n:Int} {r:Str} (h:qGi n = some r):CC Pg GE 122 [.int .i64 n] (.str r) []:=by
 rcases ifs h with ⟨b,h⟩ | ⟨b,h⟩
 ·obtain rfl:=lf h
  simp only [Bool.and_eq_true,decide_eq_true_eq] at b
  refine CC.grownIS Tryz.call122 fun E Γ bs ow w a st hE hS => ?_
  have htab:Lib.TabIs Pg w "internal/strconv.uint64pow10" .u64 Lib.pow10Tab:=qIf hS (g:=0) (by rw [hE,← qGr]; simp [GE]) (by kernel_rfl)
  refine (Any.strconv_Itoa Tryz.laysM171 n b.1 b.2 w htab).mono fun e w' he => ?_
  obtain ⟨rfl,k,os,rfl⟩:=he
  exact ⟨rfl,.of_grow _ _ _⟩
 ·cases h
def qjZ (l:List Str):List Str:=l.mergeSort fun x y => decide (x ≤ y)
theorem qCA {w:World} {b:Nat} {cur:Array Value} {e:TypeId} {l:List Str} (hh:w.heap[b]? = some (.cells cur e (0,0))) (ht:cur.toList.take l.length = l.map fun s => Value.string ⟨s.toArray⟩):Holds encStr w b 0 l.toArray:=by
 intro j hj
 have hj':j < l.length:=by simpa using hj
 rw [Nat.zero_add]
 refine ⟨?_,frozen_of_row w b j cur e hh⟩
 rw [cell_of_row w b j cur e _ hh]
 have h1:(cur.toList.take l.length)[j]? = (l.map fun s => Value.string ⟨s.toArray⟩)[j]?:=by rw [ht]
 rw [List.getElem?_take_of_lt hj'] at h1
 simp only [Array.getElem?_toList,List.getElem?_map,List.getElem?_eq_getElem hj',Option.map_some] at h1
 rw [h1,getElem!_pos _ j hj]
 simp [encStr]
theorem qzE {w:World} {b n:Nat} {cur:Array Value} {e:TypeId} {os:Array Obj} (d l:List Str) (hh:w.heap[b]? = some (.cells cur e (0,0))) (hd:d.length ≤ cur.size) (hl:d.take l.length = l) :
  (∀ b',b' < w.heap.size→b' ≠ b→(grow (putRow encStr (Sort.ahead w n) b 0 d.toArray) os).heap[b']? = w.heap[b']?)∧w.heap.size ≤ (grow (putRow encStr (Sort.ahead w n) b 0 d.toArray) os).heap.size ∧
   ∃ cur',(grow (putRow encStr (Sort.ahead w n) b 0 d.toArray) os).heap[b]? = some (.cells cur' e (0,0))∧cur'.size = cur.size∧cur'.toList.take l.length = l.map fun s => Value.string ⟨s.toArray⟩:=by
 have hb:b < w.heap.size:=(Array.getElem?_eq_some_iff.1 hh).1
 have hsz:(putRow encStr (Sort.ahead w n) b 0 d.toArray).heap.size = w.heap.size:=by simp [putRow,mapBlock,Sort.ahead]
 refine ⟨fun b' h1 h2 => ?_,?_,putCells encStr 0 d.toArray cur,?_,by simp [putCells],?_⟩
 ·show ((putRow encStr (Sort.ahead w n) b 0 d.toArray).heap ++ os)[b']? = _
  rw [Array.getElem?_append_left (by rw [hsz]; exact h1)]
  show (w.heap.modify b (onCells _))[b']? = _
  rw [Array.getElem?_modify,if_neg (fun e => h2 e.symm)]
 ·show _ ≤ ((putRow encStr (Sort.ahead w n) b 0 d.toArray).heap ++ os).size
  rw [Array.size_append,hsz]; omega
 ·show ((putRow encStr (Sort.ahead w n) b 0 d.toArray).heap ++ os)[b]? = _
  rw [Array.getElem?_append_left (by rw [hsz]; exact hb)]
  show (w.heap.modify b (onCells _))[b]? = _
  rw [Array.getElem?_modify,if_pos rfl,hh]
  rfl
 ·have hll:l.length ≤ d.length:=by have h0:=congrArg List.length hl; rw [List.length_take] at h0; omega
  refine List.ext_getElem? fun i => ?_
  by_cases hi:i < l.length
  ·have hdl:i < d.length:=by omega
   have hdi:d[i] = l[i]:=by
    have h1:(d.take l.length)[i]? = l[i]?:=by rw [hl]
    rw [List.getElem?_take_of_lt hi,List.getElem?_eq_getElem hdl,List.getElem?_eq_getElem hi] at h1
    exact Option.some.inj h1
   rw [List.getElem?_take_of_lt hi]
   simp only [Array.getElem?_toList,putCells,Array.getElem?_mapIdx,List.getElem?_map,List.getElem?_eq_getElem hi,Option.map_some]
   have hc:cur[i]? = some (cur[i]'(by omega)):=Array.getElem?_eq_getElem (by omega)
   rw [hc]
   simp only [Option.map_some]
   rw [if_pos ⟨Nat.zero_le _,by simp; omega⟩,Nat.sub_zero,getElem!_pos _ i (by simpa using hdl)]
   simp [encStr,hdi]
  ·rw [List.getElem?_eq_none (by simp [putCells]; omega),List.getElem?_eq_none (by simp; omega)]
theorem qja (l:List Str):(qjZ l).length = l.length:=by unfold qjZ; exact List.length_mergeSort _
theorem qGN {n:Nat} (h:n ≤ qdH):n < 4611686018427387904:=by unfold qdH at h; omega
theorem qHO:InPl Pg 136 9 (fun s => Value.string ⟨s.toArray⟩) qjZ (fun _ _ _ => .tuple #[]):={
 call:=Tryz.call136
 row:=fun w b cap cur l hh hc hl hm hla ht => by
  have hlen:=qGN hla
  refine (Any.slices_Sort_string Tryz.lays190 b 0 cap l w (qCA hh ht) ((Array.getElem?_eq_some_iff.1 hh).1) hlen).mono fun r w' hr => ?_
  obtain ⟨rfl,n,os,rfl⟩:=hr
  obtain ⟨k1,k2,cur',k3,k4,k5⟩:=qzE (n:=n) (os:=os) (qjZ l) (qjZ l) hh (by rw [qja]; omega) (List.take_length)
  exact ⟨rfl,by rw [qja]; exact hl,rfl,rfl,rfl,k2,k1,cur',k3,by omega,k5⟩
 none:=fun w => ⟨by simp [qjZ],Any.slices_Sort_string_none Tryz.lays190 Option.none 0 w⟩ }
theorem qAg (l:List Str):(Lib.compact l ++ List.replicate (l.length - (Lib.compact l).length) []).take (Lib.compact l).length = Lib.compact l:=by simp
theorem qvT (l:List Str):(Lib.compact l).length ≤ l.length:=by
 unfold Lib.compact Lib.compactUpTo
 rw [List.length_map]
 exact Nat.le_trans (List.length_filter_le _ _) (by simp)
theorem qDd:InPl Pg 137 9 (fun s => Value.string ⟨s.toArray⟩) Lib.compact (fun x k c => .slice x k c):={
 call:=Tryz.call137
 row:=fun w b cap cur l hh hc hl hm hla ht => by
  have hlen:=qGN hla
  refine (calls_of_every_depth fun D => AnyS.slices_Compact_string_in Tryz.lays194 D b 0 cap l w (qCA hh ht) (by omega) hl).mono fun r w' hr => ?_
  obtain ⟨rfl,q,rfl⟩:=hr
  have hcl:=qvT l
  obtain ⟨k1,k2,cur',k3,k4,k5⟩:=qzE (n:=q) (os := #[]) (Lib.compact l ++ List.replicate (l.length - (Lib.compact l).length) []) (Lib.compact l) hh (by simp; omega) (qAg l)
  rw [grow_empty] at k1 k2 k3
  exact ⟨rfl,by omega,rfl,rfl,rfl,k2,k1,cur',k3,by omega,k5⟩
 none:=fun w => ⟨by rfl,calls_of_every_depth fun D => AnyS.slices_Compact_string_empty_in Tryz.lays194 D Option.none 0 w⟩ }
def qif (a b:List Str):Option (List Str):=(app ([]:List Str) a).bind fun l => (app l b).bind fun l2 => some (Lib.compact (qjZ l2))
noncomputable def qEj:Code:=Tryz.f121.body.getD .skip
theorem coS:Pg.cellsOf 9 = 1:=by kernel_rfl
theorem qHl (l:List Str) (h:l.length ≤ qdH):Sat Pg GE 0 (qeA qEj [true,true,false]) (EX .normal (own1 15 5 (qjZ l) 9)) (own1 15 5 l 9) :=
 Sat.inplace (t:=5) (d1:=11) (d2:=12) qHO coS h rfl rfl rfl rfl rfl rfl (by decide) (.inl ⟨rfl,qja l⟩)
theorem qHc (l:List Str) (h:l.length ≤ qdH):Sat Pg GE 0 (qeA qEj [true,true,true,false]) (EX .normal (own1 15 4 (Lib.compact l) 9)) (own1 15 5 l 9) :=
 Sat.inplace3 (t:=5) (d1:=13) (d2:=14) qDd coS h rfl rfl rfl rfl rfl rfl (by decide) (fun _ _ _ => rfl) rfl rfl rfl (by decide) (by decide)
theorem qHf {α:Type} {l r z:List α} (h:app l r = some z):z.length ≤ qdH:=by
 unfold app at h
 split at h
 ·cases h; simpa using ‹_›
 ·cases h
theorem qpO {a b:List Str} {r:List Str} (h:qif a b = some r):CC Pg GE 121 [sl cS a,sl cS b] (sl cS r) [(0,9)]:=by
 obtain ⟨l,bl,h⟩:=bnd h
 obtain ⟨l2,bl2,h⟩:=bnd h
 obtain rfl:=lf h
 have h2:=qHf bl2
 have h3:(qjZ l2).length ≤ qdH:=by rw [qja]; exact h2
 exact C.ev (A:=[8,10]) mixed Tryz.call121 Tryz.func121 (c:=qEj) rfl (aI (qad clS a) <| aI (qad clS b) trivial)
  [.v (sl cS ([]:List Str)),.v (sl cS l),.v (sl cS l2),.pa 0,.pc (own1 15 5 l2 9) .normal (own1 15 5 (qjZ l2) 9),.pa 0,.pc (own1 15 5 (qjZ l2) 9) .normal (own1 15 4 (Lib.compact (qjZ l2)) 9)]
  (Eq.mp (by kernel_rfl) (aI (sT22.mk' (v:=PVal.str) pcS ([]:List Str) 0 (by kernel_rfl)) <| aI (sT22.ap bl) <| aI (sT22.ap bl2) <| aI (fr (own1 15 5 l2 9)) <| aI (qHl l2 h2) <|
   aI (fr (own1 15 5 (qjZ l2) 9)) <| aI (qHc (qjZ l2) h3) <| aI (rP (sl cS (Lib.compact (qjZ l2)))) (qad clS (Lib.compact (qjZ l2)))))
open Go
set_option linter.unusedVariables false
abbrev fB:Nat:=135
abbrev fW:Nat:=149
noncomputable def bW:Code:=Tryz.f149.body.getD .skip
noncomputable def bB:Code:=Tryz.f135.body.getD .skip
theorem qFw (p:tPred):CC Pg GE fB [.agg (qaa p)] (.func (.func fW) [] [.eptr (qaa p)]) []:=by
 have z:=se (qaL p) <| en (aI (rP (.func (.func fW) [] [.eptr (qaa p)])) <| (aI trivial (aI (show clL 0 (qaa p) from qab p) trivial)))
 exact C.evp (A:=[]) mixed Tryz.call135 Tryz.func135 (c:=bB) rfl (aI (qab p) trivial) z (by kernel_rfl)
theorem qIT:bW = .region (idA bW) (opsA bW) false:=by kernel_rfl
theorem qI0:List.range (opsA bW).size = [0,1] ++ 2 :: ([]:List Nat):=by kernel_rfl
theorem qIC:[0,1].map (fun i => (opsA bW)[i]?) = ((opsA bW).toList.take 2).map some:=by kernel_rfl
theorem qIP:((opsA bW).toList.take 2).all qz1 = true:=by kernel_rfl
theorem bW_o:(opsA bW)[2]? = some (opA bW 2):=by kernel_rfl
theorem bW_g:(opA bW 2).guard = none:=by kernel_rfl
theorem qID:(opA bW 2).op = .call { callee := .value (.func fV),args := #[.tmp 3,.tmp 4],argTypes:=tysA (opA bW 2) }:=by kernel_rfl
theorem bW_d:(opA bW 2).dst = some 5:=by kernel_rfl
theorem qIo (p:tPred) (l:Nat):qbW Pg GE [] (opsA bW) (fun st => FG st (stt 6 [(3,.agg (qaa p)),(4,yv l)] [] [])) ((opsA bW).toList.take 2) 0 (stt 6 [(0,yv l),(1,.eptr (qaa p))] [] []):=by
 have z:=sv (qaj p) <| en (fr (stt 6 [(3,.agg (qaa p)),(4,yv l)] [] []))
 exact qvD z (by kernel_rfl)
section
variable {S:Type} {step:S→tPred→Option (Bool×S)} {J:Bool→S→qaP→World→Prop} {l:Nat}
theorem qH9 (hY:Yd Pg GE l qaa step J) (p:tPred) {s:S} {r:Bool×S} {Γ:qaP} {w:World} {v:Value} {n:Nat} (hv:visP step p s = some r) (hJ:J true s Γ w) (hvr:VR Γ [] w (.eptr (qaa p)) v) :
  CallsIn Fence.wide n Pg fW #[.func (.yield l) #[] #[],v] w fun e w' => (∃ u,e = .returned u)∧∃ Γ',Γ.Le w Γ' w'∧J r.1 r.2 Γ' w':=by
 refine callsIn_of_wp Tryz.func149 (c:=bW) rfl trivial ?_
 have h0:VF J Γ w true s (stt 6 [(0,yv l),(1,.eptr (qaa p))] [] []) (#[.func (.yield l) #[] #[],v] ++ Array.replicate 4 undef) w:=by
  refine ⟨Γ,hJ,.refl _ _,_,_,_,(hY.base _ _ _ _ hJ).fresh 0 (tmps:=[yv l,.eptr (qaa p)] ++ List.replicate 4 .undef) (by simp) fun t q u hq hu => ?_⟩
  by_cases ht:t < 2
  ·rw [List.getElem?_append_left (by simpa using ht)] at hq
   rw [Array.getElem?_append_left (by simpa using ht)] at hu
   match t,ht with
   | 0,_ => simp at hq hu; subst hq; subst hu; exact .val _
   | 1,_ => simp at hq hu; subst hq; subst hu; exact hvr
  ·rw [List.getElem?_append_right (by simpa using ht),List.getElem?_replicate] at hq
   split at hq <;> cases hq
   exact .undef u
 show bW.wpIn Fence.wide n Pg _ ⟨_,[]⟩ w
 have d2:(PVal.eptr (qaa p)).cl 0:=qab p
 have d3:(PVal.agg (qaa p)).cl 0:=qab p
 have key:(Code.region (idA bW) (opsA bW) false).wpIn Fence.wide n Pg (bodyPost Pg Tryz.f149 fun e w' => (∃ u,e = .returned u)∧∃ Γ',Γ.Le w Γ' w'∧J r.1 r.2 Γ' w') ⟨#[.func (.yield l) #[] #[],v] ++ Array.replicate 4 undef,[]⟩ w:=by
  refine wpIn_region ?_
  rw [qI0]
  obtain ⟨Γ1,hJ1,hle1,hS⟩:=VF.again hY (k:=0) (dd1 (L:=[(0,yv l),(1,.eptr (qaa p))]) (by exact aI trivial <| aI d2 trivial) 0 rfl) h0
  refine qrF (A:=[]) (K:=fun st => FG st (stt 6 [(3,.agg (qaa p)),(4,yv l)] [] [])) (fun Γ' bs' ow' a' w' st hS' hK => ?_) _ _ Γ1 _ _ _ w _ qIC (qvn qIP) hS (qIo p l)
  obtain ⟨Γ2,bs2,ow2,hS2⟩:=FG.sr hS' hK
  refine qtt bW_o bW_g (VF.visitc hY (kA:=0) (stB:=stt 6 [(3,.agg (qaa p)),(4,yv l),(5,.bool r.1)] [] []) (dd1 (by exact aI d3 <| aI trivial trivial) 0 rfl) (qB2 hY p) hv (y:=4) (x:=3) (d:=5) rfl rfl qID bW_d rfl ⟨Γ2,hY.side _ _ _ _ hJ1 _ _ _ _ _ _ hS2,hle1.trans hS2.step.le,_,_,_,hS2⟩ fun a3 w3 h3 => ?_)
  obtain ⟨Γ3,hJ3,hle3,E,bs3,ow3,hS3⟩:=h3
  obtain ⟨u,e1,_⟩:=qmD hS3 (fn:=Tryz.f149) (r := .tuple []) (by kernel_rfl)
  exact ⟨rfl,u,e1,⟨u,rfl⟩,Γ3,hle3,hJ3⟩
 rw [← qIT] at key
 exact key
end
abbrev fFr:Nat:=119
noncomputable def bFr:Code:=Tryz.f119.body.getD .skip
def rfA:Code→Code
 | .rangeFunc _ _ a _ => a
 | _ => .skip
def rfB:Code→Code
 | .rangeFunc _ _ _ b => b
 | _ => .skip
abbrev nR0:Code:=qeA bFr [false]
abbrev nR1:Code:=qeA bFr [true,false]
abbrev nR2:Code:=qeA bFr [true,true,false,false]
abbrev nRF:Code:=qeA bFr [true,true,false,true,false]
abbrev nR6:Code:=qeA bFr [true,true,true,false]
theorem qIe:bFr = .seq nR0 (.seq nR1 (.seq (.seq nR2 (.block 0 (.rangeFunc (.tmp 6) #[7] (rfA nRF) (rfB nRF)))) (.seq nR6 .ret))):=by kernel_rfl
def qkN (s:List Str) (x:tPred):Option (Bool×List Str):=if (x.Op == 3) = true then (app s [x.Name]).bind fun l => some (true,l) else some (true,s)
def qkA (p:tPred):Option (List Str):=(visP qkN p []).bind fun q => (qif q.2 []).bind fun r => some r
abbrev bxs (s:List Str):List PBox:=[.dead,.cells [sl cS s] [(0,9)]]
abbrev stF (s:List Str):PSt:=stt 18 [(3,.bptr 1 0)] (bxs s) []
theorem n_0 (p:tPred):Sat Pg GE 0 nR0 (EX .normal (stt 18 [(1,.eptr (qaa p))] [.dead] [])) (stt 18 [(0,.agg (qaa p))] [] []):=by
 have z:=se (qaL p) <| eF .normal (stt 18 [(1,.eptr (qaa p))] [.dead] [])
 exact qjJ (A:=[]) mixed z (by kernel_rfl)
theorem n_1 (p:tPred):Sat Pg GE 0 nR1 (EX .normal (stt 18 [(1,.eptr (qaa p)),(3,.bptr 1 0)] (bxs []) [])) (stt 18 [(1,.eptr (qaa p))] [.dead] []):=by
 have z:=sx (show qh0 Pg 22 = some [sl cS ([]:List Str)] by kernel_rfl) <| eF .normal (stt 18 [(1,.eptr (qaa p)),(3,.bptr 1 0)] (bxs []) [])
 exact qjJ (A:=[]) mixed z (by kernel_rfl)
abbrev stR (p:tPred):PSt:=stt 18 [(3,.bptr 1 0),(6,.func (.func fW) [] [.eptr (qaa p)])] (bxs []) []
theorem n_2 (p:tPred):Sat Pg GE 0 nR2 (EX .normal (stR p)) (stt 18 [(1,.eptr (qaa p)),(3,.bptr 1 0)] (bxs []) []):=by
 have z:=sv (qaj p) <| sca (qFw p) <| eF .normal (stR p)
 exact qjJ (A:=[]) mixed z (by kernel_rfl)
abbrev stX (s:List Str) (x:tPred):PSt:=stt 18 [(3,.bptr 1 0),(4,.bptr 2 0)] (bxs s ++ [.cells (xpr x) []]) []
theorem n_3 (s:List Str) (x:tPred):Sat Pg GE 2 (rfA nRF) (EX .normal (stX s x)) (stt 18 [(3,.bptr 1 0),(7,.agg (qaa x))] (bxs s) []):=by
 have z:=sx pz31 <| sx (qaw x) <| eF .normal (stX s x)
 exact qjJ (A:=[]) mixed z (by kernel_rfl)
abbrev stY (r:List Str):PSt:=stt 18 [(3,.bptr 1 0)] (bxs r ++ [.dead]) []
theorem n_4 (s:List Str) (x:tPred) {r:Bool×List Str} (h:qkN s x = some r):r.1 = true∧Sat Pg GE 2 (rfB nRF) (EX .normal (stY r.2)) (stX s x):=by
 unfold qkN at h
 rcases ifs h with ⟨c1,h⟩ | ⟨c1,h⟩
 ·obtain ⟨l,bl,h⟩:=bnd h
  cases h
  refine ⟨rfl,?_⟩
  have z:=ss <| sg 0 c1 <| ss <| sv (sT22.mk' (v:=PVal.str) pcS ([x.Name]:List Str) 1 (by kernel_rfl)) <| sv (sT22.ap bl) <| eF .normal (stY l)
  exact qjJ (A:=[11]) mixed z (by kernel_rfl)
 ·cases h
  refine ⟨rfl,?_⟩
  have z:=ss <| sg 0 c1 <| eF .normal (stY s)
  exact qjJ (A:=[11]) mixed z (by kernel_rfl)
abbrev stZ (r:List Str):PSt:=stt 18 [(2,sl cS r)] [.dead,.dead] [((2,0),9)]
theorem n_6 (s:List Str) {r:List Str} (h:qif s [] = some r):Sat Pg GE 2 (.seq nR6 .ret) (EX .ret (stZ r)) (stF s):=by
 have z:=sv (show qbg Pg 22 [sl cS s] = some (sl cS s) by kernel_rfl) <| sca (qpO h) <| eF .ret (stZ r)
 exact qjJ (A:=[]) mixed z (by kernel_rfl)
abbrev recF (fn:FuncId) (a:Array Value) (D:Nat):Loop:={ state := .ready,pending:=none,fn:=fn,tmps:=a,params := #[7],assign:=rfA nRF,body:=rfB nRF,defers:=D }
def JF (Γe:qaP) (we:World) (bs:qbj) (a:Array Value) (fn:FuncId) (l D:Nat) (b:Bool) (s:List Str) (Γ:qaP) (w:World):Prop :=
 b = true∧∃ ow,SR Pg (asd GE Γe we) Γ bs ow w a (stF s)∧¬ qbb bs ow l∧¬ qbb bs ow D∧w.heap[l]? = some (.loop (recF fn a D))∧w.heap[D]? = some (.deferred (some []))
theorem qfK {w:World} {b:Nat} {o:Obj} (h:w.heap[b]? = some o):b < w.heap.size:=(Array.getElem?_eq_some_iff.1 h).1
theorem qIF {Γe:qaP} {we:World} {bs:qbj} {a:Array Value} {fn:FuncId} {l D:Nat} (hl:we.heap.size ≤ l) (hD:we.heap.size ≤ D) (hne:D ≠ l) (hb:bs.length = 2):Yd Pg GE l qaa qkN (JF Γe we bs a fn l D) where
 base:=fun b s Γ w ⟨_,ow,h,_⟩ => h.base
 side:=fun b s Γ w ⟨h0,ow,h,hTl,hTD,hhl,hhD⟩ Γ' bs' ow' w' a' st' h' =>
  ⟨h0,ow,h.aside h',hTl,hTD,(h'.step.keep l (qfK hhl) id).1.trans hhl,(h'.step.keep D (qfK hhD) id).1.trans hhD⟩
 yield:=fun s Γ w x v n r ⟨h0,ow,h,hTl,hTD,hhl,hhD⟩ hv hr => by
  obtain ⟨hr1,hS4⟩:=n_4 s x hr
  refine ⟨_,_,_,_,run_yield hhl rfl,?_⟩
  have hz:(((#[7]:Array Tmp).zip #[v]).foldl (fun tmps (t,a) => tmps.setIfInBounds t a) a) = a.setIfInBounds 7 v:=by simp
  show RoundIn Fence.wide n Pg l fn (((#[7]:Array Tmp).zip #[v]).foldl (fun tmps (t,a) => tmps.setIfInBounds t a) a) (rfA nRF) (rfB nRF) w _
  rw [hz]
  have h7:SR Pg (asd GE Γe we) Γ bs ow w (a.setIfInBounds 7 v) (stt 18 [(3,.bptr 1 0),(7,.agg (qaa x))] (bxs s) []):=h.set (d:=7) (p := .agg (qaa x)) (hv.mono (.refl _ _) (fun i b hi => by simp at hi))
  refine roundIn_of_wpIn trivial (wpIn_mono (Sat.on (n_3 s x) (by decide) h7 (by rw [hb]; decide) (some l) [] n) ?_)
  rintro e ⟨a1,ds1⟩ w1 ⟨rfl,Γ1,bs1,ow1,st1,h1,⟨rfl,rfl⟩,hbs1,hle1,hsz1,hk1⟩
  obtain ⟨k1,t1⟩:=hk1 l (qfK hhl) hTl
  obtain ⟨k1D,t1D⟩:=hk1 D (qfK hhD) hTD
  have hl1:=k1.trans hhl
  refine ⟨_,run_beginRound hl1 rfl,?_⟩
  obtain ⟨h1',hle1'⟩:=h1.putOther (l:=l) (o := .loop { recF fn a D with state := .busy }) t1 (.inr hl) (fun c t fr e => by rw [hl1] at e; cases e)
  have hb1:2 ≤ bs1.length:=by have:=h1.bl; rw [this]; exact Nat.le_of_ble_eq_true rfl
  refine wpIn_mono (Sat.on hS4 (by decide) h1' hb1 (some l) [] n) ?_
  rintro e ⟨a2,ds2⟩ w2 ⟨rfl,Γ2,bs2,ow2,st2,h2,⟨rfl,rfl⟩,hbs2,hle2,hsz2,hk2⟩
  have hl1':(w1.putObj l (.loop { recF fn a D with state := .busy })).heap[l]? = some (.loop { recF fn a D with state := .busy }):=World.putObj_heap_same (qfK hl1)
  have hD1':(w1.putObj l (.loop { recF fn a D with state := .busy })).heap[D]? = some (.deferred (some [])):=(World.putObj_heap_other hne).trans (k1D.trans hhD)
  obtain ⟨k2,t2⟩:=hk2 l (qfK hl1') t1
  obtain ⟨k2D,t2D⟩:=hk2 D (qfK hD1') t1D
  have hl2:=k2.trans hl1'
  refine ⟨_,_,run_endRound none hl2,?_⟩
  obtain ⟨h3,hle3⟩:=h2.putOther (l:=l) (o := .loop { { recF fn a D with state := .busy } with state:=if (none:Option Code).isNone then .ready else .done,pending:=none }) t2 (.inr hl) (fun c t fr e => by rw [hl2] at e; cases e)
  have hle:Γ.Le w Γ2 (w2.putObj l (.loop { { recF fn a D with state := .busy } with state:=if (none:Option Code).isNone then .ready else .done,pending:=none })):=((hle1.trans hle1').trans hle2).trans hle3
  obtain ⟨ow3,h4,hT4⟩:=h.back rfl h3 hle (H':=bxs r.2) (fun i hi => (hbs2 i (by omega)).trans (hbs1 i (by omega))) (by
   refine ⟨trivial,⟨rfl,aI (up (qad clS r.2)) trivial,fun x hx => hx⟩,trivial⟩) hb.symm
  refine ⟨Γ2,by rw [hr1]; rfl,hle,hr1,ow3,h4,fun hx => t2 (hT4 l hx),fun hx => t2D (hT4 D hx),?_,?_⟩
  ·exact World.putObj_heap_same (qfK hl2)
  ·exact (World.putObj_heap_other hne).trans (k2D.trans hD1')
theorem qtP {p:tPred} {r:List Str} (h:qkA p = some r):CC Pg GE fFr [.agg (qaa p)] (sl cS r) [(0,9)]:=by
 obtain ⟨q,hq,h⟩:=bnd h
 obtain ⟨r',hu,h⟩:=bnd h
 cases h
 refine ⟨aI (qab p) trivial,Tryz.call119,fun Γ bs ow w vs hS => (callsIn_wide (n:=0)).1 (callsIn_of_wp_marks Tryz.func119 (c:=bFr) rfl trivial ?_)⟩
 obtain rfl:bs = []:=List.eq_nil_of_length_eq_zero hS.bl
 obtain ⟨v,rfl⟩:∃ v,vs = #[v]:=Array.size_eq_one_iff.1 hS.sz
 have hB:Base GE Γ w:=hS.base
 have hE:EGood GE 0 (asd GE Γ w):=hB.good
 have hvr:VR Γ [] w (.agg (qaa p)) v:=hS.tm 0 _ _ rfl rfl
 have h0:SR Pg (asd GE Γ w) Γ [] (fun _ => none) w (#[v] ++ Array.replicate 17 undef) (stt 18 [(0,.agg (qaa p))] [] []):=by
  refine hB.fresh (a := #[v] ++ Array.replicate 17 undef) 0 (tmps:=[.agg (qaa p)] ++ List.replicate 17 .undef) (by simp) fun t q u hq hu => ?_
  by_cases ht:t < 1
  ·rw [List.getElem?_append_left (by simpa using ht)] at hq
   rw [Array.getElem?_append_left (by simpa using ht)] at hu
   match t,ht with
   | 0,_ => simp at hq hu; subst hq; subst hu; exact hvr
  ·rw [List.getElem?_append_right (by show 1 ≤ t; omega),List.getElem?_replicate] at hq
   split at hq <;> cases hq
   exact .undef u
 show bFr.wpIn Fence.wide 0 Pg _ ⟨#[v] ++ Array.replicate 17 undef,[]⟩ w
 rw [qIe]
 refine wpIn_seq (wpIn_mono (Sat.wideE (n_0 p) hE h0 0 []) ?_)
 rintro e ⟨a1,ds1⟩ w1 ⟨rfl,Γ1,bs1,ow1,st1,h1,rfl,rfl⟩
 refine wpIn_seq (wpIn_mono (Sat.wideE (n_1 p) hE h1 0 []) ?_)
 rintro e ⟨a2,ds2⟩ w2 ⟨rfl,Γ2,bs2,ow2,st2,h2,rfl,rfl⟩
 refine wpIn_seq (wpIn_seq (wpIn_mono (Sat.wideE (n_2 p) hE h2 0 []) ?_))
 rintro e ⟨a3,ds3⟩ w3 ⟨rfl,Γ3,bs3,ow3,st3,h3,rfl,rfl⟩
 have h6:=h3.opv [] (.tmp 6)
 have e6:opv (asd GE Γ w).GE (stR p).tmps (.tmp 6) = .func (.func fW) [] [.eptr (qaa p)]:=rfl
 rw [e6] at h6
 have hbl:bs3.length = 2:=h3.bl
 refine wpIn_block (wpIn_rangeFunc fun fn _ => ?_)
 obtain ⟨g1,l1⟩:=h3.allocO (.deferred (some []))
 obtain ⟨g2,l2⟩:=g1.allocO (.loop (recF fn a3 w3.heap.size))
 have gF:=g2.forgetT (tm:=(stF []).tmps) rfl
 have hsz3:w.heap.size ≤ w3.heap.size:=h3.step.size
 have htl:∀ b,w3.heap.size ≤ b→¬ qbb bs3 ow3 b:=fun b hb hx => by
  rcases hx with ⟨i,hi⟩ | hx
  ·have hil:i < (stR p).boxes.length:=by rw [← h3.bl]; exact qae hi
   have:=(h3.bx i b _ hi (List.getElem?_eq_getElem hil)).2.1
   omega
  ·cases hL:ow3 b with
   | none => exact hx hL
   | some L => have:=(h3.on b L hL).1; omega
 generalize hvf:(Act.mk a3 []).eval (.tmp 6) = vf at h6
 cases h6 with
 | func _ _ _ fs cs hl1 hl2 hf hc =>
 obtain rfl:fs = #[]:=Array.eq_empty_of_size_eq_zero hl1
 obtain ⟨cv,rfl⟩:∃ v,cs = #[v]:=Array.size_eq_one_iff.1 hl2
 have hcv:VR Γ3 bs3 w3 (.eptr (qaa p)) cv:=hc 0 _ _ rfl rfl
 have hJ:JF Γ w bs3 a3 fn (w3.heap.size + 1) w3.heap.size true [] Γ3 ((w3.alloc (.deferred (some []))).alloc (.loop (recF fn a3 w3.heap.size))):=by
  refine ⟨rfl,ow3,gF,htl _ (by omega),htl _ (Nat.le_refl _),?_,?_⟩
  ·have:=World.alloc_heap_new (w3.alloc (.deferred (some []))) (.loop (recF fn a3 w3.heap.size))
   rwa [World.size_alloc] at this
  ·rw [qcJ _ _ (by rw [World.size_alloc]; omega)]
   exact World.alloc_heap_new w3 _
 have hY:=qIF (Γe:=Γ) (we:=w) (bs:=bs3) (a:=a3) (fn:=fn) (l:=w3.heap.size + 1) (D:=w3.heap.size) (by omega) hsz3 (by omega) hbl
 refine ⟨_,_,_,{ target := .fn (.func fW) #[cv],args := #[.func (.yield (w3.heap.size + 1)) #[] #[]] },(w3.alloc (.deferred (some []))).alloc (.loop (recF fn a3 w3.heap.size)),fW,#[.func (.yield (w3.heap.size + 1)) #[] #[],cv],(w3.alloc (.deferred (some []))).alloc (.loop (recF fn a3 w3.heap.size)),run_enterLoop_outer fn a3 #[7] (rfA nRF) (rfB nRF),?_,fun _ _ => trivial,?_,fun hx => by simp [Fence.wide] at hx,?_⟩
 ·have hvf':(Act.mk a3 []).eval (.tmp 6) = .func (.func fW) #[] #[cv]:=hvf
  simp only [resolve,hvf',Deferred.ofValue]
  simp [Act.eval]
 ·simp [invoke,Tryz.call149]
 ·refine (qH9 hY p (n:=0 - 1) hq hJ (((hcv.mono l1 (.refl _)).mono l2 (.refl _)).clo (show clL 0 (qaa p) from qab p))).mono ?_
  rintro e w4 ⟨⟨u,rfl⟩,Γ4,hle4,hq1,ow4,h4,tl4,tD4,hl4,hD4⟩
  refine ⟨none,_,run_endLoop hl4 (by simp),?_⟩
  obtain ⟨h5,hle5⟩:=h4.putOther (l:=w3.heap.size + 1) (o := .loop { recF fn a3 w3.heap.size with state := .exhausted }) tl4 (.inr (show w.heap.size ≤ _ by omega)) (fun c t fr e => by rw [hl4] at e; cases e)
  have hD5:(w4.putObj (w3.heap.size + 1) (.loop { recF fn a3 w3.heap.size with state := .exhausted })).heap[w3.heap.size]? = some (.deferred (some [])):=(World.putObj_heap_other (by omega)).trans hD4
  generalize w4.putObj (w3.heap.size + 1) (.loop { recF fn a3 w3.heap.size with state := .exhausted }) = w5 at h5 hle5 hD5
  show (Code.seq nR6 .ret).wpIn Fence.wide 0 Pg _ ⟨a3,[{ target := .collected w3.heap.size,args := #[] }]⟩ w5
  refine wpIn_mono (wpIn_wide.2 (Sat.on (n_6 q.2 hu) (by decide) h5 (by rw [hbl]; decide) none [{ target := .collected w3.heap.size,args := #[] }])) ?_
  rintro e ⟨a6,ds6⟩ w6 ⟨rfl,Γ6,bs6,ow6,st6,h6,⟨rfl,rfl⟩,hbs6,hle6,hsz6,hk6⟩
  obtain ⟨k6,t6⟩:=hk6 _ (qfK hD5) tD4
  have hD6:=k6.trans hD5
  obtain ⟨h7,hle7⟩:=h6.putOther (l:=w3.heap.size) (o := .deferred none) t6 (.inr hsz3) (fun c t fr e => by rw [hD6] at e; cases e)
  refine ⟨by simp,.inl ⟨w3.heap.size,_,rfl,run_takeDeferred hD6,?_⟩⟩
  have hS7:SR Pg ⟨GE,Γ,w,qbb [] ow⟩ Γ6 bs6 ow6 (w6.putObj w3.heap.size (.deferred none)) a6 (stZ r):={ h7 with
   bn:=fun i b hb => (h7.bn i b hb).elim False.elim .inr
   on:=fun b L hL => ⟨(h7.on b L hL).1,(h7.on b L hL).2.elim False.elim .inr⟩
   gx:=hS.gx
   step:={ h7.step with keep:=fun b hb _ => h7.step.keep b hb (fun hx => hx) } }
  obtain ⟨vr,e1,e2,e3⟩:=qmD hS7 (fn:=Tryz.f119) (r:=sl cS r) (by kernel_rfl)
  refine ⟨vr,e1,vr,Γ6,qwZ (qdl Tryz.f119.results.toList) [(0,9)] ow6,rfl,?_⟩
  have hrs:Tryz.f119.results.toList = [.tmp 2]:=by kernel_rfl
  have hf:=hS7.finish (H':=[]) (src:=qdl Tryz.f119.results.toList) (ro:=[(0,9)]) e2 (qad clS r) trivial (fun x hx => by
   simp only [List.mem_singleton] at hx
   subst hx
   refine ⟨?_,fun u v' => e3 0 u v' ?_⟩
   ·rw [hrs]; exact List.mem_singleton.2 rfl
   ·rw [hrs]; trivial) (fun x hx y hy _ => by
   simp only [List.mem_singleton] at hx hy
   rw [hx,hy])
  simpa using hf
end Go.Proofs.YtgldgpdhblndkaaGreatDoor
