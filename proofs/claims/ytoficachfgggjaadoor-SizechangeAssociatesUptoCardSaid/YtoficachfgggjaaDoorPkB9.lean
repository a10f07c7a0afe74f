/- PROVED: a part of the proof. Conditions: none. -/
import Derived.Test.YtoficachfgggjaaDoorPkB8
import Derived.Test.YtoficachfgggjaaDoorPkB7
import Derived.Shelf.Strconv.Itoa3
noncomputable section
namespace Go.Proofs.YtoficachfgggjaaDoor
open Go Go.Shelf Go.RowKit Go.Lib Go.Sort
set_option linter.unusedSimpArgs false
set_option linter.unusedVariables false
def jm(n t nb i:Nat)(p:PVal)(e:TypeId):aj:=⟨(List.replicate n .undef).set t (.bptr i 0),(List.replicate nb .dead).set i (.cells [p] [(0,e)]),[]⟩
theorem y5{n t nb i j:Nat}{p q:PVal}{e:TypeId}(h:(jm n t nb i p e).tmps[j]? =some q):q=.undef\/(j=t/\q=.bptr i 0):=by
 unfold jm at h
 simp only at h
 rw[vbk]at h
 split at h
 ·rename_i hti
  split at h
  ·cases h;exact .inr ⟨hti.symm,rfl⟩
  ·cases h
 ·rw[vaN]at h
  split at h
  ·cases h;exact .inl rfl
  ·cases h
theorem ws{n t nb i j:Nat}{p:PVal}{e:TypeId}{B:ag}(h:(jm n t nb i p e).boxes[j]? =some B):(j=i/\B=.cells [p] [(0,e)])\/(j≠i/\B=.dead):=by
 unfold jm at h
 simp only at h
 rw[vbk]at h
 split at h
 ·rename_i hti
  split at h
  ·cases h;exact .inl ⟨hti.symm,rfl⟩
  ·cases h
 ·rename_i hti
  rw[vaN]at h
  split at h
  ·cases h;exact .inr ⟨fun e=>hti e.symm,rfl⟩
  ·cases h
section
variable{P:Program}{GE:List (Nat×List PVal)}{α:Type}[DecidableEq α]{c:α->List PVal}{ord:α->α->Option Int}
theorem vN{T e:TypeId}{K:List Nat}{fs fo rid n t nb i d1 d2:Nat}{o1 o2:Oper}{tys:Array TypeId}{l r:List α}(s:tC P T e c)(hS:vV P fs (P.cellsOf e))(hsc:(P.underlying T).any m8=true)
  (hcc:∀x y r,ord x y=some r->CC P GE fo [.agg (c x),.agg (c y)] (.int .i64 r) []) (hof:∀vs w,(callFunc fo vs).run P w=.ok (.enter fo vs) w)
  (hfl:∀x,∀q∈c x,tY K q/\q.kd∈K/\q.kd≠0) (h1:o1.op=.load T (.tmp t)) (h1d:o1.dst=some d1) (h1g:o1.guard=none)
  (h2:o2.op=.call {callee:=.value (.func fs),args:=#[.tmp d1,.func fo],argTypes:=tys}) (h2d:o2.dst=some d2) (h2g:o2.guard=none)
  (hn:t<n/\d1<n/\d2<n/\t≠d1/\t≠d2) (hi:i<nb) (hs:pJ ord l=some r):
  aL P GE 0 (.region rid #[o1,o2] false) (EX .normal (jm n t nb i (sl c r) e)) (jm n t nb i (sl c l) e):=by
 obtain⟨n1,n2,n3,n4,n5⟩:=hn
 intro ro E bs0 a w hE hb0 hR
 have hb0:bs0=[]:=vam hb0
 subst hb0
 refine qk (by simp[dn,h1,h2]) (by rintro⟨_,_,_,_,_,h,_⟩;cases h) ?_
 show wpOps P #[o1,o2] _ [0,1] a w
 obtain⟨Γ,bs,ow,h,hk⟩:=hR
 have hsz:a.tmps.size=n:=by rw[h.sz];simp[jm]
 obtain⟨u,hu⟩:∃u,a.tmps[t]? =some u:=⟨a.tmps[t]'(by omega),vaC (by omega)⟩
 have hpt:=h.tm t (.bptr i 0) u (by simp[jm,n1]) hu
 cases hpt with
 |bptr _ _ b0 hib=>
 have hBi:(jm n t nb i (sl c l) e).boxes[i]? =some (.cells [sl c l] [(0,e)]):=by simp[jm,hi]
 obtain⟨hg0,hlt0,cc,tt,hheap0,hlen0,hvr0⟩:=h.bx i b0 _ hib hBi
 obtain⟨v,hcell,hown,howb⟩:=h.ob i 0 e _ _ b0 hBi (by simp) hib
 have hcc0:cc[0]? =some v:=by rw[<-hcell,cell_of_row w b0 0 cc tt _ hheap0]
 have hvr:VR Γ bs w (sl c l) v:=hvr0 0 _ v rfl hcc0
 have hload:(Instr.loadAt T (.pointer (some ⟨b0,0,none⟩))).run P w=.ok v w:=by
  obtain⟨v',hr,hv'⟩:=dH (P:=P) (w:=w) (Γ:=Γ) (bs:=bs) (b:=b0) (off:=0) (cs:=[.val v]) (vals:=fun _=>v) (te hsc _ _)
   (fun k q hq=>by
    have hk0:k=0:=by have:=aa hq;simp at this;exact this
    subst hk0;exact hcell)
   (fun k q hq=>by
    have hk0:k=0:=by have:=aa hq;simp at this;exact this
    subst hk0;simp at hq;subst hq;exact .val v)
  cases hv'
  simp[Instr.loadAt,Instr.sureAddr,hr]
 have hu0:a.eval (.tmp t)=.pointer (some ⟨b0,0,none⟩):=eZ hu
 rw[wpOps_cons]
 unfold wpOp
 rw[show(#[o1,o2]:Array Oper)[0]? =some o1 from rfl]
 simp only
 rw[vav (by simp[Region.wanted,h1g])]
 refine .inl ?_
 unfold Oper.wp
 rw[show(execOp a.eval o1).run P w=.ok (.value v) w by simp[execOp,h1,hu0,hload],Oper.upon_value]
 rw[wpOps_cons]
 unfold wpOp
 rw[show(#[o1,o2]:Array Oper)[1]? =some o2 from rfl]
 simp only
 rw[vav (by simp[Region.wanted,h2g])]
 refine .inl ?_
 unfold Oper.wp
 have hu1:(a.put o1.dst v).eval (.tmp d1)=v:=by
  refine eZ ?_
  rw[h1d]
  show(a.tmps.setIfInBounds d1 v)[d1]? =some v
  simp[hsz,n2]
 rw[show(execOp (a.put o1.dst v).eval o2).run P w=.ok (.enter fs #[v,.func (.func fo) #[] #[]]) w by
  simp only[execOp,h2]
  simp[resolve,Act.eval,Deferred.ofValue,invoke,hS.1]
  have hu2:(a.put o1.dst v).tmps.getD d1 undef=v:=hu1
  rw[vas]at hu2
  exact hu2,Oper.upon_enter]
 have hget:∀q:Value,(((a.put o1.dst v).put o2.dst q).tmps)[t]? =some (.pointer (some ⟨b0,0,none⟩))/\(((a.put o1.dst v).put o2.dst q).tmps).size=n:=by
  intro q
  rw[h1d,h2d]
  show((a.tmps.setIfInBounds d1 v).setIfInBounds d2 q)[t]? =_/\((a.tmps.setIfInBounds d1 v).setIfInBounds d2 q).size=n
  refine⟨?_,by simp[hsz]⟩
  rw[vaE n5.symm,vaE n4.symm];exact hu
 have hdef:∀q:Value,((a.put o1.dst v).put o2.dst q).defers=a.defers:=fun q=>(aO _ _ _).trans (aO _ _ _)
 obtain⟨hokS,hrl⟩:=yz hs
 obtain⟨happ,hord,hO⟩:=uf hokS
 have htm:∀{bs:ax} {Γ:au} {w:World} {p:PVal} (q:Value),bs[i]? =some (some b0)->∀(j:Nat) x y,(jm n t nb i p e).tmps[j]? =some x->(((a.put o1.dst v).put o2.dst q).tmps)[j]? =some y->VR Γ bs w x y:=by
  intro bs Γ w p q hb j x y hx hy
  rcases y5 hx with rfl|⟨rfl,rfl⟩
  ·exact .undef y
  ·rw[(hget q).1]at hy;cases hy;exact .bptr _ _ _ hb
 have hempty:l=[]->∀q,wpOps P #[o1,o2] (qe P E [] a.defers (EX .normal (jm n t nb i (sl c r) e))) [] ((a.put o1.dst v).put o2.dst q) w:=by
  intro hl q
  subst hl
  have hr:r=[]:=vam hrl
  subst hr
  refine⟨hdef q,_,⟨Γ,bs,ow,{h with sz:=by rw[(hget q).2];simp[jm],tm:=htm q hib,ot:=fun t k e he=>by simp[jm]at he},hk⟩,rfl,rfl⟩
 unfold sl at hvr
 generalize hes:l.map c=es at hvr
 cases hvr with
 | sliceNil =>
  have hl:l=[]:=by cases l with
   |nil=>rfl
   |cons x l=>simp at hes
  refine(hS.2.2 none 0 _ w).mono fun q w' hr=>?_
  obtain⟨rfl,rfl⟩:=hr
  exact hempty hl _
 | sliceE x cap =>
  have hl:l=[]:=by cases l with
   |nil=>rfl
   |cons x l=>simp at hes
  refine(hS.2.2 (some x) cap _ w).mono fun q w' hr=>?_
  obtain⟨rfl,rfl⟩:=hr
  exact hempty hl _
 | slice _ b off cap m sz vals hz0 hcap hg hm hszs hc hv =>
  obtain⟨kk,xs,⟨hx1,hx2⟩,hx3⟩:=hown
  rcases hx2 with⟨hx2,_⟩|⟨g',cap',cur,hx2,_,hheap,hkc,hcm,hcs,htake⟩
  ·cases hx2
  cases hx2
  subst hes
  by_cases hl0:l=[]
  ·subst hl0
   refine(hS.2.2 (some ⟨b,0,none⟩) cap _ w).mono fun q w' hr=>?_
   obtain⟨rfl,rfl⟩:=hr
   exact hempty rfl _
  have hN:0<l.length:=vct.2 hl0
  have hlen:(l.map c).length=l.length:=vbv _
  have hget':∀j,(hj:j<l.length)->(l.map c)[j]? =some (c l[j]):=fun j hj=>by rw[vau,vaa hj];rfl
  have hsk:sz=P.cellsOf e:=by rw[<-hszs 0 _ (hget' 0 hN),s.hc]
  subst hsk
  have hΓg:Γ b=some (l.length * P.cellsOf e):=by rw[hx3 b rfl,hlen]
  generalize hkk:P.cellsOf e=k at *
  let cl:Nat->Nat:=fun x=>if x<l.length then x else 0
  have hcl:∀x,cl x<l.length:=fun x=>by show(if x<l.length then x else 0)<_;split<;>omega
  have hcl0:∀x,x<l.length->cl x=x:=fun x hx=>by show(if x<l.length then x else 0)=_;rw[vav hx]
  let el:Nat->α:=fun x=>l[cl x]'(hcl x)
  have hel:∀x,el x∈l:=fun x=>vbi (hcl x)
  let enc:Nat->List Value:=fun x=>(List.range k).map fun j=>vals (cl x) j
  have henc:∀(x j:Nat) uu,(enc x)[j]? =some uu->j<k/\uu=vals (cl x) j:=fun x j uu hh=>by
   have hh:((List.range k).map fun j=>vals (cl x) j)[j]? =some uu:=hh
   rw[vau]at hh
   by_cases hj:j<k
   ·rw[vaT hj]at hh;cases hh;exact⟨hj,rfl⟩
   ·rw[vay (by simp;omega)]at hh;cases hh
  have hencl:∀x,(enc x).length=k:=fun x=>by show((List.range k).map _).length=k;simp
  have hencg:∀(x j:Nat),j<k->(enc x)[j]! =vals (cl x) j:=fun x j hj=>by
   rw[List.getElem!_eq_getElem?_getD]
   have:(enc x)[j]? =some (vals (cl x) j):=by
    show((List.range k).map fun j=>vals (cl x) j)[j]? =_
    rw[vau,vaT hj];rfl
   rw[this];rfl
  have hqe:∀(x j:Nat),j<k->∃q,(c (el x))[j]? =some q/\q∈c (el x)/\VR Γ bs w q (vals (cl x) j):=fun x j hj=>by
   have hjl:j<(c (el x)).length:=by rw[s.hc];omega
   exact⟨_,vaa hjl,vbi hjl,hv (cl x) _ j _ (hget' _ (hcl x)) (vaa hjl)⟩
  have hvre:∀(x j:Nat) q uu,(c (el x))[j]? =some q->(enc x)[j]? =some uu->VR Γ bs w q uu:=fun x j q uu hq huu=>by
   obtain⟨hj,rfl⟩:=henc x j uu huu
   exact hv (cl x) _ j q (hget' _ (hcl x)) hq
  have hone:∀x,∀uu∈enc x,uu.oneCell'=true:=fun x uu huu=>by
   obtain⟨j,hj⟩:=List.getElem?_of_mem huu
   obtain⟨hjk,rfl⟩:=henc x j uu hj
   obtain⟨q,_,hqm,hqv⟩:=hqe x j hjk
   exact hqv.one (s.ho _ q hqm)
  have hcelli:∀(x j:Nat),x<l.length->j<k->w.cell? ⟨b,0+(x * k+j),none⟩=some (vals x j):=fun x j hx hj=>by
   have hjl:j<(c l[x]).length:=by rw[s.hc];omega
   have:=hc x _ j _ (hget' x hx) (vaa hjl)
   rw[<-this];congr 2;omega
  have hkpos:0<k:=hz0
  have hdm:∀o,o<l.length * k->o / k<l.length/\o % k<k/\o=o / k * k+o % k:=fun o ho=>⟨Nat.div_lt_of_lt_mul (by rw[vcg];exact ho),Nat.mod_lt _ hkpos,(Nat.div_add_mod' o k).symm⟩
  have hrow:∀o,o<l.length * k->∃uu,w.cell? ⟨b,o,none⟩=some uu/\Bb uu∈K:=fun o ho=>by
   obtain⟨a1,a2,a3⟩:=hdm o ho
   have:=hcelli (o / k) (o % k) a1 a2
   rw[vaz,<-a3]at this
   obtain⟨q,_,hqm,hqv⟩:=hqe (o / k) (o % k) a2
   rw[hcl0 _ a1]at hqv
   obtain⟨_,k1,k2⟩:=hfl _ q hqm
   exact⟨_,this,by rw[VR.kd_eq hqv k2];exact k1⟩
  let cf:Nat->Nat->Int:=fun x y=>(ord (el x) (el y)).getD 0
  have hcf:∀x y,ord (el x) (el y)=some (cf x y):=fun x y=>by
   obtain⟨z,hz⟩:=hord _ (hel x) _ (hel y)
   show _=some ((ord (el x) (el y)).getD 0)
   rw[hz];rfl
  have hlt:∀x y,ltOf cf x y=wm ord (el x) (el y):=fun x y=>by
   unfold ltOf wm
   rw[hcf x y]
  have hswo:SWO (ltOf cf):=⟨fun x=>by rw[hlt];exact hO.irr _ (hel x),fun x y z p q=>by rw[hlt]at *;exact hO.trans _ _ _ (hel x) (hel y) (hel z) p q,fun x y z p q=>by rw[hlt]at *;exact hO.ntrans _ _ _ (hel x) (hel y) (hel z) p q⟩
  have hlo:=h.on b _ (howb b rfl)
  have hge:E.w.heap.size<=b:=hlo.2.resolve_left (hE.nt rfl b)
  have hd0:(Array.range l.length).size=l.length:=by simp
  have hHold:HoldsK enc k w b 0 (Array.range l.length):=by
   intro j hj
   rw[size_flatK,hd0]at hj
   obtain⟨a1,a2,a3⟩:=hdm j hj
   refine⟨?_,frozen_of_row w b _ cur e hheap⟩
   rw[get_flatK _ _ _ _ (by rw[hd0];exact hj)]
   have e1:(Array.range l.length)[j / k]! =j / k:=by rw[getElem!_pos _ _ (by rw[hd0];exact a1)];simp
   rw[e1,hencg _ _ a2,hcl0 _ a1]
   have:=hcelli (j / k) (j % k) a1 a2
   rw[<-a3]at this
   exact this
  have hcmp:=xG (k:=k) (N:=(Array.range l.length).size) h hE (K:=K) hΓg hge hrow hcc (fun x q hq=>(hfl x q hq).1) (enc:=enc) (el:=el) (fun x=>by rw[hencl,s.hc];exact hkk.symm) hvre hcf
  have happ2:l.length<4611686018427387904:=by unfold dw at happ;omega
  have hcall:=hS.2.1 enc cf fo b cap (Array.range l.length) w hencl hone hswo hof hcmp hHold hlo.1 (by rw[hd0];exact happ2)
  rw[hd0]at hcall
  have hcall2:Calls P fs #[.slice (some ⟨b,0,none⟩) (l.map c).length cap,.func (.func fo) #[] #[]] w fun e w'=>e=.returned (.tuple #[])/\∃d' n os,PermIn 0 l.length (Array.range l.length) d'/\SortedIn (ltOf cf) 0 l.length d'/\w'=sortWorldK enc k w b 0 n d' os:=by
   rw[hlen];exact hcall
  refine hcall2.mono fun q w' hr=>?_
  obtain⟨rfl,d',n',os,hperm,hsorted,rfl⟩:=hr
  have hd'0:d'.size=l.length:=hperm.1.trans hd0
  generalize hWe:sortWorldK enc k w b 0 n' d' os=W
  have hkeep:∀x,x<w.heap.size->x≠b->W.heap[x]? =w.heap[x]?:=fun x hx hxb=>by rw[<-hWe];exact q5 hx hxb
  have hszW:w.heap.size<=W.heap.size:=by rw[<-hWe];exact q6
  have hrowW:W.heap[b]? =some (.cells (putCells id 0 (flatK enc k d') cur) e (0,0)):=by rw[<-hWe];exact xh hheap
  have hholdW:HoldsK enc k W b 0 d':=by rw[<-hWe];exact holdsK_sortWorldK_c enc k w b 0 _ d' n' os hHold hlo.1 hperm.1
  have hcsW:(putCells id 0 (flatK enc k d') cur).size=cap * k:=by rw[<-hcs];simp[putCells]
  have hst1:W.os=w.os:=by rw[<-hWe];rfl
  have hst2:W.tape=w.tape:=by rw[<-hWe];rfl
  have hst3:W.output=w.output:=by rw[<-hWe];rfl
  have hst4:w.drawn<=W.drawn:=by rw[<-hWe];exact vbP _ _
  have hnk:l.length * k<=cap * k:=vaD k (by rw[<-hlen];exact hcap)
  have hrd:d'.toList.map el=r:=by
   refine tw hs ?_ ?_
   ·have hp:=hperm.2.2
    have e1:d'.extract 0 l.length=d':=by rw[<-hd'0];exact vcy
    have e2:(Array.range l.length).extract 0 l.length=Array.range l.length:=by
     have:(Array.range l.length).extract 0 (Array.range l.length).size=Array.range l.length:=vcy
     rwa[hd0]at this
    rw[e1,e2]at hp
    have h3:(Array.range l.length).toList.map el=l:=by
     rw[Array.toList_range]
     refine va7 fun j=>?_
     by_cases hj:j<l.length
     ·rw[vau,vaT hj,vaa hj]
      show some (l[cl j]'(hcl j))=some l[j]
      congr 1
      simp only[hcl0 j hj]
     ·rw[vay (by simp;omega),vay (by omega)]
    rw[<-h3]
    exact hp.map el
   ·unfold re
    rw[List.pairwise_map,List.pairwise_iff_getElem]
    intro x y hx hy hxy
    have hx':x<d'.size:=by simpa using hx
    have hy':y<d'.size:=by simpa using hy
    have:=hsorted x y (vaI _) hxy (by rw[<-hd'0];exact hy')
    rw[getElem!_pos d' x hx',getElem!_pos d' y hy',hlt]at this
    simpa using this
  have hrlen:(r.map c).length=(l.map c).length:=by rw[vbv,vbv,hrl]
  have hri:∀x,(hx:x<l.length)->(r.map c)[x]? =some (c (el d'[x]!)):=fun x hx=>by
   rw[<-hrd,List.map_map,vau]
   have hxd:x<d'.size:=by rw[hd'0];exact hx
   rw[vaS,vaC hxd,getElem!_pos d' x hxd]
   rfl
  have hvrW:VR Γ bs W (sl c r) (.slice (some ⟨b,0,none⟩) (l.map c).length cap):=by
   unfold sl
   rw[<-hrlen]
   refine .slice _ b 0 cap (l.length * k) k (fun x j=>vals (cl d'[x]!) j) hkpos (by rw[hrlen];exact hcap) hΓg (by rw[hrlen,hlen];omega) (fun x y hx=>?_) (fun x y j p hx hp=>?_) (fun x y j p hx hp=>?_)
   ·have hxl:x<l.length:=by have:=aa hx;rw[hrlen,hlen]at this;exact this
    rw[hri x hxl]at hx;cases hx;rw[s.hc];exact hkk
   ·have hxl:x<l.length:=by have:=aa hx;rw[hrlen,hlen]at this;exact this
    rw[hri x hxl]at hx;cases hx
    have hjk:j<k:=by have:=aa hp;rw[s.hc,hkk]at this;exact this
    have:=(hholdW.cell (i:=x) (c:=j) (by rw[hd'0];exact hxl) hjk).1
    rw[hencg _ _ hjk]at this
    exact this
   ·have hxl:x<l.length:=by have:=aa hx;rw[hrlen,hlen]at this;exact this
    rw[hri x hxl]at hx;cases hx
    refine(hv (cl d'[x]!) _ j p (hget' _ (hcl _)) hp).off_row hΓg hrow (fun x m hx hm=>⟨hm,fun o=>az (hkeep x (h.lt_of_ghost hm) hx) o⟩) (hfl _ p (var hp)).1
  have hle:E.Γ.Le E.w Γ W:=fun x m hx hm0=>by
   obtain⟨m',k1,k2,k3⟩:=h.step.le x m hx hm0
   have hne:x≠b:=fun hxb=>by have:=hE.low x m hx;omega
   exact⟨m',k1,k2,fun o ho=>(az (hkeep x (h.lt_of_ghost k1) hne) o).trans (k3 o ho)⟩
  have hne0:b0≠b:=fun hx=>by rw[hx,hΓg]at hg0;cases hg0
  refine⟨hdef _,_,⟨Γ,bs,ow,{
   wi:=fun x m hx=>by
    by_cases hxg:x=b
    ·subst hxg
     rw[hΓg]at hx;cases hx
     exact⟨_,_,_,hrowW,by rw[hcsW];exact hnk⟩
    ·obtain⟨c2,t2,fr,k1,k2⟩:=h.wi x m hx
     exact⟨c2,t2,fr,(hkeep x (h.lt_of_ghost hx) hxg).trans k1,k2⟩
   sz:=by rw[(hget _).2];simp[jm]
   tm:=htm _ hib
   bl:=by rw[h.bl];simp[jm]
   bx:=fun j b' B hb' hB=>by
    rcases ws hB with⟨rfl,rfl⟩|⟨hj,rfl⟩
    ·rw[hib]at hb';cases hb'
     refine⟨hg0,vaA hlt0 hszW,cc,tt,(hkeep b0 hlt0 hne0).trans hheap0,hlen0,fun jj p vv hp hvv=>?_⟩
     have hj0:jj=0:=by have:=aa hp;simp at this;exact this
     subst hj0
     simp at hp;subst hp
     rw[hcc0]at hvv;cases hvv
     exact hvrW
    ·have hold:(jm n t nb i (sl c l) e).boxes[j]? =some .dead:=by
      have hjn:j<nb:=by have:=aa hB;simpa[jm]using this
      unfold jm
      simp only
      rw[vak (fun e=>hj e.symm),vaN,vav hjn]
     obtain⟨k1,k2,_⟩:=h.bx j b' _ hb' hold
     exact⟨k1,vaA k2 hszW,trivial⟩
   inj:=h.inj
   bn:=h.bn
   on:=fun b' L hL=>⟨vaA (h.on b' L hL).1 hszW,(h.on b' L hL).2⟩
   ot:=fun t k e he=>by simp[jm]at he
   ob:=fun j jj e' cs own b' hB hj hb'=>by
    rcases ws hB with⟨rfl,hBB⟩|⟨_,hBB⟩
    ·cases hBB
     rw[hib]at hb';cases hb'
     have:jj=0/\e'=e:=by simpa using hj
     obtain⟨rfl,rfl⟩:=this
     refine⟨_,(az (hkeep b0 hlt0 hne0) 0).trans hcell,⟨(l.map c).length,(putCells id 0 (flatK enc k d') cur).toList.take (l.length * k),⟨?_,.inr ⟨b,cap,_,rfl,vaI _,hrowW,hcap,hcm,by rw[hcsW,hkk],by rw[hlen,hkk]⟩⟩,fun x hx=>?_⟩,howb⟩
     ·have hL:(putCells id 0 (flatK enc k d') cur).toList.length=cap * k:=by rw[<-hcsW];exact Array.length_toList
      rw[va4,hL,hlen,hkk];omega
     ·simp[Value.ownBlock]at hx;subst hx;rw[hΓg,hlen,hkk]
    ·cases hBB
   gl:=fun g cs hg=>(hE.gl g cs (by rw[<-hE.ge];exact hg)).mono hle (fun i b hb=>by simp at hb)
   gc:=h.gc
   gx:=h.gx
   step:={
    os:=hst1.trans h.step.os
    tape:=hst2.trans h.step.tape
    output:=hst3.trans h.step.output
    size:=vaL h.step.size hszW
    drawn:=vaL h.step.drawn hst4
    keep:=fun x hx hT=>by
     obtain⟨k1,k2⟩:=h.step.keep x hx hT
     exact⟨(hkeep x (vaA hx h.step.size) (by omega)).trans k1,k2⟩
    le:=hle}},hk⟩,rfl,rfl⟩
theorem AZ{T e:TypeId}{K:List Nat}{fs fo rid n t nb i d1 d2:Nat}{o1 o2:Oper}{tys:Array TypeId}{l r:List α}{cd:Code}{st0 st1:aj}(s:tC P T e c)(hS:vV P fs (P.cellsOf e))(hsc:(P.underlying T).any m8=true)
  (hcc:∀x y r,ord x y=some r->CC P GE fo [.agg (c x),.agg (c y)] (.int .i64 r) []) (hof:∀vs w,(callFunc fo vs).run P w=.ok (.enter fo vs) w)
  (hfl:∀x,∀q∈c x,tY K q/\q.kd∈K/\q.kd≠0) (hcd:cd=.region rid #[o1,o2] false) (h1:o1.op=.load T (.tmp t)) (h1d:o1.dst=some d1) (h1g:o1.guard=none)
  (h2:o2.op=.call {callee:=.value (.func fs),args:=#[.tmp d1,.func fo],argTypes:=tys}) (h2d:o2.dst=some d2) (h2g:o2.guard=none)
  (hn:decide (t<n)&&(decide (d1<n)&&(decide (d2<n)&&(decide (t≠d1)&&(decide (t≠d2)&&decide (i<nb)))))=true) (h0:st0=jm n t nb i (sl c l) e) (h00:st1=jm n t nb i (sl c r) e) (hs:pJ ord l=some r):
  aL P GE 0 cd (EX .normal st1) st0:=by
 simp only[vac,vah]at hn
 obtain⟨a1,a2,a3,a4,a5,a6⟩:=hn
 subst hcd;subst h0;subst h00
 exact vN s hS hsc hcc hof hfl h1 h1d h1g h2 h2d h2g ⟨a1,a2,a3,a4,a5⟩ a6 hs
end
section
variable{P:Program}{ρ:Ren}
theorem yy(L:SlLaysF0.n6 P ρ){fs e:Nat}(hf:ρ.f 6=fs)(he:ρ.t 24=e)(ha:(P.underlying e).any yO=true)(hi:(P.info? e).isSome=true)(hcall:∀vs w,(callFunc fs vs).run P w=.ok (.enter fs vs) w):vV P fs (P.cellsOf e):=by
 subst hf;subst he
 obtain⟨i0,hi0⟩:=vax.1 hi
 have hagg:∀w,(Go.isAgg (ρ.t 24)).run P w=.ok true w:=fun w=>by
  cases hd:P.underlying (ρ.t 24)with
  |none=>rw[hd]at ha;cases ha
  |some d=>
   rw[hd]at ha
   cases d<;>simp[yO]at ha<;>simp[Go.isAgg,run_underlying hd]
 refine⟨hcall,fun enc cf g blk cap d w hk h1 hO eg hcmp hH hb hs=>?_,fun p cap fv w=>AnyF.slices_SortFunc_none L p cap fv w⟩
 exact AnyQ.slices_SortFunc L (P.cellsOf (ρ.t 24)) hagg (fun w=>run_sizeOf w hi0) enc hk h1 cf hO g #[] blk 0 cap d w eg hcmp hH hb hs
end
open Go Go.Proofs.Tryd
set_option maxRecDepth 100000
theorem wR(x:ac):∀q∈ae x,tY [3,4] q/\q.kd∈[3,4]/\q.kd≠0:=by
 intro q hq
 rw[ch]at hq
 simp only[vaF,vbT,or_false]at hq
 rcases hq with rfl|rfl|rfl
 ·exact⟨trivial,by simp[PVal.kd],by simp[PVal.kd]⟩
 ·exact⟨trivial,by simp[PVal.kd],by simp[PVal.kd]⟩
 ·refine⟨fun e he q hq=>?_,by simp[PVal.kd,sl],by simp[PVal.kd,sl]⟩
  obtain⟨y,_,rfl⟩:=vap.1 he
  rw[ms]at hq
  simp only[vaF,vbT,or_false]at hq
  rcases hq with rfl|rfl|rfl
  all_goals exact⟨by simp[PVal.kd],by simp[PVal.kd]⟩
theorem za:vV Pg 38 (Pg.cellsOf 24):=yy Tryd.sf38 rfl rfl (by kernel_rfl) (by kernel_rfl) call38
theorem wI:iF Pg 37 43:=wJ Tryd.lc37 rfl rfl (by kernel_rfl) call37
theorem uS{l r:List ak}(h:qi l=some r):CC Pg GE 37 [sl al l] (sl al r) [(0,43)]:=fK.cloneCC wI h
def xY(n:Int):Option am:=if(decide (-9223372036854775808<=n)&&decide (n<=9223372036854775807))=true then some (Lib.itoa n)else none
theorem yn:d3=Lib.pow10Tab:=by kernel_rfl
theorem wk{n:Int}{r:am}(h:xY n=some r):CC Pg GE 31 [.int .i64 n] (.str r) []:=by
 rcases bB h with⟨b,h⟩|⟨b,h⟩
 ·obtain rfl:=lf h
  simp only[vac,vah]at b
  refine CC.grownIS call31 fun E Γ bs ow w a st hE hS=>?_
  have htab:Lib.TabIs Pg w "internal/strconv.uint64pow10" .u64 Lib.pow10Tab:=zW hS (g:=1) (by rw[hE,←yn];simp[GE]) (by kernel_rfl)
  refine(Any.strconv_Itoa Tryd.laysM171 n b.1 b.2 w htab).mono fun e w' he=>?_
  obtain⟨rfl,k,os,rfl⟩:=he
  exact⟨rfl,.of_grow _ _ _⟩
 ·cases h
noncomputable def b9:Code:=Tryd.f9.body.getD .skip
def A9:List Nat:=[]
section
variable(n:Int)(v:waB)(t8:Int)(t9:Int)
def fO:aj:=cE 22 [(0,.int .i64 n),(1,sl ae v),(7,sl ae v),(8,.int .i64 t8),(9,.int .i64 t9)] [] []
def fP(o:Unit⊕(Unit)):Exit:=match o with
 |(.inl _)=>.ret
 |(.inr _)=>.exit 0
def eP(o:Unit⊕(Unit)):aj:=match o with
 |(.inl o)=>cE 22 [(4,.bool false)] [] []
 |(.inr o)=>cE 22 [(0,.int .i64 n),(1,sl ae v)] [] []
def kG:Option (Int⊕(Unit⊕(Unit))):=
 if(decide (t9<t8))=true then
  (g9 v t9).bind fun x2=>
  if(decide ((x2.Arcs.length:Int)>40))=true then
   some (.inr (.inl ()))
  else
   some (.inl (eW (t9+1)))
 else
  some (.inr (.inr ()))
def m9:Option (Unit⊕(Unit)):=loop (fun(zz:Int)=>kG v t8 zz) t9
theorem qg{y:Int⊕(Unit⊕(Unit))}(h:kG v t8 t9=some y):aL Pg GE 0 (cA b9 55) (LQ (fun(zz:Int)=>fO n v t8 zz) fP (eP n v) y) (fO n v t8 t9):=by
 rcases bB h with⟨c1,h⟩|⟨c1,h⟩
 ·obtain⟨x2,bx2,h⟩:=aF h
  have p4:=fun{sc F} (r:PS sc F)=>sg 0 c1<|sv (e7.ia (k:=.i64) bx2)<|sv (aN x2)<|sx ou<|sx (dy x2)<|ss<|jy (fK.ln x2.Arcs)<|r
  rcases bB h with⟨c3,h⟩|⟨c3,h⟩
  ·obtain rfl:=lf h
   have z:=p4<|sg 0 c3<|sN 0 (fP (.inl ())) (eP n v (.inl ())) rfl (fu (aI trivial trivial)) trivial
   exact lZ (A:=A9) mixed (by intro hx;cases hx) z<|by kernel_rfl
  ·obtain rfl:=lf h
   have z:=p4<|sg 0 c3<|sN 0 .normal (fO n v t8 (eW (t9+1))) rfl (fu (aI trivial (aI (up (aK af v)) (aI (up (aK af v)) (aI trivial (aI trivial trivial)))))) trivial
   exact iQ (A:=A9) mixed z<|by kernel_rfl
 ·obtain rfl:=lf h
  have z:=sg 0 c1<|eF (fP (.inr ())) (eP n v (.inr ()))
  exact mY A9 (by intro hx;cases hx) z<|by kernel_rfl
theorem mJ{x:Unit⊕(Unit)}(h:m9 v t8 t9=some x):aL Pg GE 0 (.loop (cA b9 55)) (EX (fP x) (eP n v x)) (fO n v t8 t9):=
 aL.loop (S:=fun(zz:Int)=>fO n v t8 zz) (ex:=fP) (s:=t9) h fun zz y hy=>qg n v t8 zz hy
end
def pU(n:Int)(a:waB):Option Bool:=
 (m9 a (a.length:Int) 0).bind fun o5=>match o5 with
 |(.inl o5)=>
  some false
 |(.inr o5)=>
  some (decide ((a.length:Int)<=n))
theorem uO{n:Int}{a:waB}{r:Bool}(h:pU n a=some r):CC Pg GE 9 [.int .i64 n,sl ae a] (.bool r) []:=by
 obtain⟨o5,bo5,h⟩:=aF h
 rcases o5 with o5|o5
 ·obtain rfl:=lf h
  have z:=jy (e7.ln a)<|ga (e:=.ret) (s1:=eP n a (.inl o5)) (mJ n a (a.length:Int) 0 bo5)<|en (aI (rP (.bool false))<|trivial)
  exact cq A9 call9 func9 (c:=b9) rfl (aI trivial (aI (aK af a) trivial)) z<|by kernel_rfl
 ·obtain rfl:=lf h
  have z:=jy (e7.ln a)<|ga (e:=.exit 0) (s1:=eP n a (.inr o5)) (mJ n a (a.length:Int) 0 bo5)<|jy (e7.ln a)<|en (aI (rP (.bool (decide ((a.length:Int)<=n))))<|trivial)
  exact cq A9 call9 func9 (c:=b9) rfl (aI trivial (aI (aK af a) trivial)) z<|by kernel_rfl
noncomputable def Bm:Code:=f33.body.getD .skip
def Bf:List Nat:=[20]
section
variable(t13:(List g6))(t14:Int)(m:waA)(m2:am)(m3:am)(t15:Int)(m4:waA)
def eC:aj:=cE 34 [(6,.bptr 0 0),(7,.bptr 1 0),(13,sl fQ t13),(14,.int .i64 t14),(15,.int .i64 t15)] [.cells [.str ([]:am),.str ([]:am),sl al m] [(2,43)],.cells [.str m2,.str m3,sl al m4] [(2,43)]] []
def iG(o:waA):aj:=cE 34 [(6,.bptr 0 0),(7,.bptr 1 0)] [.cells [.str ([]:am),.str ([]:am),sl al m] [(2,43)],.cells [.str m2,.str m3,sl al o] [(2,43)]] []
def lI:Option ((Int×waA)⊕(waA)):=
 if(decide (t15<t14))=true then
  (g9 t13 t15).bind fun x2=>
  (lF 3 0).bind fun i3=>
  (lF 3 1).bind fun i4=>
  (lF 3 2).bind fun i5=>
  (app m4 ([(⟨x2 (0+i3 * 1),x2 (0+i4 * 1),(x2 (0+i5 * 1))==1⟩:ak)]:List ak)).bind fun l6=>
  some (.inl (eW (t15+1),l6))
 else
  some (.inr m4)
def nD:Option waA:=loop (fun(zz:Int×waA)=>lI t13 t14 zz.1 zz.2) (t15,m4)
theorem oG{y:(Int×waA)⊕(waA)}(h:lI t13 t14 t15 m4=some y):aL Pg GE 0 (cA Bm 119) (LQ (fun(zz:Int×waA)=>eC t13 t14 m m2 m3 zz.1 zz.2) (fun _=>.exit 0) (iG m m2 m3) y) (eC t13 t14 m m2 m3 t15 m4):=by
 rcases bB h with⟨c1,h⟩|⟨c1,h⟩
 ·obtain⟨x2,bx2,h⟩:=aF h
  obtain⟨i3,bi3,h⟩:=aF h
  obtain⟨i4,bi4,h⟩:=aF h
  obtain⟨i5,bi5,h⟩:=aF h
  obtain⟨l6,bl6,h⟩:=aF h
  obtain rfl:=lf h
  have z:=sg 0 c1<|sv (tr.ia (k:=.i64) bx2)<|sv (y0 x2)<|sx BC<|sx (gY x2)<|sv (zC (b:=2) (off:=0) (k:=.i64) bi3)<|sv (zD (x:=x2) (Bw bi3))<|sv (zC (b:=2) (off:=0) (k:=.i64) bi4)<|sv (zD (x:=x2) (Bw bi4))<|sv (zC (b:=2) (off:=0) (k:=.i64) bi5)<|sv (zD (x:=x2) (Bw bi5))<|sv (mM (x2 (0+i3 * 1)) (x2 (0+i4 * 1)) ((x2 (0+i5 * 1))==1))<|sv (fK.mk' (v:=vO) uk ([(⟨x2 (0+i3 * 1),x2 (0+i4 * 1),(x2 (0+i5 * 1))==1⟩:ak)]:List ak) 1 (by kernel_rfl))<|sv (fK.ap bl6)<|sN 0 .normal (eC t13 t14 m m2 m3 (eW (t15+1)) l6) rfl (fu (aI (j9 rfl) (aI (j9 rfl) (aI (up (aK sL t13)) (aI trivial (aI trivial trivial)))))) (aI (aI trivial (aI trivial (aI (up (aK aJ m)) trivial))) (aI (aI trivial (aI trivial (aI (up (aK aJ l6)) trivial))) trivial))
  exact iQ (A:=Bf) mixed z<|by kernel_rfl
 ·obtain rfl:=lf h
  have z:=sg 0 c1<|eF (.exit 0) (iG m m2 m3 m4)
  exact mY Bf (by intro hx;cases hx) z<|by kernel_rfl
theorem pL{x:waA}(h:nD t13 t14 t15 m4=some x):aL Pg GE 0 (.loop (cA Bm 119)) (EX (.exit 0) (iG m m2 m3 x)) (eC t13 t14 m m2 m3 t15 m4):=
 aL.loop (S:=fun(zz:Int×waA)=>eC t13 t14 m m2 m3 zz.1 zz.2) (ex:=(fun _=>.exit 0)) (s:=(t15,m4)) h fun zz y hy=>oG t13 t14 m m2 m3 zz.1 zz.2 hy
end
def ft(a:am)(to:am)(arcs:(List g6)):Option ac:=
 (nD arcs (arcs.length:Int) 0 ([]:List ak)).bind fun o7=>
 some (⟨a,to,o7⟩:ac)
theorem dW{a:am}{to:am}{arcs:(List g6)}{r:ac}(h:ft a to arcs=some r):CC Pg GE 33 [.str a,.str to,sl fQ arcs] (.agg (ae r)) [(2,43)]:=by
 obtain⟨o7,bo7,h⟩:=aF h
 obtain rfl:=lf h
 have z:=sx ou<|sb (mN a to) (mK a to)<|sx ou<|sy (ch (⟨a,to,([]:List ak)⟩:ac))<|jy (tr.ln arcs)<|ga (pL arcs (arcs.length:Int) ([]:List ak) a to 0 ([]:List ak) bo7)<|sz (ba (⟨a,to,o7⟩:ac) [])<|sy (ch (⟨a,to,o7⟩:ac))<|en (aI (gy (⟨a,to,o7⟩:ac))<|aI (af (⟨a,to,o7⟩:ac))<|rT)
 exact cq Bf call33 func33 (c:=Bm) rfl (aI trivial (aI trivial (aI (aK sL arcs) trivial))) z<|by kernel_rfl
noncomputable def A3:Code:=f44.body.getD .skip
def Ai:List Nat:=[23]
section
variable(s:am)(i:Int)
def eH:aj:=cE 24 [(0,.str s),(5,.int .i64 i)] [] []
def eJ(o:(am×am)⊕(Unit)):Exit:=match o with
 |(.inl _)=>.ret
 |(.inr _)=>.exit 0
def dE(o:(am×am)⊕(Unit)):aj:=match o with
 |(.inl o)=>cE 24 [(2,.str o.1),(3,.str o.2),(4,.bool true)] [] []
 |(.inr o)=>cE 24 [(0,.str s)] [] []
def eI:Option (Int⊕((am×am)⊕(Unit))):=
 if(decide (i<(s.length:Int)))=true then
  (lU s i).bind fun c2=>
  if(c2==46)=true then
   (zn s none (some i)).bind fun s5=>
   (zn s (some (eW (i+1))) none).bind fun s6=>
   some (.inr (.inl (s5,s6)))
  else
   some (.inl (eW (i+1)))
 else
  some (.inr (.inr ()))
def kS:Option ((am×am)⊕(Unit)):=loop (fun(zz:Int)=>eI s zz) i
theorem oW{y:Int⊕((am×am)⊕(Unit))}(h:eI s i=some y):aL Pg GE 0 (cA A3 55) (LQ (fun(zz:Int)=>eH s zz) eJ (dE s) y) (eH s i):=by
 rcases bB h with⟨c1,h⟩|⟨c1,h⟩
 ·obtain⟨c2,bc2,h⟩:=aF h
  have p4:=fun{sc F} (r:PS sc F)=>jy (kA underlying9 s)<|sg 0 c1<|sv (lr (k:=.i64) underlying9 bc2)<|r
  rcases bB h with⟨c3,h⟩|⟨c3,h⟩
  ·obtain⟨s5,bs5,h⟩:=aF h
   obtain⟨s6,bs6,h⟩:=aF h
   obtain rfl:=lf h
   have z:=p4<|sg 0 c3<|wA [0,0,3,0,0,16,56,7,255,511]<|sv (zo underlying9 bs5)<|sv (zo underlying9 bs6)<|eF (eJ (.inl (s5,s6))) (dE s (.inl (s5,s6)))
   exact mY Ai (by intro hx;cases hx) z<|by kernel_rfl
  ·obtain rfl:=lf h
   exact uM Ai (p4<|sg 0 c3<|eF .normal (eH s (eW (i+1))))<|by kernel_rfl
 ·obtain rfl:=lf h
  have z:=jy (kA underlying9 s)<|sg 0 c1<|eF (eJ (.inr ())) (dE s (.inr ()))
  exact mY Ai (by intro hx;cases hx) z<|by kernel_rfl
theorem lm{x:(am×am)⊕(Unit)}(h:kS s i=some x):aL Pg GE 0 (.loop (cA A3 55)) (EX (eJ x) (dE s x)) (eH s i):=
 aL.loop (S:=fun(zz:Int)=>eH s zz) (ex:=eJ) (s:=i) h fun zz y hy=>oW s zz hy
end
def ki(s:am):Option (am×am×Bool):=
 (kS s 0).bind fun o7=>match o7 with
 |(.inl o7)=>
  some (o7.1,o7.2,true)
 |(.inr o7)=>
  some (s,([]:am),false)
theorem nX{s:am}{r:am×am×Bool}(h:ki s=some r):CC Pg GE 44 [.str s] (.tuple [.str r.1,.str r.2.1,.bool r.2.2]) []:=by
 obtain⟨o7,bo7,h⟩:=aF h
 rcases o7 with o7|o7
 ·obtain rfl:=lf h
  have z:=ga (e:=.ret) (s1:=dE s (.inl o7)) (lm s 0 bo7)<|en (aI (rP (.tuple [.str o7.1,.str o7.2,.bool true]))<|(aI trivial (aI trivial (aI trivial trivial))))
  exact cq Ai call44 func44 (c:=A3) rfl (aI trivial trivial) z<|by kernel_rfl
 ·obtain rfl:=lf h
  have z:=ga (e:=.exit 0) (s1:=dE s (.inr o7)) (lm s 0 bo7)<|en (aI (rP (.tuple [.str s,.str ([]:am),.bool false]))<|(aI trivial (aI trivial (aI trivial trivial))))
  exact cq Ai call44 func44 (c:=A3) rfl (aI trivial trivial) z<|by kernel_rfl
noncomputable def BV:Code:=f47.body.getD .skip
def BK:List Nat:=[]
def fy(s:am):Option Bool:=
 if(decide ((s.length:Int)>=1))=true then
  some (decide ((s.length:Int)<=24))
 else
  some false
theorem dF{s:am}{r:Bool}(h:fy s=some r):CC Pg GE 47 [.str s] (.bool r) []:=by
 rcases bB h with⟨c1,h⟩|⟨c1,h⟩
 ·obtain rfl:=lf h
  have z:=jy (kA underlying9 s)<|sg 4 c1<|jy (kA underlying9 s)<|en (aI (rP (.bool (decide ((s.length:Int)<=24))))<|trivial)
  exact cq BK call47 func47 (c:=BV) rfl (aI trivial trivial) z<|by kernel_rfl
 ·obtain rfl:=lf h
  have z:=jy (kA underlying9 s)<|sg 4 c1<|en (aI (rP (.bool false))<|trivial)
  exact cq BK call47 func47 (c:=BV) rfl (aI trivial trivial) z<|by kernel_rfl
noncomputable def BX:Code:=f66.body.getD .skip
def BM:List Nat:=[]
def eK(c:Int):Option Bool:=
 if(decide (97<=c))=true then
  some (decide (c<=122))
 else
  some false
theorem fV{c:Int}{r:Bool}(h:eK c=some r):CC Pg GE 66 [.int .u8 c] (.bool r) []:=by
 rcases bB h with⟨c1,h⟩|⟨c1,h⟩
 ·obtain rfl:=lf h
  have z:=sg 3 c1<|en (aI (rP (.bool (decide (c<=122))))<|trivial)
  exact cq BM call66 func66 (c:=BX) rfl (aI trivial trivial) z<|by kernel_rfl
 ·obtain rfl:=lf h
  have z:=sg 3 c1<|en (aI (rP (.bool false))<|trivial)
  exact cq BM call66 func66 (c:=BX) rfl (aI trivial trivial) z<|by kernel_rfl
noncomputable def A7:Code:=f67.body.getD .skip
def Al:List Nat:=[]
section
variable(s:am)(t6:Int)
def cO:aj:=cE 13 [(0,.str s),(5,.agg (be.map PVal.str)),(6,.int .i64 t6)] [] []
def cQ(o:Unit⊕(Unit)):Exit:=match o with
 |(.inl _)=>.ret
 |(.inr _)=>.exit 0
def cj(o:Unit⊕(Unit)):aj:=match o with
 |(.inl o)=>cE 13 [(2,.bool true)] [] []
 |(.inr o)=>cE 13 [] [] []
def cP:Option (Int⊕(Unit⊕(Unit))):=
 if(decide (t6<42))=true then
  (g9 be t6).bind fun x2=>
  if(x2==s)=true then
   some (.inr (.inl ()))
  else
   some (.inl (eW (t6+1)))
 else
  some (.inr (.inr ()))
def gw:Option (Unit⊕(Unit)):=loop (fun(zz:Int)=>cP s zz) t6
theorem lY{y:Int⊕(Unit⊕(Unit))}(h:cP s t6=some y):aL Pg GE 0 (cA A7 55) (LQ (fun(zz:Int)=>cO s zz) cQ cj y) (cO s t6):=by
 rcases bB h with⟨c1,h⟩|⟨c1,h⟩
 ·obtain⟨x2,bx2,h⟩:=aF h
  have p4:=fun{sc F} (r:PS sc F)=>sg 0 c1<|sv (nY (k:=.i64) bx2)<|r
  rcases bB h with⟨c3,h⟩|⟨c3,h⟩
  ·obtain rfl:=lf h
   have z:=p4<|sg 0 c3<|eF (cQ (.inl ())) (cj (.inl ()))
   exact mY Al (by intro hx;cases hx) z<|by kernel_rfl
  ·obtain rfl:=lf h
   exact uM Al (p4<|sg 0 c3<|eF .normal (cO s (eW (t6+1))))<|by kernel_rfl
 ·obtain rfl:=lf h
  have z:=sg 0 c1<|eF (cQ (.inr ())) (cj (.inr ()))
  exact mY Al (by intro hx;cases hx) z<|by kernel_rfl
theorem ii{x:Unit⊕(Unit)}(h:gw s t6=some x):aL Pg GE 0 (.loop (cA A7 55)) (EX (cQ x) (cj x)) (cO s t6):=
 aL.loop (S:=fun(zz:Int)=>cO s zz) (ex:=cQ) (s:=t6) h fun zz y hy=>lY s zz hy
end
def gH(s:am):Option Bool:=
 (gw s 0).bind fun o5=>match o5 with
 |(.inl o5)=>
  some true
 |(.inr o5)=>
  some false
theorem oV{s:am}{r:Bool}(h:gH s=some r):CC Pg GE 67 [.str s] (.bool r) []:=by
 obtain⟨o5,bo5,h⟩:=aF h
 rcases o5 with o5|o5
 ·obtain rfl:=lf h
  have z:=sv jF<|ga (e:=.ret) (s1:=cj (.inl o5)) (ii s 0 bo5)<|en (aI (rP (.bool true))<|trivial)
  exact cq Al call67 func67 (c:=A7) rfl (aI trivial trivial) z<|by kernel_rfl
 ·obtain rfl:=lf h
  have z:=sv jF<|ga (e:=.exit 0) (s1:=cj (.inr o5)) (ii s 0 bo5)<|en (aI (rP (.bool false))<|trivial)
  exact cq Al call67 func67 (c:=A7) rfl (aI trivial trivial) z<|by kernel_rfl
noncomputable def BY:Code:=f68.body.getD .skip
def BN:List Nat:=[]
def fx(c:Int):Option Bool:=
 if(decide (48<=c))=true then
  some (decide (c<=57))
 else
  some false
theorem iO{c:Int}{r:Bool}(h:fx c=some r):CC Pg GE 68 [.int .u8 c] (.bool r) []:=by
 rcases bB h with⟨c1,h⟩|⟨c1,h⟩
 ·obtain rfl:=lf h
  have z:=sg 3 c1<|en (aI (rP (.bool (decide (c<=57))))<|trivial)
  exact cq BN call68 func68 (c:=BY) rfl (aI trivial trivial) z<|by kernel_rfl
 ·obtain rfl:=lf h
  have z:=sg 3 c1<|en (aI (rP (.bool false))<|trivial)
  exact cq BN call68 func68 (c:=BY) rfl (aI trivial trivial) z<|by kernel_rfl
noncomputable def zF:Code:=f45.body.getD .skip
def xn:List Nat:=[]
section
variable(s:am)
def pP:aj:=cE 41 [(0,.str s)] [] []
def fg(o:Bool):aj:=cE 41 [(0,.str s),(16,.bool o)] [] []
def gI:Option Bool:=
 (fy s).bind fun r1=>
 if(!r1)=true then
  some true
 else
  (lU s 0).bind fun c3=>
  (eK c3).bind fun r4=>
  if(!r4)=true then
   some true
  else
   (gH s).bind fun r7=>
   some r7
theorem oY{x:Bool}(h:gI s=some x):aL Pg GE 0 (cA zF 12) (EX .normal (fg s x)) (pP s):=by
 obtain⟨r1,br1,h⟩:=aF h
 rcases bB h with⟨c2,h⟩|⟨c2,h⟩
 ·obtain rfl:=lf h
  exact iT xn (dj (dF br1)<|sg 4 c2<|eF .normal (fg s true))<|by kernel_rfl
 ·obtain⟨c3,bc3,h⟩:=aF h
  obtain⟨r4,br4,h⟩:=aF h
  have p6:=fun{sc F} (r:PS sc F)=>dj (dF br1)<|sg 4 c2<|sv (lr (k:=.i64) underlying9 bc3)<|dj (fV br4)<|r
  rcases bB h with⟨c5,h⟩|⟨c5,h⟩
  ·obtain rfl:=lf h
   exact iT xn (p6<|sg 10 c5<|eF .normal (fg s true))<|by kernel_rfl
  ·obtain⟨r7,br7,h⟩:=aF h
   obtain rfl:=lf h
   exact iT xn (p6<|sg 10 c5<|dj (oV br7)<|eF .normal (fg s r7))<|by kernel_rfl
end
section
variable(s:am)(i:Int)
def pQ:aj:=cE 41 [(0,.str s),(3,.int .i64 i)] [] []
def fh(o:Bool):aj:=cE 41 [(0,.str s),(3,.int .i64 i),(40,.bool o)] [] []
def gJ:Option Bool:=
 (lU s i).bind fun c12=>
 (eK c12).bind fun r13=>
 if(!r13)=true then
  (lU s i).bind fun c16=>
  (fx c16).bind fun r17=>
  if(!r17)=true then
   (lU s i).bind fun c20=>
   some (c20 !=95)
  else
   some false
 else
  some false
theorem o0{x:Bool}(h:gJ s i=some x):aL Pg GE 0 (cA zF 1914) (EX .normal (fh s i x)) (pQ s i):=by
 obtain⟨c12,bc12,h⟩:=aF h
 obtain⟨r13,br13,h⟩:=aF h
 have p15:=fun{sc F} (r:PS sc F)=>sv (lr (k:=.i64) underlying9 bc12)<|dj (fV br13)<|r
 rcases bB h with⟨c14,h⟩|⟨c14,h⟩
 ·obtain⟨c16,bc16,h⟩:=aF h
  obtain⟨r17,br17,h⟩:=aF h
  have p19:=fun{sc F} (r:PS sc F)=>p15<|sg 6 c14<|sv (lr (k:=.i64) underlying9 bc16)<|dj (iO br17)<|r
  rcases bB h with⟨c18,h⟩|⟨c18,h⟩
  ·obtain⟨c20,bc20,h⟩:=aF h
   obtain rfl:=lf h
   exact iT xn (p19<|sg 13 c18<|sv (lr (k:=.i64) underlying9 bc20)<|eF .normal (fh s i (c20 !=95)))<|by kernel_rfl
  ·obtain rfl:=lf h
   exact iT xn (p19<|sg 13 c18<|eF .normal (fh s i false))<|by kernel_rfl
 ·obtain rfl:=lf h
  exact iT xn (p15<|sg 6 c14<|eF .normal (fh s i false))<|by kernel_rfl
end
section
variable(s:am)(i:Int)
def d7:aj:=cE 41 [(0,.str s),(3,.int .i64 i)] [] []
def d8(o:Unit⊕(Unit)):Exit:=match o with
 |(.inl _)=>.ret
 |(.inr _)=>.exit 0
def dh(o:Unit⊕(Unit)):aj:=match o with
 |(.inl o)=>cE 41 [(2,.bool false)] [] []
 |(.inr o)=>cE 41 [] [] []
def fi:Option (Int⊕(Unit⊕(Unit))):=
 if(decide (i<(s.length:Int)))=true then
  (gJ s i).bind fun o21=>
  if o21=true then
   some (.inr (.inl ()))
  else
   some (.inl (eW (i+1)))
 else
  some (.inr (.inr ()))
def gK:Option (Unit⊕(Unit)):=loop (fun(zz:Int)=>fi s zz) i
theorem nZ{y:Int⊕(Unit⊕(Unit))}(h:fi s i=some y):aL Pg GE 0 (cA zF 119) (LQ (fun(zz:Int)=>d7 s zz) d8 dh y) (d7 s i):=by
 rcases bB h with⟨c11,h⟩|⟨c11,h⟩
 ·obtain⟨o21,bo21,h⟩:=aF h
  have p23:=fun{sc F} (r:PS sc F)=>jy (kA underlying9 s)<|sg 0 c11<|sw 1<|ga (o0 s i bo21)<|r
  rcases bB h with⟨c22,h⟩|⟨c22,h⟩
  ·obtain rfl:=lf h
   have z:=p23<|sg 0 c22<|eF (d8 (.inl ())) (dh (.inl ()))
   exact mY xn (by intro hx;cases hx) z<|by kernel_rfl
  ·obtain rfl:=lf h
   exact uM xn (p23<|sg 0 c22<|eF .normal (d7 s (eW (i+1))))<|by kernel_rfl
 ·obtain rfl:=lf h
  have z:=jy (kA underlying9 s)<|sg 0 c11<|eF (d8 (.inr ())) (dh (.inr ()))
  exact mY xn (by intro hx;cases hx) z<|by kernel_rfl
theorem kj{x:Unit⊕(Unit)}(h:gK s i=some x):aL Pg GE 0 (.loop (cA zF 119)) (EX (d8 x) (dh x)) (d7 s i):=
 aL.loop (S:=fun(zz:Int)=>d7 s zz) (ex:=d8) (s:=i) h fun zz y hy=>nZ s zz hy
end
def kT(s:am):Option Bool:=
 (gI s).bind fun o8=>
 if o8=true then
  some false
 else
  (gK s 1).bind fun o24=>match o24 with
  |(.inl o24)=>
   some false
  |(.inr o24)=>
   some true
theorem mX{s:am}{r:Bool}(h:kT s=some r):CC Pg GE 45 [.str s] (.bool r) []:=by
 obtain⟨o8,bo8,h⟩:=aF h
 have p10:=fun{sc F} (r:PS sc F)=>sw 2<|ga (oY s bo8)<|r
 rcases bB h with⟨c9,h⟩|⟨c9,h⟩
 ·obtain rfl:=lf h
  have z:=p10<|sg 0 c9<|en (aI (rP (.bool false))<|trivial)
  exact cq xn call45 func45 (c:=zF) rfl (aI trivial trivial) z<|by kernel_rfl
 ·obtain⟨o24,bo24,h⟩:=aF h
  rcases o24 with o24|o24
  ·obtain rfl:=lf h
   have z:=p10<|sg 0 c9<|ga (e:=.ret) (s1:=dh (.inl o24)) (kj s 1 bo24)<|en (aI (rP (.bool false))<|trivial)
   exact cq xn call45 func45 (c:=zF) rfl (aI trivial trivial) z<|by kernel_rfl
  ·obtain rfl:=lf h
   have z:=p10<|sg 0 c9<|ga (e:=.exit 0) (s1:=dh (.inr o24)) (kj s 1 bo24)<|en (aI (rP (.bool true))<|trivial)
   exact cq xn call45 func45 (c:=zF) rfl (aI trivial trivial) z<|by kernel_rfl
noncomputable def BZ:Code:=f69.body.getD .skip
def BO:List Nat:=[]
def e6(c:Int):Option Bool:=
 if(decide (65<=c))=true then
  some (decide (c<=90))
 else
  some false
theorem kh{c:Int}{r:Bool}(h:e6 c=some r):CC Pg GE 69 [.int .u8 c] (.bool r) []:=by
 rcases bB h with⟨c1,h⟩|⟨c1,h⟩
 ·obtain rfl:=lf h
  have z:=sg 3 c1<|en (aI (rP (.bool (decide (c<=90))))<|trivial)
  exact cq BO call69 func69 (c:=BZ) rfl (aI trivial trivial) z<|by kernel_rfl
 ·obtain rfl:=lf h
  have z:=sg 3 c1<|en (aI (rP (.bool false))<|trivial)
  exact cq BO call69 func69 (c:=BZ) rfl (aI trivial trivial) z<|by kernel_rfl
noncomputable def Ay:Code:=f48.body.getD .skip
def ze:List Nat:=[]
section
variable(s:am)(i:Int)
def kf:aj:=cE 29 [(0,.str s),(3,.int .i64 i)] [] []
def cu(o:Bool):aj:=cE 29 [(0,.str s),(3,.int .i64 i),(28,.bool o)] [] []
def cX:Option Bool:=
 (lU s i).bind fun c2=>
 (eK c2).bind fun r3=>
 if(!r3)=true then
  (lU s i).bind fun c6=>
  (e6 c6).bind fun r7=>
  if(!r7)=true then
   (lU s i).bind fun c10=>
   (fx c10).bind fun r11=>
   some (!r11)
  else
   some false
 else
  some false
theorem jQ{x:Bool}(h:cX s i=some x):aL Pg GE 0 (cA Ay 890) (EX .normal (cu s i x)) (kf s i):=by
 obtain⟨c2,bc2,h⟩:=aF h
 obtain⟨r3,br3,h⟩:=aF h
 have p5:=fun{sc F} (r:PS sc F)=>sv (lr (k:=.i64) underlying9 bc2)<|dj (fV br3)<|r
 rcases bB h with⟨c4,h⟩|⟨c4,h⟩
 ·obtain⟨c6,bc6,h⟩:=aF h
  obtain⟨r7,br7,h⟩:=aF h
  have p9:=fun{sc F} (r:PS sc F)=>p5<|sg 6 c4<|sv (lr (k:=.i64) underlying9 bc6)<|dj (kh br7)<|r
  rcases bB h with⟨c8,h⟩|⟨c8,h⟩
  ·obtain⟨c10,bc10,h⟩:=aF h
   obtain⟨r11,br11,h⟩:=aF h
   obtain rfl:=lf h
   exact iT ze (p9<|sg 13 c8<|sv (lr (k:=.i64) underlying9 bc10)<|dj (iO br11)<|eF .normal (cu s i (!r11)))<|by kernel_rfl
  ·obtain rfl:=lf h
   exact iT ze (p9<|sg 13 c8<|eF .normal (cu s i false))<|by kernel_rfl
 ·obtain rfl:=lf h
  exact iT ze (p5<|sg 6 c4<|eF .normal (cu s i false))<|by kernel_rfl
end
section
variable(s:am)(i:Int)
def bE:aj:=cE 29 [(0,.str s),(3,.int .i64 i)] [] []
def bG(o:Unit⊕(Unit)):Exit:=match o with
 |(.inl _)=>.ret
 |(.inr _)=>.exit 0
def aX(o:Unit⊕(Unit)):aj:=match o with
 |(.inl o)=>cE 29 [(2,.bool false)] [] []
 |(.inr o)=>cE 29 [] [] []
def bF:Option (Int⊕(Unit⊕(Unit))):=
 if(decide (i<(s.length:Int)))=true then
  (cX s i).bind fun o12=>
  if o12=true then
   some (.inr (.inl ()))
  else
   some (.inl (eW (i+1)))
 else
  some (.inr (.inr ()))
def eh:Option (Unit⊕(Unit)):=loop (fun(zz:Int)=>bF s zz) i
theorem jl{y:Int⊕(Unit⊕(Unit))}(h:bF s i=some y):aL Pg GE 0 (cA Ay 55) (LQ (fun(zz:Int)=>bE s zz) bG aX y) (bE s i):=by
 rcases bB h with⟨c1,h⟩|⟨c1,h⟩
 ·obtain⟨o12,bo12,h⟩:=aF h
  have p14:=fun{sc F} (r:PS sc F)=>jy (kA underlying9 s)<|sg 0 c1<|sw 1<|ga (jQ s i bo12)<|r
  rcases bB h with⟨c13,h⟩|⟨c13,h⟩
  ·obtain rfl:=lf h
   have z:=p14<|sg 0 c13<|eF (bG (.inl ())) (aX (.inl ()))
   exact mY ze (by intro hx;cases hx) z<|by kernel_rfl
  ·obtain rfl:=lf h
   exact uM ze (p14<|sg 0 c13<|eF .normal (bE s (eW (i+1))))<|by kernel_rfl
 ·obtain rfl:=lf h
  have z:=jy (kA underlying9 s)<|sg 0 c1<|eF (bG (.inr ())) (aX (.inr ()))
  exact mY ze (by intro hx;cases hx) z<|by kernel_rfl
theorem e5{x:Unit⊕(Unit)}(h:eh s i=some x):aL Pg GE 0 (.loop (cA Ay 55)) (EX (bG x) (aX x)) (bE s i):=
 aL.loop (S:=fun(zz:Int)=>bE s zz) (ex:=bG) (s:=i) h fun zz y hy=>jl s zz hy
end
def cR(s:am):Option Bool:=
 (eh s 0).bind fun o15=>match o15 with
 |(.inl o15)=>
  some false
 |(.inr o15)=>
  some true
theorem gd{s:am}{r:Bool}(h:cR s=some r):CC Pg GE 48 [.str s] (.bool r) []:=by
 obtain⟨o15,bo15,h⟩:=aF h
 rcases o15 with o15|o15
 ·obtain rfl:=lf h
  have z:=ga (e:=.ret) (s1:=aX (.inl o15)) (e5 s 0 bo15)<|en (aI (rP (.bool false))<|trivial)
  exact cq ze call48 func48 (c:=Ay) rfl (aI trivial trivial) z<|by kernel_rfl
 ·obtain rfl:=lf h
  have z:=ga (e:=.exit 0) (s1:=aX (.inr o15)) (e5 s 0 bo15)<|en (aI (rP (.bool true))<|trivial)
  exact cq ze call48 func48 (c:=Ay) rfl (aI trivial trivial) z<|by kernel_rfl
noncomputable def Ae:Code:=f46.body.getD .skip
def zd:List Nat:=[]
section
variable(s:am)
def pb:aj:=cE 31 [(0,.str s)] [] []
def eR(o:Bool):aj:=cE 31 [(0,.str s),(16,.bool o)] [] []
def fW:Option Bool:=
 (fy s).bind fun r1=>
 if(!r1)=true then
  some true
 else
  (lU s 0).bind fun c3=>
  (e6 c3).bind fun r4=>
  if(!r4)=true then
   some true
  else
   (cR s).bind fun r7=>
   some (!r7)
theorem n8{x:Bool}(h:fW s=some x):aL Pg GE 0 (cA Ae 12) (EX .normal (eR s x)) (pb s):=by
 obtain⟨r1,br1,h⟩:=aF h
 rcases bB h with⟨c2,h⟩|⟨c2,h⟩
 ·obtain rfl:=lf h
  exact iT zd (dj (dF br1)<|sg 4 c2<|eF .normal (eR s true))<|by kernel_rfl
 ·obtain⟨c3,bc3,h⟩:=aF h
  obtain⟨r4,br4,h⟩:=aF h
  have p6:=fun{sc F} (r:PS sc F)=>dj (dF br1)<|sg 4 c2<|sv (lr (k:=.i64) underlying9 bc3)<|dj (kh br4)<|r
  rcases bB h with⟨c5,h⟩|⟨c5,h⟩
  ·obtain rfl:=lf h
   exact iT zd (p6<|sg 10 c5<|eF .normal (eR s true))<|by kernel_rfl
  ·obtain⟨r7,br7,h⟩:=aF h
   obtain rfl:=lf h
   exact iT zd (p6<|sg 10 c5<|dj (gd br7)<|eF .normal (eR s (!r7)))<|by kernel_rfl
end
def jG(s:am):Option Bool:=
 (fW s).bind fun o8=>
 if o8=true then
  some false
 else
  if (!(s == ([73,110,116]:am))) = true then
   if(!(s==([66,111,111,108]:am)))=true then
    if(!(s==([67,101,108,108]:am)))=true then
     some (!(s==([70,117,110]:am)))
    else
     some false
   else
    some false
  else
   some false
theorem qH{s:am}{r:Bool}(h:jG s=some r):CC Pg GE 46 [.str s] (.bool r) []:=by
 obtain⟨o8,bo8,h⟩:=aF h
 have p10:=fun{sc F} (r:PS sc F)=>sw 2<|ga (n8 s bo8)<|r
 rcases bB h with⟨c9,h⟩|⟨c9,h⟩
 ·obtain rfl:=lf h
  have z:=p10<|sg 0 c9<|en (aI (rP (.bool false))<|trivial)
  exact cq zd call46 func46 (c:=Ae) rfl (aI trivial trivial) z<|by kernel_rfl
 ·have p12:=fun{sc F} (r:PS sc F)=>p10<|sg 0 c9<|r
  rcases bB h with⟨c11,h⟩|⟨c11,h⟩
  ·have p14:=fun{sc F} (r:PS sc F)=>p12<|sg 3 c11<|r
   rcases bB h with⟨c13,h⟩|⟨c13,h⟩
   ·have p16:=fun{sc F} (r:PS sc F)=>p14<|sg 7 c13<|r
    rcases bB h with⟨c15,h⟩|⟨c15,h⟩
    ·obtain rfl:=lf h
     have z:=p16<|sg 11 c15<|en (aI (rP (.bool (!(s==([70,117,110]:am)))))<|trivial)
     exact cq zd call46 func46 (c:=Ae) rfl (aI trivial trivial) z<|by kernel_rfl
    ·obtain rfl:=lf h
     have z:=p16<|sg 11 c15<|en (aI (rP (.bool false))<|trivial)
     exact cq zd call46 func46 (c:=Ae) rfl (aI trivial trivial) z<|by kernel_rfl
   ·obtain rfl:=lf h
    have z:=p14<|sg 7 c13<|en (aI (rP (.bool false))<|trivial)
    exact cq zd call46 func46 (c:=Ae) rfl (aI trivial trivial) z<|by kernel_rfl
  ·obtain rfl:=lf h
   have z:=p12<|sg 3 c11<|en (aI (rP (.bool false))<|trivial)
   exact cq zd call46 func46 (c:=Ae) rfl (aI trivial trivial) z<|by kernel_rfl
noncomputable def Az:Code:=f49.body.getD .skip
def yG:List Nat:=[]
section
variable(s:am)(i:Int)
def pR:aj:=cE 32 [(0,.str s),(3,.int .i64 i)] [] []
def d9(o:Bool):aj:=cE 32 [(0,.str s),(3,.int .i64 i),(31,.bool o)] [] []
def gL:Option Bool:=
 (lU s i).bind fun c2=>
 (eK c2).bind fun r3=>
 if (!r3) = true then
  if(i==0)=true then
   some true
  else
   (lU s i).bind fun c8=>
   (fx c8).bind fun r9=>
   if(!r9)=true then
    (lU s i).bind fun c12=>
    some (c12 !=95)
   else
    some false
 else
  some false
theorem pe{x:Bool}(h:gL s i=some x):aL Pg GE 0 (cA Az 890) (EX .normal (d9 s i x)) (pR s i):=by
 obtain⟨c2,bc2,h⟩:=aF h
 obtain⟨r3,br3,h⟩:=aF h
 have p5:=fun{sc F} (r:PS sc F)=>sv (lr (k:=.i64) underlying9 bc2)<|dj (fV br3)<|r
 rcases bB h with⟨c4,h⟩|⟨c4,h⟩
 ·have p7:=fun{sc F} (r:PS sc F)=>p5<|sg 6 c4<|r
  rcases bB h with⟨c6,h⟩|⟨c6,h⟩
  ·obtain rfl:=lf h
   exact iT yG (p7<|sg 9 c6<|eF .normal (d9 s i true))<|by kernel_rfl
  ·obtain⟨c8,bc8,h⟩:=aF h
   obtain⟨r9,br9,h⟩:=aF h
   have p11:=fun{sc F} (r:PS sc F)=>p7<|sg 9 c6<|sv (lr (k:=.i64) underlying9 bc8)<|dj (iO br9)<|r
   rcases bB h with⟨c10,h⟩|⟨c10,h⟩
   ·obtain⟨c12,bc12,h⟩:=aF h
    obtain rfl:=lf h
    exact iT yG (p11<|sg 15 c10<|sv (lr (k:=.i64) underlying9 bc12)<|eF .normal (d9 s i (c12 !=95)))<|by kernel_rfl
   ·obtain rfl:=lf h
    exact iT yG (p11<|sg 15 c10<|eF .normal (d9 s i false))<|by kernel_rfl
 ·obtain rfl:=lf h
  exact iT yG (p5<|sg 6 c4<|eF .normal (d9 s i false))<|by kernel_rfl
end
section
variable(s:am)(i:Int)
def ea:aj:=cE 32 [(0,.str s),(3,.int .i64 i)] [] []
def ec(o:Unit⊕(Unit)):Exit:=match o with
 |(.inl _)=>.ret
 |(.inr _)=>.exit 0
def di(o:Unit⊕(Unit)):aj:=match o with
 |(.inl o)=>cE 32 [(2,.bool false)] [] []
 |(.inr o)=>cE 32 [] [] []
def eb:Option (Int⊕(Unit⊕(Unit))):=
 if(decide (i<(s.length:Int)))=true then
  (gL s i).bind fun o13=>
  if o13=true then
   some (.inr (.inl ()))
  else
   some (.inl (eW (i+1)))
 else
  some (.inr (.inr ()))
def jR:Option (Unit⊕(Unit)):=loop (fun(zz:Int)=>eb s zz) i
theorem n9{y:Int⊕(Unit⊕(Unit))}(h:eb s i=some y):aL Pg GE 0 (cA Az 55) (LQ (fun(zz:Int)=>ea s zz) ec di y) (ea s i):=by
 rcases bB h with⟨c1,h⟩|⟨c1,h⟩
 ·obtain⟨o13,bo13,h⟩:=aF h
  have p15:=fun{sc F} (r:PS sc F)=>jy (kA underlying9 s)<|sg 0 c1<|sw 1<|ga (pe s i bo13)<|r
  rcases bB h with⟨c14,h⟩|⟨c14,h⟩
  ·obtain rfl:=lf h
   have z:=p15<|sg 0 c14<|eF (ec (.inl ())) (di (.inl ()))
   exact mY yG (by intro hx;cases hx) z<|by kernel_rfl
  ·obtain rfl:=lf h
   exact uM yG (p15<|sg 0 c14<|eF .normal (ea s (eW (i+1))))<|by kernel_rfl
 ·obtain rfl:=lf h
  have z:=jy (kA underlying9 s)<|sg 0 c1<|eF (ec (.inr ())) (di (.inr ()))
  exact mY yG (by intro hx;cases hx) z<|by kernel_rfl
theorem kl{x:Unit⊕(Unit)}(h:jR s i=some x):aL Pg GE 0 (.loop (cA Az 55)) (EX (ec x) (di x)) (ea s i):=
 aL.loop (S:=fun(zz:Int)=>ea s zz) (ex:=ec) (s:=i) h fun zz y hy=>n9 s zz hy
end
def kU(s:am):Option Bool:=
 (jR s 0).bind fun o16=>match o16 with
 |(.inl o16)=>
  some false
 |(.inr o16)=>
  some true
theorem rz{s:am}{r:Bool}(h:kU s=some r):CC Pg GE 49 [.str s] (.bool r) []:=by
 obtain⟨o16,bo16,h⟩:=aF h
 rcases o16 with o16|o16
 ·obtain rfl:=lf h
  have z:=ga (e:=.ret) (s1:=di (.inl o16)) (kl s 0 bo16)<|en (aI (rP (.bool false))<|trivial)
  exact cq yG call49 func49 (c:=Az) rfl (aI trivial trivial) z<|by kernel_rfl
 ·obtain rfl:=lf h
  have z:=ga (e:=.exit 0) (s1:=di (.inr o16)) (kl s 0 bo16)<|en (aI (rP (.bool true))<|trivial)
  exact cq yG call49 func49 (c:=Az) rfl (aI trivial trivial) z<|by kernel_rfl
noncomputable def zg:Code:=f25.body.getD .skip
def vR:List Nat:=[]
section
variable(first:am)(rest:am)(more:Bool)
def pN:aj:=cE 52 [(3,.str first),(4,.str rest),(5,.bool more)] [] []
def d4(o:Bool):aj:=cE 52 [(4,.str rest),(5,.bool more),(31,.bool o)] [] []
def gF:Option Bool:=
 (kT first).bind fun r3=>
 if (!r3) = true then
  (jG first).bind fun r5=>
  if(!r5)=true then
   if(!(first==([118]:am)))=true then
    some true
   else
    some (!more)
  else
   some false
 else
  some false
theorem oQ{x:Bool}(h:gF first more=some x):aL Pg GE 0 (cA zg 60) (EX .normal (d4 rest more x)) (pN first rest more):=by
 obtain⟨r3,br3,h⟩:=aF h
 rcases bB h with⟨c4,h⟩|⟨c4,h⟩
 ·obtain⟨r5,br5,h⟩:=aF h
  have p7:=fun{sc F} (r:PS sc F)=>dj (mX br3)<|sg 4 c4<|dj (qH br5)<|r
  rcases bB h with⟨c6,h⟩|⟨c6,h⟩
  ·have p9:=fun{sc F} (r:PS sc F)=>p7<|sg 9 c6<|r
   rcases bB h with⟨c8,h⟩|⟨c8,h⟩
   ·obtain rfl:=lf h
    exact iT vR (p9<|sg 12 c8<|eF .normal (d4 rest more true))<|by kernel_rfl
   ·obtain rfl:=lf h
    exact iT vR (p9<|sg 12 c8<|eF .normal (d4 rest more (!more)))<|by kernel_rfl
  ·obtain rfl:=lf h
   exact iT vR (p7<|sg 9 c6<|eF .normal (d4 rest more false))<|by kernel_rfl
 ·obtain rfl:=lf h
  exact iT vR (dj (mX br3)<|sg 4 c4<|eF .normal (d4 rest more false))<|by kernel_rfl
end
section
variable(rest:am)(more:Bool)(part:am)
def pO:aj:=cE 52 [(4,.str rest),(5,.bool more),(6,.str part)] [] []
def ff(o:Bool):aj:=cE 52 [(4,.str rest),(5,.bool more),(51,.bool o)] [] []
def gG:Option Bool:=
 (fy part).bind fun r15=>
 if(!r15)=true then
  some true
 else
  (cR part).bind fun r17=>
  if(!r17)=true then
   (kU part).bind fun r20=>
   some (!r20)
  else
   some false
theorem oS{x:Bool}(h:gG part=some x):aL Pg GE 0 (cA zg 8062) (EX .normal (ff rest more x)) (pO rest more part):=by
 obtain⟨r15,br15,h⟩:=aF h
 rcases bB h with⟨c16,h⟩|⟨c16,h⟩
 ·obtain rfl:=lf h
  exact iT vR (dj (dF br15)<|sg 4 c16<|eF .normal (ff rest more true))<|by kernel_rfl
 ·obtain⟨r17,br17,h⟩:=aF h
  have p19:=fun{sc F} (r:PS sc F)=>dj (dF br15)<|sg 4 c16<|dj (gd br17)<|r
  rcases bB h with⟨c18,h⟩|⟨c18,h⟩
  ·obtain⟨r20,br20,h⟩:=aF h
   obtain rfl:=lf h
   exact iT vR (p19<|sg 8 c18<|dj (rz br20)<|eF .normal (ff rest more (!r20)))<|by kernel_rfl
  ·obtain rfl:=lf h
   exact iT vR (p19<|sg 8 c18<|eF .normal (ff rest more false))<|by kernel_rfl
end
section
variable(rest:am)(more:Bool)
def d5:aj:=cE 52 [(4,.str rest),(5,.bool more)] [] []
def d6(o:Unit⊕(Unit)):Exit:=match o with
 |(.inl _)=>.ret
 |(.inr _)=>.exit 0
def dg(o:Unit⊕(Unit)):aj:=match o with
 |(.inl o)=>cE 52 [(2,.int .i64 3)] [] []
 |(.inr o)=>cE 52 [] [] []
def df:Option ((am×Bool)⊕(Unit⊕(Unit))):=
 if more=true then
  (ki rest).bind fun r14=>
  (gG r14.1).bind fun o21=>
  if o21=true then
   some (.inr (.inl ()))
  else
   some (.inl (r14.2.1,r14.2.2))
 else
  some (.inr (.inr ()))
def cH:Option (Unit⊕(Unit)):=loop (fun(zz:am×Bool)=>df zz.1 zz.2) (rest,more)
theorem nV{y:(am×Bool)⊕(Unit⊕(Unit))}(h:df rest more=some y):aL Pg GE 0 (cA zg 251) (LQ (fun(zz:am×Bool)=>d5 zz.1 zz.2) d6 dg y) (d5 rest more):=by
 rcases bB h with⟨c13,h⟩|⟨c13,h⟩
 ·obtain⟨r14,br14,h⟩:=aF h
  obtain⟨o21,bo21,h⟩:=aF h
  have p23:=fun{sc F} (r:PS sc F)=>sg 0 c13<|dj (nX br14)<|sw 0<|ga (oS r14.2.1 r14.2.2 r14.1 bo21)<|r
  rcases bB h with⟨c22,h⟩|⟨c22,h⟩
  ·obtain rfl:=lf h
   have z:=p23<|sg 0 c22<|eF (d6 (.inl ())) (dg (.inl ()))
   exact mY vR (by intro hx;cases hx) z<|by kernel_rfl
  ·obtain rfl:=lf h
   exact uM vR (p23<|sg 0 c22<|eF .normal (d5 r14.2.1 r14.2.2))<|by kernel_rfl
 ·obtain rfl:=lf h
  have z:=sg 0 c13<|eF (d6 (.inr ())) (dg (.inr ()))
  exact mY vR (by intro hx;cases hx) z<|by kernel_rfl
theorem ke{x:Unit⊕(Unit)}(h:cH rest more=some x):aL Pg GE 0 (.loop (cA zg 251)) (EX (d6 x) (dg x)) (d5 rest more):=
 aL.loop (S:=fun(zz:am×Bool)=>d5 zz.1 zz.2) (ex:=d6) (s:=(rest,more)) h fun zz y hy=>nV zz.1 zz.2 hy
end
def iL(s:am):Option Int:=
 if(decide ((s.length:Int)>120))=true then
  some 3
 else
  (ki s).bind fun r2=>
  (gF r2.1 r2.2.2).bind fun o10=>
  if o10=true then
   some 3
  else
   (cH r2.2.1 r2.2.2).bind fun o24=>match o24 with
   |(.inl o24)=>
    some 3
   |(.inr o24)=>
    some 0
theorem mW{s:am}{r:Int}(h:iL s=some r):CC Pg GE 25 [.str s] (.int .i64 r) []:=by
 rcases bB h with⟨c1,h⟩|⟨c1,h⟩
 ·obtain rfl:=lf h
  have z:=jy (kA underlying9 s)<|sg 0 c1<|en (aI (rP (.int .i64 3))<|trivial)
  exact cq vR call25 func25 (c:=zg) rfl (aI trivial trivial) z<|by kernel_rfl
 ·obtain⟨r2,br2,h⟩:=aF h
  obtain⟨o10,bo10,h⟩:=aF h
  have p12:=fun{sc F} (r:PS sc F)=>jy (kA underlying9 s)<|sg 0 c1<|dj (nX br2)<|sw 1<|ga (oQ r2.1 r2.2.1 r2.2.2 bo10)<|r
  rcases bB h with⟨c11,h⟩|⟨c11,h⟩
  ·obtain rfl:=lf h
   have z:=p12<|sg 0 c11<|en (aI (rP (.int .i64 3))<|trivial)
   exact cq vR call25 func25 (c:=zg) rfl (aI trivial trivial) z<|by kernel_rfl
  ·obtain⟨o24,bo24,h⟩:=aF h
   rcases o24 with o24|o24
   ·obtain rfl:=lf h
    have z:=p12<|sg 0 c11<|ga (e:=.ret) (s1:=dg (.inl o24)) (ke r2.2.1 r2.2.2 bo24)<|en (aI (rP (.int .i64 3))<|trivial)
    exact cq vR call25 func25 (c:=zg) rfl (aI trivial trivial) z<|by kernel_rfl
   ·obtain rfl:=lf h
    have z:=p12<|sg 0 c11<|ga (e:=.exit 0) (s1:=dg (.inr o24)) (ke r2.2.1 r2.2.2 bo24)<|en (aI (rP (.int .i64 0))<|trivial)
    exact cq vR call25 func25 (c:=zg) rfl (aI trivial trivial) z<|by kernel_rfl
noncomputable def BQ:Code:=f26.body.getD .skip
def BG:List Nat:=[]
def dU(n:Int):Option Bool:=
 if(decide (n>=0))=true then
  some (decide (n<6))
 else
  some false
theorem ij{n:Int}{r:Bool}(h:dU n=some r):CC Pg GE 26 [.int .i64 n] (.bool r) []:=by
 rcases bB h with⟨c1,h⟩|⟨c1,h⟩
 ·obtain rfl:=lf h
  have z:=sg 3 c1<|en (aI (rP (.bool (decide (n<6))))<|trivial)
  exact cq BG call26 func26 (c:=BQ) rfl (aI trivial trivial) z<|by kernel_rfl
 ·obtain rfl:=lf h
  have z:=sg 3 c1<|en (aI (rP (.bool false))<|trivial)
  exact cq BG call26 func26 (c:=BQ) rfl (aI trivial trivial) z<|by kernel_rfl
noncomputable def Bl:Code:=f27.body.getD .skip
def Be:List Nat:=[]
def eB(a:ak)(a2:ak):Option Bool:=
 if(decide (a.From<a2.From))=true then
  some true
 else
  if(a.From==a2.From)=true then
   some (decide (a.To<a2.To))
  else
   some false
theorem mj{a:ak}{a2:ak}{r:Bool}(h:eB a a2=some r):CC Pg GE 27 [.agg (al a),.agg (al a2)] (.bool r) []:=by
 have p2:=fun{sc F} (r:PS sc F)=>se (ol a)<|se (ol a2)<|sv (dX a)<|sv (eG a)<|sv (dX a2)<|sv (eG a2)<|r
 rcases bB h with⟨c1,h⟩|⟨c1,h⟩
 ·obtain rfl:=lf h
  have z:=p2<|sg 6 c1<|en (aI (rP (.bool true))<|trivial)
  exact cq Be call27 func27 (c:=Bl) rfl (aI (aJ a) (aI (aJ a2) trivial)) z<|by kernel_rfl
 ·have p4:=fun{sc F} (r:PS sc F)=>p2<|sg 6 c1<|sv (dX a)<|sv (eG a)<|sv (dX a2)<|sv (eG a2)<|r
  rcases bB h with⟨c3,h⟩|⟨c3,h⟩
  ·obtain rfl:=lf h
   have z:=p4<|sg 12 c3<|sv (fS a)<|sv (gX a)<|sv (fS a2)<|sv (gX a2)<|en (aI (rP (.bool (decide (a.To<a2.To))))<|trivial)
   exact cq Be call27 func27 (c:=Bl) rfl (aI (aJ a) (aI (aJ a2) trivial)) z<|by kernel_rfl
  ·obtain rfl:=lf h
   have z:=p4<|sg 12 c3<|en (aI (rP (.bool false))<|trivial)
   exact cq Be call27 func27 (c:=Bl) rfl (aI (aJ a) (aI (aJ a2) trivial)) z<|by kernel_rfl
end Go.Proofs.YtoficachfgggjaaDoor
