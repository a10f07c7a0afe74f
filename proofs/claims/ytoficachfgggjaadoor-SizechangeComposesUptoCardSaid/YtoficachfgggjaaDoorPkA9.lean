/- PROVED: a part of the proof. Conditions: none. -/
import Derived.Test.YtoficachfgggjaaDoorPkA8
import Derived.Test.YtoficachfgggjaaDoorPkA7
import Derived.Shelf.Strconv.Itoa3
noncomputable section
namespace Go.Proofs.YtoficachfgggjaaDoor
open Go Go.Shelf Go.RowKit Go.Lib Go.Sort
set_option linter.unusedSimpArgs false
set_option linter.unusedVariables false
def kV(n t nb i:Nat)(p:PVal)(e:TypeId):al:=⟨(List.replicate n .undef).set t (.bptr i 0),(List.replicate nb .dead).set i (.cells [p] [(0,e)]),[]⟩
theorem CH{n t nb i j:Nat}{p q:PVal}{e:TypeId}(h:(kV n t nb i p e).tmps[j]? =some q):q=.undef\/(j=t/\q=.bptr i 0):=by
 unfold kV at h
 simp only at h
 rw[vbo]at h
 split at h
 ·rename_i hti
  split at h
  ·cases h;exact .inr ⟨hti.symm,rfl⟩
  ·cases h
 ·rw[vaO]at h
  split at h
  ·cases h;exact .inl rfl
  ·cases h
theorem Ah{n t nb i j:Nat}{p:PVal}{e:TypeId}{B:ai}(h:(kV n t nb i p e).boxes[j]? =some B):(j=i/\B=.cells [p] [(0,e)])\/(j≠i/\B=.dead):=by
 unfold kV at h
 simp only at h
 rw[vbo]at h
 split at h
 ·rename_i hti
  split at h
  ·cases h;exact .inl ⟨hti.symm,rfl⟩
  ·cases h
 ·rename_i hti
  rw[vaO]at h
  split at h
  ·cases h;exact .inr ⟨fun e=>hti e.symm,rfl⟩
  ·cases h
section
variable{P:Program}{GE:List (Nat×List PVal)}{α:Type}[DecidableEq α]{c:α->List PVal}{ord:α->α->Option Int}
theorem zG{T e:TypeId}{K:List Nat}{fs fo rid n t nb i d1 d2:Nat}{o1 o2:Oper}{tys:Array TypeId}{l r:List α}(s:vC P T e c)(hS:zO P fs (P.cellsOf e))(hsc:(P.underlying T).any oI=true)
  (hcc:∀x y r,ord x y=some r->CC P GE fo [.agg (c x),.agg (c y)] (.int .i64 r) []) (hof:∀vs w,(callFunc fo vs).run P w=.ok (.enter fo vs) w)
  (hfl:∀x,∀q∈c x,yl K q/\q.kd∈K/\q.kd≠0) (h1:o1.op=.load T (.tmp t)) (h1d:o1.dst=some d1) (h1g:o1.guard=none)
  (h2:o2.op=.call {callee:=.value (.func fs),args:=#[.tmp d1,.func fo],argTypes:=tys}) (h2d:o2.dst=some d2) (h2g:o2.guard=none)
  (hn:t<n/\d1<n/\d2<n/\t≠d1/\t≠d2) (hi:i<nb) (hs:sH ord l=some r):
  aE P GE 0 (.region rid #[o1,o2] false) (EX .normal (kV n t nb i (sl c r) e)) (kV n t nb i (sl c l) e):=by
 obtain⟨n1,n2,n3,n4,n5⟩:=hn
 intro ro E bs0 a w hE hb0 hR
 have hb0:bs0=[]:=van hb0
 subst hb0
 refine ue (by simp[dC,h1,h2]) (by rintro⟨_,_,_,_,_,h,_⟩;cases h) ?_
 show wpOps P #[o1,o2] _ [0,1] a w
 obtain⟨Γ,bs,ow,h,hk⟩:=hR
 have hsz:a.tmps.size=n:=by rw[h.sz];simp[kV]
 obtain⟨u,hu⟩:∃u,a.tmps[t]? =some u:=⟨a.tmps[t]'(by omega),vaD (by omega)⟩
 have hpt:=h.tm t (.bptr i 0) u (by simp[kV,n1]) hu
 cases hpt with
 |bptr _ _ b0 hib=>
 have hBi:(kV n t nb i (sl c l) e).boxes[i]? =some (.cells [sl c l] [(0,e)]):=by simp[kV,hi]
 obtain⟨hg0,hlt0,cc,tt,hheap0,hlen0,hvr0⟩:=h.bx i b0 _ hib hBi
 obtain⟨v,hcell,hown,howb⟩:=h.ob i 0 e _ _ b0 hBi (by simp) hib
 have hcc0:cc[0]? =some v:=by rw[<-hcell,cell_of_row w b0 0 cc tt _ hheap0]
 have hvr:VR Γ bs w (sl c l) v:=hvr0 0 _ v rfl hcc0
 have hload:(Instr.loadAt T (.pointer (some ⟨b0,0,none⟩))).run P w=.ok v w:=by
  obtain⟨v',hr,hv'⟩:=d9 (P:=P) (w:=w) (Γ:=Γ) (bs:=bs) (b:=b0) (off:=0) (cs:=[.val v]) (vals:=fun _=>v) (ng hsc _ _)
   (fun k q hq=>by
    have hk0:k=0:=by have:=ac hq;simp at this;exact this
    subst hk0;exact hcell)
   (fun k q hq=>by
    have hk0:k=0:=by have:=ac hq;simp at this;exact this
    subst hk0;simp at hq;subst hq;exact .val v)
  cases hv'
  simp[Instr.loadAt,Instr.sureAddr,hr]
 have hu0:a.eval (.tmp t)=.pointer (some ⟨b0,0,none⟩):=gk hu
 rw[wpOps_cons]
 unfold wpOp
 rw[show(#[o1,o2]:Array Oper)[0]? =some o1 from rfl]
 simp only
 rw[vas (by simp[Region.wanted,h1g])]
 refine .inl ?_
 unfold Oper.wp
 rw[show(execOp a.eval o1).run P w=.ok (.value v) w by simp[execOp,h1,hu0,hload],Oper.upon_value]
 rw[wpOps_cons]
 unfold wpOp
 rw[show(#[o1,o2]:Array Oper)[1]? =some o2 from rfl]
 simp only
 rw[vas (by simp[Region.wanted,h2g])]
 refine .inl ?_
 unfold Oper.wp
 have hu1:(a.put o1.dst v).eval (.tmp d1)=v:=by
  refine gk ?_
  rw[h1d]
  show(a.tmps.setIfInBounds d1 v)[d1]? =some v
  simp[hsz,n2]
 rw[show(execOp (a.put o1.dst v).eval o2).run P w=.ok (.enter fs #[v,.func (.func fo) #[] #[]]) w by
  simp only[execOp,h2]
  simp[resolve,Act.eval,Deferred.ofValue,invoke,hS.1]
  have hu2:(a.put o1.dst v).tmps.getD d1 undef=v:=hu1
  rw[vat]at hu2
  exact hu2,Oper.upon_enter]
 have hget:∀q:Value,(((a.put o1.dst v).put o2.dst q).tmps)[t]? =some (.pointer (some ⟨b0,0,none⟩))/\(((a.put o1.dst v).put o2.dst q).tmps).size=n:=by
  intro q
  rw[h1d,h2d]
  show((a.tmps.setIfInBounds d1 v).setIfInBounds d2 q)[t]? =_/\((a.tmps.setIfInBounds d1 v).setIfInBounds d2 q).size=n
  refine⟨?_,by simp[hsz]⟩
  rw[vaI n5.symm,vaI n4.symm];exact hu
 have hdef:∀q:Value,((a.put o1.dst v).put o2.dst q).defers=a.defers:=fun q=>(aY _ _ _).trans (aY _ _ _)
 obtain⟨hokS,hrl⟩:=Cd hs
 obtain⟨happ,hord,hO⟩:=yw hokS
 have htm:∀{bs:aC} {Γ:ay} {w:World} {p:PVal} (q:Value),bs[i]? =some (some b0)->∀(j:Nat) x y,(kV n t nb i p e).tmps[j]? =some x->(((a.put o1.dst v).put o2.dst q).tmps)[j]? =some y->VR Γ bs w x y:=by
  intro bs Γ w p q hb j x y hx hy
  rcases CH hx with rfl|⟨rfl,rfl⟩
  ·exact .undef y
  ·rw[(hget q).1]at hy;cases hy;exact .bptr _ _ _ hb
 have hempty:l=[]->∀q,wpOps P #[o1,o2] (tD P E [] a.defers (EX .normal (kV n t nb i (sl c r) e))) [] ((a.put o1.dst v).put o2.dst q) w:=by
  intro hl q
  subst hl
  have hr:r=[]:=van hrl
  subst hr
  refine⟨hdef q,_,⟨Γ,bs,ow,{h with sz:=by rw[(hget q).2];simp[kV],tm:=htm q hib,ot:=fun t k e he=>by simp[kV]at he},hk⟩,rfl,rfl⟩
 unfold sl at hvr
 generalize hes:l.map c=es at hvr
 cases hvr with
 | sliceNil =>
  have hl:l=[]:=by cases l with
   |nil=>rfl
   |cons x l=>simp at hes
  refine(hS.2.2 none 0 _ w).mono fun q w' hr=>?_
  obtain⟨rfl,rfl⟩:=hr
  exact hempty hl _
 | sliceE x cap =>
  have hl:l=[]:=by cases l with
   |nil=>rfl
   |cons x l=>simp at hes
  refine(hS.2.2 (some x) cap _ w).mono fun q w' hr=>?_
  obtain⟨rfl,rfl⟩:=hr
  exact hempty hl _
 | slice _ b off cap m sz vals hz0 hcap hg hm hszs hc hv =>
  obtain⟨kk,xs,⟨hx1,hx2⟩,hx3⟩:=hown
  rcases hx2 with⟨hx2,_⟩|⟨g',cap',cur,hx2,_,hheap,hkc,hcm,hcs,htake⟩
  ·cases hx2
  cases hx2
  subst hes
  by_cases hl0:l=[]
  ·subst hl0
   refine(hS.2.2 (some ⟨b,0,none⟩) cap _ w).mono fun q w' hr=>?_
   obtain⟨rfl,rfl⟩:=hr
   exact hempty rfl _
  have hN:0<l.length:=vb1.2 hl0
  have hlen:(l.map c).length=l.length:=vbB _
  have hget':∀j,(hj:j<l.length)->(l.map c)[j]? =some (c l[j]):=fun j hj=>by rw[vax,vaa hj];rfl
  have hsk:sz=P.cellsOf e:=by rw[<-hszs 0 _ (hget' 0 hN),s.hc]
  subst hsk
  have hΓg:Γ b=some (l.length * P.cellsOf e):=by rw[hx3 b rfl,hlen]
  generalize hkk:P.cellsOf e=k at *
  let cl:Nat->Nat:=fun x=>if x<l.length then x else 0
  have hcl:∀x,cl x<l.length:=fun x=>by show(if x<l.length then x else 0)<_;split<;>omega
  have hcl0:∀x,x<l.length->cl x=x:=fun x hx=>by show(if x<l.length then x else 0)=_;rw[vas hx]
  let el:Nat->α:=fun x=>l[cl x]'(hcl x)
  have hel:∀x,el x∈l:=fun x=>vbm (hcl x)
  let enc:Nat->List Value:=fun x=>(List.range k).map fun j=>vals (cl x) j
  have henc:∀(x j:Nat) uu,(enc x)[j]? =some uu->j<k/\uu=vals (cl x) j:=fun x j uu hh=>by
   have hh:((List.range k).map fun j=>vals (cl x) j)[j]? =some uu:=hh
   rw[vax]at hh
   by_cases hj:j<k
   ·rw[vaT hj]at hh;cases hh;exact⟨hj,rfl⟩
   ·rw[vaz (by simp;omega)]at hh;cases hh
  have hencl:∀x,(enc x).length=k:=fun x=>by show((List.range k).map _).length=k;simp
  have hencg:∀(x j:Nat),j<k->(enc x)[j]! =vals (cl x) j:=fun x j hj=>by
   rw[List.getElem!_eq_getElem?_getD]
   have:(enc x)[j]? =some (vals (cl x) j):=by
    show((List.range k).map fun j=>vals (cl x) j)[j]? =_
    rw[vax,vaT hj];rfl
   rw[this];rfl
  have hqe:∀(x j:Nat),j<k->∃q,(c (el x))[j]? =some q/\q∈c (el x)/\VR Γ bs w q (vals (cl x) j):=fun x j hj=>by
   have hjl:j<(c (el x)).length:=by rw[s.hc];omega
   exact⟨_,vaa hjl,vbm hjl,hv (cl x) _ j _ (hget' _ (hcl x)) (vaa hjl)⟩
  have hvre:∀(x j:Nat) q uu,(c (el x))[j]? =some q->(enc x)[j]? =some uu->VR Γ bs w q uu:=fun x j q uu hq huu=>by
   obtain⟨hj,rfl⟩:=henc x j uu huu
   exact hv (cl x) _ j q (hget' _ (hcl x)) hq
  have hone:∀x,∀uu∈enc x,uu.oneCell'=true:=fun x uu huu=>by
   obtain⟨j,hj⟩:=List.getElem?_of_mem huu
   obtain⟨hjk,rfl⟩:=henc x j uu hj
   obtain⟨q,_,hqm,hqv⟩:=hqe x j hjk
   exact hqv.one (s.ho _ q hqm)
  have hcelli:∀(x j:Nat),x<l.length->j<k->w.cell? ⟨b,0+(x * k+j),none⟩=some (vals x j):=fun x j hx hj=>by
   have hjl:j<(c l[x]).length:=by rw[s.hc];omega
   have:=hc x _ j _ (hget' x hx) (vaa hjl)
   rw[<-this];congr 2;omega
  have hkpos:0<k:=hz0
  have hdm:∀o,o<l.length * k->o / k<l.length/\o % k<k/\o=o / k * k+o % k:=fun o ho=>⟨Nat.div_lt_of_lt_mul (by rw[vcm];exact ho),Nat.mod_lt _ hkpos,(Nat.div_add_mod' o k).symm⟩
  have hrow:∀o,o<l.length * k->∃uu,w.cell? ⟨b,o,none⟩=some uu/\EV uu∈K:=fun o ho=>by
   obtain⟨a1,a2,a3⟩:=hdm o ho
   have:=hcelli (o / k) (o % k) a1 a2
   rw[vaA,<-a3]at this
   obtain⟨q,_,hqm,hqv⟩:=hqe (o / k) (o % k) a2
   rw[hcl0 _ a1]at hqv
   obtain⟨_,k1,k2⟩:=hfl _ q hqm
   exact⟨_,this,by rw[VR.kd_eq hqv k2];exact k1⟩
  let cf:Nat->Nat->Int:=fun x y=>(ord (el x) (el y)).getD 0
  have hcf:∀x y,ord (el x) (el y)=some (cf x y):=fun x y=>by
   obtain⟨z,hz⟩:=hord _ (hel x) _ (hel y)
   show _=some ((ord (el x) (el y)).getD 0)
   rw[hz];rfl
  have hlt:∀x y,ltOf cf x y=Ab ord (el x) (el y):=fun x y=>by
   unfold ltOf Ab
   rw[hcf x y]
  have hswo:SWO (ltOf cf):=⟨fun x=>by rw[hlt];exact hO.irr _ (hel x),fun x y z p q=>by rw[hlt]at *;exact hO.trans _ _ _ (hel x) (hel y) (hel z) p q,fun x y z p q=>by rw[hlt]at *;exact hO.ntrans _ _ _ (hel x) (hel y) (hel z) p q⟩
  have hlo:=h.on b _ (howb b rfl)
  have hge:E.w.heap.size<=b:=hlo.2.resolve_left (hE.nt rfl b)
  have hd0:(Array.range l.length).size=l.length:=by simp
  have hHold:HoldsK enc k w b 0 (Array.range l.length):=by
   intro j hj
   rw[size_flatK,hd0]at hj
   obtain⟨a1,a2,a3⟩:=hdm j hj
   refine⟨?_,frozen_of_row w b _ cur e hheap⟩
   rw[get_flatK _ _ _ _ (by rw[hd0];exact hj)]
   have e1:(Array.range l.length)[j / k]! =j / k:=by rw[getElem!_pos _ _ (by rw[hd0];exact a1)];simp
   rw[e1,hencg _ _ a2,hcl0 _ a1]
   have:=hcelli (j / k) (j % k) a1 a2
   rw[<-a3]at this
   exact this
  have hcmp:=Bp (k:=k) (N:=(Array.range l.length).size) h hE (K:=K) hΓg hge hrow hcc (fun x q hq=>(hfl x q hq).1) (enc:=enc) (el:=el) (fun x=>by rw[hencl,s.hc];exact hkk.symm) hvre hcf
  have happ2:l.length<4611686018427387904:=by unfold dJ at happ;omega
  have hcall:=hS.2.1 enc cf fo b cap (Array.range l.length) w hencl hone hswo hof hcmp hHold hlo.1 (by rw[hd0];exact happ2)
  rw[hd0]at hcall
  have hcall2:Calls P fs #[.slice (some ⟨b,0,none⟩) (l.map c).length cap,.func (.func fo) #[] #[]] w fun e w'=>e=.returned (.tuple #[])/\∃d' n os,PermIn 0 l.length (Array.range l.length) d'/\SortedIn (ltOf cf) 0 l.length d'/\w'=sortWorldK enc k w b 0 n d' os:=by
   rw[hlen];exact hcall
  refine hcall2.mono fun q w' hr=>?_
  obtain⟨rfl,d',n',os,hperm,hsorted,rfl⟩:=hr
  have hd'0:d'.size=l.length:=hperm.1.trans hd0
  generalize hWe:sortWorldK enc k w b 0 n' d' os=W
  have hkeep:∀x,x<w.heap.size->x≠b->W.heap[x]? =w.heap[x]?:=fun x hx hxb=>by rw[<-hWe];exact u4 hx hxb
  have hszW:w.heap.size<=W.heap.size:=by rw[<-hWe];exact u5
  have hrowW:W.heap[b]? =some (.cells (putCells id 0 (flatK enc k d') cur) e (0,0)):=by rw[<-hWe];exact AZ hheap
  have hholdW:HoldsK enc k W b 0 d':=by rw[<-hWe];exact holdsK_sortWorldK_c enc k w b 0 _ d' n' os hHold hlo.1 hperm.1
  have hcsW:(putCells id 0 (flatK enc k d') cur).size=cap * k:=by rw[<-hcs];simp[putCells]
  have hst1:W.os=w.os:=by rw[<-hWe];rfl
  have hst2:W.tape=w.tape:=by rw[<-hWe];rfl
  have hst3:W.output=w.output:=by rw[<-hWe];rfl
  have hst4:w.drawn<=W.drawn:=by rw[<-hWe];exact vbS _ _
  have hnk:l.length * k<=cap * k:=vaG k (by rw[<-hlen];exact hcap)
  have hrd:d'.toList.map el=r:=by
   refine xC hs ?_ ?_
   ·have hp:=hperm.2.2
    have e1:d'.extract 0 l.length=d':=by rw[<-hd'0];exact vcB
    have e2:(Array.range l.length).extract 0 l.length=Array.range l.length:=by
     have:(Array.range l.length).extract 0 (Array.range l.length).size=Array.range l.length:=vcB
     rwa[hd0]at this
    rw[e1,e2]at hp
    have h3:(Array.range l.length).toList.map el=l:=by
     rw[Array.toList_range]
     refine va7 fun j=>?_
     by_cases hj:j<l.length
     ·rw[vax,vaT hj,vaa hj]
      show some (l[cl j]'(hcl j))=some l[j]
      congr 1
      simp only[hcl0 j hj]
     ·rw[vaz (by simp;omega),vaz (by omega)]
    rw[<-h3]
    exact hp.map el
   ·unfold vD
    rw[List.pairwise_map,List.pairwise_iff_getElem]
    intro x y hx hy hxy
    have hx':x<d'.size:=by simpa using hx
    have hy':y<d'.size:=by simpa using hy
    have:=hsorted x y (vaF _) hxy (by rw[<-hd'0];exact hy')
    rw[getElem!_pos d' x hx',getElem!_pos d' y hy',hlt]at this
    simpa using this
  have hrlen:(r.map c).length=(l.map c).length:=by rw[vbB,vbB,hrl]
  have hri:∀x,(hx:x<l.length)->(r.map c)[x]? =some (c (el d'[x]!)):=fun x hx=>by
   rw[<-hrd,List.map_map,vax]
   have hxd:x<d'.size:=by rw[hd'0];exact hx
   rw[vaS,vaD hxd,getElem!_pos d' x hxd]
   rfl
  have hvrW:VR Γ bs W (sl c r) (.slice (some ⟨b,0,none⟩) (l.map c).length cap):=by
   unfold sl
   rw[<-hrlen]
   refine .slice _ b 0 cap (l.length * k) k (fun x j=>vals (cl d'[x]!) j) hkpos (by rw[hrlen];exact hcap) hΓg (by rw[hrlen,hlen];omega) (fun x y hx=>?_) (fun x y j p hx hp=>?_) (fun x y j p hx hp=>?_)
   ·have hxl:x<l.length:=by have:=ac hx;rw[hrlen,hlen]at this;exact this
    rw[hri x hxl]at hx;cases hx;rw[s.hc];exact hkk
   ·have hxl:x<l.length:=by have:=ac hx;rw[hrlen,hlen]at this;exact this
    rw[hri x hxl]at hx;cases hx
    have hjk:j<k:=by have:=ac hp;rw[s.hc,hkk]at this;exact this
    have:=(hholdW.cell (i:=x) (c:=j) (by rw[hd'0];exact hxl) hjk).1
    rw[hencg _ _ hjk]at this
    exact this
   ·have hxl:x<l.length:=by have:=ac hx;rw[hrlen,hlen]at this;exact this
    rw[hri x hxl]at hx;cases hx
    refine(hv (cl d'[x]!) _ j p (hget' _ (hcl _)) hp).off_row hΓg hrow (fun x m hx hm=>⟨hm,fun o=>aD (hkeep x (h.lt_of_ghost hm) hx) o⟩) (hfl _ p (var hp)).1
  have hle:E.Γ.Le E.w Γ W:=fun x m hx hm0=>by
   obtain⟨m',k1,k2,k3⟩:=h.step.le x m hx hm0
   have hne:x≠b:=fun hxb=>by have:=hE.low x m hx;omega
   exact⟨m',k1,k2,fun o ho=>(aD (hkeep x (h.lt_of_ghost k1) hne) o).trans (k3 o ho)⟩
  have hne0:b0≠b:=fun hx=>by rw[hx,hΓg]at hg0;cases hg0
  refine⟨hdef _,_,⟨Γ,bs,ow,{
   wi:=fun x m hx=>by
    by_cases hxg:x=b
    ·subst hxg
     rw[hΓg]at hx;cases hx
     exact⟨_,_,_,hrowW,by rw[hcsW];exact hnk⟩
    ·obtain⟨c2,t2,fr,k1,k2⟩:=h.wi x m hx
     exact⟨c2,t2,fr,(hkeep x (h.lt_of_ghost hx) hxg).trans k1,k2⟩
   sz:=by rw[(hget _).2];simp[kV]
   tm:=htm _ hib
   bl:=by rw[h.bl];simp[kV]
   bx:=fun j b' B hb' hB=>by
    rcases Ah hB with⟨rfl,rfl⟩|⟨hj,rfl⟩
    ·rw[hib]at hb';cases hb'
     refine⟨hg0,vaB hlt0 hszW,cc,tt,(hkeep b0 hlt0 hne0).trans hheap0,hlen0,fun jj p vv hp hvv=>?_⟩
     have hj0:jj=0:=by have:=ac hp;simp at this;exact this
     subst hj0
     simp at hp;subst hp
     rw[hcc0]at hvv;cases hvv
     exact hvrW
    ·have hold:(kV n t nb i (sl c l) e).boxes[j]? =some .dead:=by
      have hjn:j<nb:=by have:=ac hB;simpa[kV]using this
      unfold kV
      simp only
      rw[vak (fun e=>hj e.symm),vaO,vas hjn]
     obtain⟨k1,k2,_⟩:=h.bx j b' _ hb' hold
     exact⟨k1,vaB k2 hszW,trivial⟩
   inj:=h.inj
   bn:=h.bn
   on:=fun b' L hL=>⟨vaB (h.on b' L hL).1 hszW,(h.on b' L hL).2⟩
   ot:=fun t k e he=>by simp[kV]at he
   ob:=fun j jj e' cs own b' hB hj hb'=>by
    rcases Ah hB with⟨rfl,hBB⟩|⟨_,hBB⟩
    ·cases hBB
     rw[hib]at hb';cases hb'
     have:jj=0/\e'=e:=by simpa using hj
     obtain⟨rfl,rfl⟩:=this
     refine⟨_,(aD (hkeep b0 hlt0 hne0) 0).trans hcell,⟨(l.map c).length,(putCells id 0 (flatK enc k d') cur).toList.take (l.length * k),⟨?_,.inr ⟨b,cap,_,rfl,vaF _,hrowW,hcap,hcm,by rw[hcsW,hkk],by rw[hlen,hkk]⟩⟩,fun x hx=>?_⟩,howb⟩
     ·have hL:(putCells id 0 (flatK enc k d') cur).toList.length=cap * k:=by rw[<-hcsW];exact Array.length_toList
      rw[va4,hL,hlen,hkk];omega
     ·simp[Value.ownBlock]at hx;subst hx;rw[hΓg,hlen,hkk]
    ·cases hBB
   gl:=fun g cs hg=>(hE.gl g cs (by rw[<-hE.ge];exact hg)).mono hle (fun i b hb=>by simp at hb)
   gc:=h.gc
   gx:=h.gx
   step:={
    os:=hst1.trans h.step.os
    tape:=hst2.trans h.step.tape
    output:=hst3.trans h.step.output
    size:=vaN h.step.size hszW
    drawn:=vaN h.step.drawn hst4
    keep:=fun x hx hT=>by
     obtain⟨k1,k2⟩:=h.step.keep x hx hT
     exact⟨(hkeep x (vaB hx h.step.size) (by omega)).trans k1,k2⟩
    le:=hle}},hk⟩,rfl,rfl⟩
theorem EI{T e:TypeId}{K:List Nat}{fs fo rid n t nb i d1 d2:Nat}{o1 o2:Oper}{tys:Array TypeId}{l r:List α}{cd:Code}{st0 st1:al}(s:vC P T e c)(hS:zO P fs (P.cellsOf e))(hsc:(P.underlying T).any oI=true)
  (hcc:∀x y r,ord x y=some r->CC P GE fo [.agg (c x),.agg (c y)] (.int .i64 r) []) (hof:∀vs w,(callFunc fo vs).run P w=.ok (.enter fo vs) w)
  (hfl:∀x,∀q∈c x,yl K q/\q.kd∈K/\q.kd≠0) (hcd:cd=.region rid #[o1,o2] false) (h1:o1.op=.load T (.tmp t)) (h1d:o1.dst=some d1) (h1g:o1.guard=none)
  (h2:o2.op=.call {callee:=.value (.func fs),args:=#[.tmp d1,.func fo],argTypes:=tys}) (h2d:o2.dst=some d2) (h2g:o2.guard=none)
  (hn:decide (t<n)&&(decide (d1<n)&&(decide (d2<n)&&(decide (t≠d1)&&(decide (t≠d2)&&decide (i<nb)))))=true) (h0:st0=kV n t nb i (sl c l) e) (h00:st1=kV n t nb i (sl c r) e) (hs:sH ord l=some r):
  aE P GE 0 cd (EX .normal st1) st0:=by
 simp only[vac,vag]at hn
 obtain⟨a1,a2,a3,a4,a5,a6⟩:=hn
 subst hcd;subst h0;subst h00
 exact zG s hS hsc hcc hof hfl h1 h1d h1g h2 h2d h2g ⟨a1,a2,a3,a4,a5⟩ a6 hs
end
section
variable{P:Program}{ρ:Ren}
theorem Cc(L:SlLaysF0.n6 P ρ){fs e:Nat}(hf:ρ.f 6=fs)(he:ρ.t 24=e)(ha:(P.underlying e).any Cq=true)(hi:(P.info? e).isSome=true)(hcall:∀vs w,(callFunc fs vs).run P w=.ok (.enter fs vs) w):zO P fs (P.cellsOf e):=by
 subst hf;subst he
 obtain⟨i0,hi0⟩:=vay.1 hi
 have hagg:∀w,(Go.isAgg (ρ.t 24)).run P w=.ok true w:=fun w=>by
  cases hd:P.underlying (ρ.t 24)with
  |none=>rw[hd]at ha;cases ha
  |some d=>
   rw[hd]at ha
   cases d<;>simp[Cq]at ha<;>simp[Go.isAgg,run_underlying hd]
 refine⟨hcall,fun enc cf g blk cap d w hk h1 hO eg hcmp hH hb hs=>?_,fun p cap fv w=>AnyF.slices_SortFunc_none L p cap fv w⟩
 exact AnyQ.slices_SortFunc L (P.cellsOf (ρ.t 24)) hagg (fun w=>run_sizeOf w hi0) enc hk h1 cf hO g #[] blk 0 cap d w eg hcmp hH hb hs
end
open Go Go.Proofs.Tryd
set_option maxRecDepth 100000
theorem AH(x:aa):∀q∈ae x,yl [3,4] q/\q.kd∈[3,4]/\q.kd≠0:=by
 intro q hq
 rw[bo]at hq
 simp only[vaE,vbW,or_false]at hq
 rcases hq with rfl|rfl|rfl
 ·exact⟨trivial,by simp[PVal.kd],by simp[PVal.kd]⟩
 ·exact⟨trivial,by simp[PVal.kd],by simp[PVal.kd]⟩
 ·refine⟨fun e he q hq=>?_,by simp[PVal.kd,sl],by simp[PVal.kd,sl]⟩
  obtain⟨y,_,rfl⟩:=vap.1 he
  rw[mV]at hq
  simp only[vaE,vbW,or_false]at hq
  rcases hq with rfl|rfl|rfl
  all_goals exact⟨by simp[PVal.kd],by simp[PVal.kd]⟩
theorem CN:zO Pg 38 (Pg.cellsOf 24):=Cc Tryd.sf38 rfl rfl (by kernel_rfl) (by kernel_rfl) call38
theorem Az:ke Pg 37 43:=AA Tryd.lc37 rfl rfl (by kernel_rfl) call37
theorem y8{l r:List ah}(h:uc l=some r):CC Pg GE 37 [sl aj l] (sl aj r) [(0,43)]:=cF.cloneCC Az h
def BH(n:Int):Option ag:=if(decide (-9223372036854775808<=n)&&decide (n<=9223372036854775807))=true then some (Lib.itoa n)else none
theorem BZ:eC=Lib.pow10Tab:=by kernel_rfl
theorem z8{n:Int}{r:ag}(h:BH n=some r):CC Pg GE 31 [.int .i64 n] (.str r) []:=by
 rcases aM h with⟨b,h⟩|⟨b,h⟩
 ·obtain rfl:=lf h
  simp only[vac,vag]at b
  refine CC.grownIS call31 fun E Γ bs ow w a st hE hS=>?_
  have htab:Lib.TabIs Pg w "internal/strconv.uint64pow10" .u64 Lib.pow10Tab:=DD hS (g:=1) (by rw[hE,←BZ];simp[GE]) (by kernel_rfl)
  refine(Any.strconv_Itoa Tryd.laysM171 n b.1 b.2 w htab).mono fun e w' he=>?_
  obtain⟨rfl,k,os,rfl⟩:=he
  exact⟨rfl,.of_grow _ _ _⟩
 ·cases h
noncomputable def b9:Code:=Tryd.f9.body.getD .skip
def A9:List Nat:=[]
section
variable(n:Int)(v:waB)(t8:Int)(t9:Int)
def ie:al:=be 22 [(0,.int .i64 n),(1,sl ae v),(7,sl ae v),(8,.int .i64 t8),(9,.int .i64 t9)] [] []
def ig(o:Unit⊕(Unit)):Exit:=match o with
 |(.inl _)=>.ret
 |(.inr _)=>.exit 0
def fP(o:Unit⊕(Unit)):al:=match o with
 |(.inl o)=>be 22 [(4,.bool false)] [] []
 |(.inr o)=>be 22 [(0,.int .i64 n),(1,sl ae v)] [] []
def mR:Option (Int⊕(Unit⊕(Unit))):=
 if(decide (t9<t8))=true then
  (gz v t9).bind fun x2=>
  if(decide ((x2.Arcs.length:Int)>40))=true then
   some (.inr (.inl ()))
  else
   some (.inl (b5 (t9+1)))
 else
  some (.inr (.inr ()))
def pM:Option (Unit⊕(Unit)):=loop (fun(zz:Int)=>mR v t8 zz) t9
theorem tZ{y:Int⊕(Unit⊕(Unit))}(h:mR v t8 t9=some y):aE Pg GE 0 (cA b9 55) (LQ (fun(zz:Int)=>ie n v t8 zz) ig (fP n v) y) (ie n v t8 t9):=by
 rcases aM h with⟨c1,h⟩|⟨c1,h⟩
 ·obtain⟨x2,bx2,h⟩:=av h
  have p4:=fun{sc F} (r:PS sc F)=>sg 0 c1<|sv (gq.ia (k:=.i64) bx2)<|sv (aV x2)<|sx qY<|sx (fF x2)<|ss<|eP (cF.ln x2.Arcs)<|r
  rcases aM h with⟨c3,h⟩|⟨c3,h⟩
  ·obtain rfl:=lf h
   have z:=p4<|sg 0 c3<|pw 0 (ig (.inl ())) (fP n v (.inl ())) rfl (cG (aI trivial trivial)) trivial
   exact jD (A:=A9) mixed (by intro hx;cases hx) z<|by kernel_rfl
  ·obtain rfl:=lf h
   have z:=p4<|sg 0 c3<|pw 0 .normal (ie n v t8 (b5 (t9+1))) rfl (cG (aI trivial (aI (up (aB af v)) (aI (up (aB af v)) (aI trivial (aI trivial trivial)))))) trivial
   exact d6 (A:=A9) mixed z<|by kernel_rfl
 ·obtain rfl:=lf h
  have z:=sg 0 c1<|eF (ig (.inr ())) (fP n v (.inr ()))
  exact jK A9 (by intro hx;cases hx) z<|by kernel_rfl
theorem pp{x:Unit⊕(Unit)}(h:pM v t8 t9=some x):aE Pg GE 0 (.loop (cA b9 55)) (EX (ig x) (fP n v x)) (ie n v t8 t9):=
 aE.loop (S:=fun(zz:Int)=>ie n v t8 zz) (ex:=ig) (s:=t9) h fun zz y hy=>tZ n v t8 zz hy
end
def tq(n:Int)(a:waB):Option Bool:=
 (pM a (a.length:Int) 0).bind fun o5=>match o5 with
 |(.inl o5)=>
  some false
 |(.inr o5)=>
  some (decide ((a.length:Int)<=n))
theorem y4{n:Int}{a:waB}{r:Bool}(h:tq n a=some r):CC Pg GE 9 [.int .i64 n,sl ae a] (.bool r) []:=by
 obtain⟨o5,bo5,h⟩:=av h
 rcases o5 with o5|o5
 ·obtain rfl:=lf h
  have z:=eP (gq.ln a)<|dG (e:=.ret) (s1:=fP n a (.inl o5)) (pp n a (a.length:Int) 0 bo5)<|en (aI (rP (.bool false))<|trivial)
  exact bC A9 call9 func9 (c:=b9) rfl (aI trivial (aI (aB af a) trivial)) z<|by kernel_rfl
 ·obtain rfl:=lf h
  have z:=eP (gq.ln a)<|dG (e:=.exit 0) (s1:=fP n a (.inr o5)) (pp n a (a.length:Int) 0 bo5)<|eP (gq.ln a)<|en (aI (rP (.bool (decide ((a.length:Int)<=n))))<|trivial)
  exact bC A9 call9 func9 (c:=b9) rfl (aI trivial (aI (aB af a) trivial)) z<|by kernel_rfl
noncomputable def E8:Code:=f33.body.getD .skip
def E0:List Nat:=[20]
section
variable(t13:(List jA))(t14:Int)(m:waA)(m2:ag)(m3:ag)(t15:Int)(m4:waA)
def fw:al:=be 34 [(6,.bptr 0 0),(7,.bptr 1 0),(13,sl ii t13),(14,.int .i64 t14),(15,.int .i64 t15)] [.cells [.str ([]:ag),.str ([]:ag),sl aj m] [(2,43)],.cells [.str m2,.str m3,sl aj m4] [(2,43)]] []
def kp(o:waA):al:=be 34 [(6,.bptr 0 0),(7,.bptr 1 0)] [.cells [.str ([]:ag),.str ([]:ag),sl aj m] [(2,43)],.cells [.str m2,.str m3,sl aj o] [(2,43)]] []
def n9:Option ((Int×waA)⊕(waA)):=
 if(decide (t15<t14))=true then
  (gz t13 t15).bind fun x2=>
  (nO 3 0).bind fun i3=>
  (nO 3 1).bind fun i4=>
  (nO 3 2).bind fun i5=>
  (app m4 ([(⟨x2 (0+i3 * 1),x2 (0+i4 * 1),(x2 (0+i5 * 1))==1⟩:ah)]:List ah)).bind fun l6=>
  some (.inl (b5 (t15+1),l6))
 else
  some (.inr m4)
def qr:Option waA:=loop (fun(zz:Int×waA)=>n9 t13 t14 zz.1 zz.2) (t15,m4)
theorem rn{y:(Int×waA)⊕(waA)}(h:n9 t13 t14 t15 m4=some y):aE Pg GE 0 (cA E8 119) (LQ (fun(zz:Int×waA)=>fw t13 t14 m m2 m3 zz.1 zz.2) (fun _=>.exit 0) (kp m m2 m3) y) (fw t13 t14 m m2 m3 t15 m4):=by
 rcases aM h with⟨c1,h⟩|⟨c1,h⟩
 ·obtain⟨x2,bx2,h⟩:=av h
  obtain⟨i3,bi3,h⟩:=av h
  obtain⟨i4,bi4,h⟩:=av h
  obtain⟨i5,bi5,h⟩:=av h
  obtain⟨l6,bl6,h⟩:=av h
  obtain rfl:=lf h
  have z:=sg 0 c1<|sv (xy.ia (k:=.i64) bx2)<|sv (CB x2)<|sx Fq<|sx (jv x2)<|sv (De (b:=2) (off:=0) (k:=.i64) bi3)<|sv (Df (x:=x2) (Fi bi3))<|sv (De (b:=2) (off:=0) (k:=.i64) bi4)<|sv (Df (x:=x2) (Fi bi4))<|sv (De (b:=2) (off:=0) (k:=.i64) bi5)<|sv (Df (x:=x2) (Fi bi5))<|sv (pr (x2 (0+i3 * 1)) (x2 (0+i4 * 1)) ((x2 (0+i5 * 1))==1))<|sv (cF.mk' (v:=xF) uJ ([(⟨x2 (0+i3 * 1),x2 (0+i4 * 1),(x2 (0+i5 * 1))==1⟩:ah)]:List ah) 1 (by kernel_rfl))<|sv (cF.ap bl6)<|pw 0 .normal (fw t13 t14 m m2 m3 (b5 (t15+1)) l6) rfl (cG (aI (cQ rfl) (aI (cQ rfl) (aI (up (aB wX t13)) (aI trivial (aI trivial trivial)))))) (aI (aI trivial (aI trivial (aI (up (aB au m)) trivial))) (aI (aI trivial (aI trivial (aI (up (aB au l6)) trivial))) trivial))
  exact d6 (A:=E0) mixed z<|by kernel_rfl
 ·obtain rfl:=lf h
  have z:=sg 0 c1<|eF (.exit 0) (kp m m2 m3 m4)
  exact jK E0 (by intro hx;cases hx) z<|by kernel_rfl
theorem tc{x:waA}(h:qr t13 t14 t15 m4=some x):aE Pg GE 0 (.loop (cA E8 119)) (EX (.exit 0) (kp m m2 m3 x)) (fw t13 t14 m m2 m3 t15 m4):=
 aE.loop (S:=fun(zz:Int×waA)=>fw t13 t14 m m2 m3 zz.1 zz.2) (ex:=(fun _=>.exit 0)) (s:=(t15,m4)) h fun zz y hy=>rn t13 t14 m m2 m3 zz.1 zz.2 hy
end
def gN(a:ag)(to:ag)(arcs:(List jA)):Option aa:=
 (qr arcs (arcs.length:Int) 0 ([]:List ah)).bind fun o7=>
 some (⟨a,to,o7⟩:aa)
theorem ez{a:ag}{to:ag}{arcs:(List jA)}{r:aa}(h:gN a to arcs=some r):CC Pg GE 33 [.str a,.str to,sl ii arcs] (.agg (ae r)) [(2,43)]:=by
 obtain⟨o7,bo7,h⟩:=av h
 obtain rfl:=lf h
 have z:=sx qY<|sb (lK a to) (lJ a to)<|sx qY<|sy (bo (⟨a,to,([]:List ah)⟩:aa))<|eP (xy.ln arcs)<|dG (tc arcs (arcs.length:Int) ([]:List ah) a to 0 ([]:List ah) bo7)<|sz (bK (⟨a,to,o7⟩:aa) [])<|sy (bo (⟨a,to,o7⟩:aa))<|en (aI (dL (⟨a,to,o7⟩:aa))<|aI (af (⟨a,to,o7⟩:aa))<|rT)
 exact bC E0 call33 func33 (c:=E8) rfl (aI trivial (aI trivial (aI (aB wX arcs) trivial))) z<|by kernel_rfl
noncomputable def EN:Code:=f44.body.getD .skip
def DV:List Nat:=[23]
section
variable(s:ag)(i:Int)
def fB:al:=be 24 [(0,.str s),(5,.int .i64 i)] [] []
def fD(o:(ag×ag)⊕(Unit)):Exit:=match o with
 |(.inl _)=>.ret
 |(.inr _)=>.exit 0
def d4(o:(ag×ag)⊕(Unit)):al:=match o with
 |(.inl o)=>be 24 [(2,.str o.1),(3,.str o.2),(4,.bool true)] [] []
 |(.inr o)=>be 24 [(0,.str s)] [] []
def fC:Option (Int⊕((ag×ag)⊕(Unit))):=
 if(decide (i<(s.length:Int)))=true then
  (fY s i).bind fun c2=>
  if(c2==46)=true then
   (yQ s none (some i)).bind fun s5=>
   (yQ s (some (b5 (i+1))) none).bind fun s6=>
   some (.inr (.inl (s5,s6)))
  else
   some (.inl (b5 (i+1)))
 else
  some (.inr (.inr ()))
def m8:Option ((ag×ag)⊕(Unit)):=loop (fun(zz:Int)=>fC s zz) i
theorem rF{y:Int⊕((ag×ag)⊕(Unit))}(h:fC s i=some y):aE Pg GE 0 (cA EN 55) (LQ (fun(zz:Int)=>fB s zz) fD (d4 s) y) (fB s i):=by
 rcases aM h with⟨c1,h⟩|⟨c1,h⟩
 ·obtain⟨c2,bc2,h⟩:=av h
  have p4:=fun{sc F} (r:PS sc F)=>eP (dq underlying9 s)<|sg 0 c1<|sv (dN (k:=.i64) underlying9 bc2)<|r
  rcases aM h with⟨c3,h⟩|⟨c3,h⟩
  ·obtain⟨s5,bs5,h⟩:=av h
   obtain⟨s6,bs6,h⟩:=av h
   obtain rfl:=lf h
   have z:=p4<|sg 0 c3<|yP [0,0,3,0,0,16,56,7,255,511]<|sv (Ao underlying9 bs5)<|sv (Ao underlying9 bs6)<|eF (fD (.inl (s5,s6))) (d4 s (.inl (s5,s6)))
   exact jK DV (by intro hx;cases hx) z<|by kernel_rfl
  ·obtain rfl:=lf h
   exact rf DV (p4<|sg 0 c3<|eF .normal (fB s (b5 (i+1))))<|by kernel_rfl
 ·obtain rfl:=lf h
  have z:=eP (dq underlying9 s)<|sg 0 c1<|eF (fD (.inr ())) (d4 s (.inr ()))
  exact jK DV (by intro hx;cases hx) z<|by kernel_rfl
theorem nA{x:(ag×ag)⊕(Unit)}(h:m8 s i=some x):aE Pg GE 0 (.loop (cA EN 55)) (EX (fD x) (d4 s x)) (fB s i):=
 aE.loop (S:=fun(zz:Int)=>fB s zz) (ex:=fD) (s:=i) h fun zz y hy=>rF s zz hy
end
def mo(s:ag):Option (ag×ag×Bool):=
 (m8 s 0).bind fun o7=>match o7 with
 |(.inl o7)=>
  some (o7.1,o7.2,true)
 |(.inr o7)=>
  some (s,([]:ag),false)
theorem qL{s:ag}{r:ag×ag×Bool}(h:mo s=some r):CC Pg GE 44 [.str s] (.tuple [.str r.1,.str r.2.1,.bool r.2.2]) []:=by
 obtain⟨o7,bo7,h⟩:=av h
 rcases o7 with o7|o7
 ·obtain rfl:=lf h
  have z:=dG (e:=.ret) (s1:=d4 s (.inl o7)) (nA s 0 bo7)<|en (aI (rP (.tuple [.str o7.1,.str o7.2,.bool true]))<|(aI trivial (aI trivial (aI trivial trivial))))
  exact bC DV call44 func44 (c:=EN) rfl (aI trivial trivial) z<|by kernel_rfl
 ·obtain rfl:=lf h
  have z:=dG (e:=.exit 0) (s1:=d4 s (.inr o7)) (nA s 0 bo7)<|en (aI (rP (.tuple [.str s,.str ([]:ag),.bool false]))<|(aI trivial (aI trivial (aI trivial trivial))))
  exact bC DV call44 func44 (c:=EN) rfl (aI trivial trivial) z<|by kernel_rfl
noncomputable def FO:Code:=f47.body.getD .skip
def Fy:List Nat:=[]
def gS(s:ag):Option Bool:=
 if(decide ((s.length:Int)>=1))=true then
  some (decide ((s.length:Int)<=24))
 else
  some false
theorem d5{s:ag}{r:Bool}(h:gS s=some r):CC Pg GE 47 [.str s] (.bool r) []:=by
 rcases aM h with⟨c1,h⟩|⟨c1,h⟩
 ·obtain rfl:=lf h
  have z:=eP (dq underlying9 s)<|sg 4 c1<|eP (dq underlying9 s)<|en (aI (rP (.bool (decide ((s.length:Int)<=24))))<|trivial)
  exact bC Fy call47 func47 (c:=FO) rfl (aI trivial trivial) z<|by kernel_rfl
 ·obtain rfl:=lf h
  have z:=eP (dq underlying9 s)<|sg 4 c1<|en (aI (rP (.bool false))<|trivial)
  exact bC Fy call47 func47 (c:=FO) rfl (aI trivial trivial) z<|by kernel_rfl
noncomputable def FQ:Code:=f66.body.getD .skip
def FB:List Nat:=[]
def fE(c:Int):Option Bool:=
 if(decide (97<=c))=true then
  some (decide (c<=122))
 else
  some false
theorem im{c:Int}{r:Bool}(h:fE c=some r):CC Pg GE 66 [.int .u8 c] (.bool r) []:=by
 rcases aM h with⟨c1,h⟩|⟨c1,h⟩
 ·obtain rfl:=lf h
  have z:=sg 3 c1<|en (aI (rP (.bool (decide (c<=122))))<|trivial)
  exact bC FB call66 func66 (c:=FQ) rfl (aI trivial trivial) z<|by kernel_rfl
 ·obtain rfl:=lf h
  have z:=sg 3 c1<|en (aI (rP (.bool false))<|trivial)
  exact bC FB call66 func66 (c:=FQ) rfl (aI trivial trivial) z<|by kernel_rfl
noncomputable def EQ:Code:=f67.body.getD .skip
def DY:List Nat:=[]
section
variable(s:ag)(t6:Int)
def cY:al:=be 13 [(0,.str s),(5,.agg (aX.map PVal.str)),(6,.int .i64 t6)] [] []
def da(o:Unit⊕(Unit)):Exit:=match o with
 |(.inl _)=>.ret
 |(.inr _)=>.exit 0
def cp(o:Unit⊕(Unit)):al:=match o with
 |(.inl o)=>be 13 [(2,.bool true)] [] []
 |(.inr o)=>be 13 [] [] []
def cZ:Option (Int⊕(Unit⊕(Unit))):=
 if(decide (t6<42))=true then
  (gz aX t6).bind fun x2=>
  if(x2==s)=true then
   some (.inr (.inl ()))
  else
   some (.inl (b5 (t6+1)))
 else
  some (.inr (.inr ()))
def iT:Option (Unit⊕(Unit)):=loop (fun(zz:Int)=>cZ s zz) t6
theorem oz{y:Int⊕(Unit⊕(Unit))}(h:cZ s t6=some y):aE Pg GE 0 (cA EQ 55) (LQ (fun(zz:Int)=>cY s zz) da cp y) (cY s t6):=by
 rcases aM h with⟨c1,h⟩|⟨c1,h⟩
 ·obtain⟨x2,bx2,h⟩:=av h
  have p4:=fun{sc F} (r:PS sc F)=>sg 0 c1<|sv (qM (k:=.i64) bx2)<|r
  rcases aM h with⟨c3,h⟩|⟨c3,h⟩
  ·obtain rfl:=lf h
   have z:=p4<|sg 0 c3<|eF (da (.inl ())) (cp (.inl ()))
   exact jK DY (by intro hx;cases hx) z<|by kernel_rfl
  ·obtain rfl:=lf h
   exact rf DY (p4<|sg 0 c3<|eF .normal (cY s (b5 (t6+1))))<|by kernel_rfl
 ·obtain rfl:=lf h
  have z:=sg 0 c1<|eF (da (.inr ())) (cp (.inr ()))
  exact jK DY (by intro hx;cases hx) z<|by kernel_rfl
theorem jJ{x:Unit⊕(Unit)}(h:iT s t6=some x):aE Pg GE 0 (.loop (cA EQ 55)) (EX (da x) (cp x)) (cY s t6):=
 aE.loop (S:=fun(zz:Int)=>cY s zz) (ex:=da) (s:=t6) h fun zz y hy=>oz s zz hy
end
def jd(s:ag):Option Bool:=
 (iT s 0).bind fun o5=>match o5 with
 |(.inl o5)=>
  some true
 |(.inr o5)=>
  some false
theorem rE{s:ag}{r:Bool}(h:jd s=some r):CC Pg GE 67 [.str s] (.bool r) []:=by
 obtain⟨o5,bo5,h⟩:=av h
 rcases o5 with o5|o5
 ·obtain rfl:=lf h
  have z:=sv lx<|dG (e:=.ret) (s1:=cp (.inl o5)) (jJ s 0 bo5)<|en (aI (rP (.bool true))<|trivial)
  exact bC DY call67 func67 (c:=EQ) rfl (aI trivial trivial) z<|by kernel_rfl
 ·obtain rfl:=lf h
  have z:=sv lx<|dG (e:=.exit 0) (s1:=cp (.inr o5)) (jJ s 0 bo5)<|en (aI (rP (.bool false))<|trivial)
  exact bC DY call67 func67 (c:=EQ) rfl (aI trivial trivial) z<|by kernel_rfl
noncomputable def FT:Code:=f68.body.getD .skip
def FC:List Nat:=[]
def gR(c:Int):Option Bool:=
 if(decide (48<=c))=true then
  some (decide (c<=57))
 else
  some false
theorem ky{c:Int}{r:Bool}(h:gR c=some r):CC Pg GE 68 [.int .u8 c] (.bool r) []:=by
 rcases aM h with⟨c1,h⟩|⟨c1,h⟩
 ·obtain rfl:=lf h
  have z:=sg 3 c1<|en (aI (rP (.bool (decide (c<=57))))<|trivial)
  exact bC FC call68 func68 (c:=FT) rfl (aI trivial trivial) z<|by kernel_rfl
 ·obtain rfl:=lf h
  have z:=sg 3 c1<|en (aI (rP (.bool false))<|trivial)
  exact bC FC call68 func68 (c:=FT) rfl (aI trivial trivial) z<|by kernel_rfl
noncomputable def Di:Code:=f45.body.getD .skip
def A6:List Nat:=[]
section
variable(s:ag)
def tg:al:=be 41 [(0,.str s)] [] []
def gC(o:Bool):al:=be 41 [(0,.str s),(16,.bool o)] [] []
def je:Option Bool:=
 (gS s).bind fun r1=>
 if(!r1)=true then
  some true
 else
  (fY s 0).bind fun c3=>
  (fE c3).bind fun r4=>
  if(!r4)=true then
   some true
  else
   (jd s).bind fun r7=>
   some r7
theorem rH{x:Bool}(h:je s=some x):aE Pg GE 0 (cA Di 12) (EX .normal (gC s x)) (tg s):=by
 obtain⟨r1,br1,h⟩:=av h
 rcases aM h with⟨c2,h⟩|⟨c2,h⟩
 ·obtain rfl:=lf h
  exact dH A6 (co (d5 br1)<|sg 4 c2<|eF .normal (gC s true))<|by kernel_rfl
 ·obtain⟨c3,bc3,h⟩:=av h
  obtain⟨r4,br4,h⟩:=av h
  have p6:=fun{sc F} (r:PS sc F)=>co (d5 br1)<|sg 4 c2<|sv (dN (k:=.i64) underlying9 bc3)<|co (im br4)<|r
  rcases aM h with⟨c5,h⟩|⟨c5,h⟩
  ·obtain rfl:=lf h
   exact dH A6 (p6<|sg 10 c5<|eF .normal (gC s true))<|by kernel_rfl
  ·obtain⟨r7,br7,h⟩:=av h
   obtain rfl:=lf h
   exact dH A6 (p6<|sg 10 c5<|co (rE br7)<|eF .normal (gC s r7))<|by kernel_rfl
end
section
variable(s:ag)(i:Int)
def th:al:=be 41 [(0,.str s),(3,.int .i64 i)] [] []
def gD(o:Bool):al:=be 41 [(0,.str s),(3,.int .i64 i),(40,.bool o)] [] []
def jf:Option Bool:=
 (fY s i).bind fun c12=>
 (fE c12).bind fun r13=>
 if(!r13)=true then
  (fY s i).bind fun c16=>
  (gR c16).bind fun r17=>
  if(!r17)=true then
   (fY s i).bind fun c20=>
   some (c20 !=95)
  else
   some false
 else
  some false
theorem rJ{x:Bool}(h:jf s i=some x):aE Pg GE 0 (cA Di 1914) (EX .normal (gD s i x)) (th s i):=by
 obtain⟨c12,bc12,h⟩:=av h
 obtain⟨r13,br13,h⟩:=av h
 have p15:=fun{sc F} (r:PS sc F)=>sv (dN (k:=.i64) underlying9 bc12)<|co (im br13)<|r
 rcases aM h with⟨c14,h⟩|⟨c14,h⟩
 ·obtain⟨c16,bc16,h⟩:=av h
  obtain⟨r17,br17,h⟩:=av h
  have p19:=fun{sc F} (r:PS sc F)=>p15<|sg 6 c14<|sv (dN (k:=.i64) underlying9 bc16)<|co (ky br17)<|r
  rcases aM h with⟨c18,h⟩|⟨c18,h⟩
  ·obtain⟨c20,bc20,h⟩:=av h
   obtain rfl:=lf h
   exact dH A6 (p19<|sg 13 c18<|sv (dN (k:=.i64) underlying9 bc20)<|eF .normal (gD s i (c20 !=95)))<|by kernel_rfl
  ·obtain rfl:=lf h
   exact dH A6 (p19<|sg 13 c18<|eF .normal (gD s i false))<|by kernel_rfl
 ·obtain rfl:=lf h
  exact dH A6 (p15<|sg 6 c14<|eF .normal (gD s i false))<|by kernel_rfl
end
section
variable(s:ag)(i:Int)
def eH:al:=be 41 [(0,.str s),(3,.int .i64 i)] [] []
def eI(o:Unit⊕(Unit)):Exit:=match o with
 |(.inl _)=>.ret
 |(.inr _)=>.exit 0
def dy(o:Unit⊕(Unit)):al:=match o with
 |(.inl o)=>be 41 [(2,.bool false)] [] []
 |(.inr o)=>be 41 [] [] []
def gE:Option (Int⊕(Unit⊕(Unit))):=
 if(decide (i<(s.length:Int)))=true then
  (jf s i).bind fun o21=>
  if o21=true then
   some (.inr (.inl ()))
  else
   some (.inl (b5 (i+1)))
 else
  some (.inr (.inr ()))
def jh:Option (Unit⊕(Unit)):=loop (fun(zz:Int)=>gE s zz) i
theorem qN{y:Int⊕(Unit⊕(Unit))}(h:gE s i=some y):aE Pg GE 0 (cA Di 119) (LQ (fun(zz:Int)=>eH s zz) eI dy y) (eH s i):=by
 rcases aM h with⟨c11,h⟩|⟨c11,h⟩
 ·obtain⟨o21,bo21,h⟩:=av h
  have p23:=fun{sc F} (r:PS sc F)=>eP (dq underlying9 s)<|sg 0 c11<|pH 1<|dG (rJ s i bo21)<|r
  rcases aM h with⟨c22,h⟩|⟨c22,h⟩
  ·obtain rfl:=lf h
   have z:=p23<|sg 0 c22<|eF (eI (.inl ())) (dy (.inl ()))
   exact jK A6 (by intro hx;cases hx) z<|by kernel_rfl
  ·obtain rfl:=lf h
   exact rf A6 (p23<|sg 0 c22<|eF .normal (eH s (b5 (i+1))))<|by kernel_rfl
 ·obtain rfl:=lf h
  have z:=eP (dq underlying9 s)<|sg 0 c11<|eF (eI (.inr ())) (dy (.inr ()))
  exact jK A6 (by intro hx;cases hx) z<|by kernel_rfl
theorem mq{x:Unit⊕(Unit)}(h:jh s i=some x):aE Pg GE 0 (.loop (cA Di 119)) (EX (eI x) (dy x)) (eH s i):=
 aE.loop (S:=fun(zz:Int)=>eH s zz) (ex:=eI) (s:=i) h fun zz y hy=>qN s zz hy
end
def m9(s:ag):Option Bool:=
 (je s).bind fun o8=>
 if o8=true then
  some false
 else
  (jh s 1).bind fun o24=>match o24 with
  |(.inl o24)=>
   some false
  |(.inr o24)=>
   some true
theorem pF{s:ag}{r:Bool}(h:m9 s=some r):CC Pg GE 45 [.str s] (.bool r) []:=by
 obtain⟨o8,bo8,h⟩:=av h
 have p10:=fun{sc F} (r:PS sc F)=>pH 2<|dG (rH s bo8)<|r
 rcases aM h with⟨c9,h⟩|⟨c9,h⟩
 ·obtain rfl:=lf h
  have z:=p10<|sg 0 c9<|en (aI (rP (.bool false))<|trivial)
  exact bC A6 call45 func45 (c:=Di) rfl (aI trivial trivial) z<|by kernel_rfl
 ·obtain⟨o24,bo24,h⟩:=av h
  rcases o24 with o24|o24
  ·obtain rfl:=lf h
   have z:=p10<|sg 0 c9<|dG (e:=.ret) (s1:=dy (.inl o24)) (mq s 1 bo24)<|en (aI (rP (.bool false))<|trivial)
   exact bC A6 call45 func45 (c:=Di) rfl (aI trivial trivial) z<|by kernel_rfl
  ·obtain rfl:=lf h
   have z:=p10<|sg 0 c9<|dG (e:=.exit 0) (s1:=dy (.inr o24)) (mq s 1 bo24)<|en (aI (rP (.bool true))<|trivial)
   exact bC A6 call45 func45 (c:=Di) rfl (aI trivial trivial) z<|by kernel_rfl
noncomputable def FU:Code:=f69.body.getD .skip
def FD:List Nat:=[]
def gp(c:Int):Option Bool:=
 if(decide (65<=c))=true then
  some (decide (c<=90))
 else
  some false
theorem mn{c:Int}{r:Bool}(h:gp c=some r):CC Pg GE 69 [.int .u8 c] (.bool r) []:=by
 rcases aM h with⟨c1,h⟩|⟨c1,h⟩
 ·obtain rfl:=lf h
  have z:=sg 3 c1<|en (aI (rP (.bool (decide (c<=90))))<|trivial)
  exact bC FD call69 func69 (c:=FU) rfl (aI trivial trivial) z<|by kernel_rfl
 ·obtain rfl:=lf h
  have z:=sg 3 c1<|en (aI (rP (.bool false))<|trivial)
  exact bC FD call69 func69 (c:=FU) rfl (aI trivial trivial) z<|by kernel_rfl
noncomputable def Ee:Code:=f48.body.getD .skip
def CR:List Nat:=[]
section
variable(s:ag)(i:Int)
def ml:al:=be 29 [(0,.str s),(3,.int .i64 i)] [] []
def cz(o:Bool):al:=be 29 [(0,.str s),(3,.int .i64 i),(28,.bool o)] [] []
def di:Option Bool:=
 (fY s i).bind fun c2=>
 (fE c2).bind fun r3=>
 if(!r3)=true then
  (fY s i).bind fun c6=>
  (gp c6).bind fun r7=>
  if(!r7)=true then
   (fY s i).bind fun c10=>
   (gR c10).bind fun r11=>
   some (!r11)
  else
   some false
 else
  some false
theorem lN{x:Bool}(h:di s i=some x):aE Pg GE 0 (cA Ee 890) (EX .normal (cz s i x)) (ml s i):=by
 obtain⟨c2,bc2,h⟩:=av h
 obtain⟨r3,br3,h⟩:=av h
 have p5:=fun{sc F} (r:PS sc F)=>sv (dN (k:=.i64) underlying9 bc2)<|co (im br3)<|r
 rcases aM h with⟨c4,h⟩|⟨c4,h⟩
 ·obtain⟨c6,bc6,h⟩:=av h
  obtain⟨r7,br7,h⟩:=av h
  have p9:=fun{sc F} (r:PS sc F)=>p5<|sg 6 c4<|sv (dN (k:=.i64) underlying9 bc6)<|co (mn br7)<|r
  rcases aM h with⟨c8,h⟩|⟨c8,h⟩
  ·obtain⟨c10,bc10,h⟩:=av h
   obtain⟨r11,br11,h⟩:=av h
   obtain rfl:=lf h
   exact dH CR (p9<|sg 13 c8<|sv (dN (k:=.i64) underlying9 bc10)<|co (ky br11)<|eF .normal (cz s i (!r11)))<|by kernel_rfl
  ·obtain rfl:=lf h
   exact dH CR (p9<|sg 13 c8<|eF .normal (cz s i false))<|by kernel_rfl
 ·obtain rfl:=lf h
  exact dH CR (p5<|sg 6 c4<|eF .normal (cz s i false))<|by kernel_rfl
end
section
variable(s:ag)(i:Int)
def bN:al:=be 29 [(0,.str s),(3,.int .i64 i)] [] []
def bP(o:Unit⊕(Unit)):Exit:=match o with
 |(.inl _)=>.ret
 |(.inr _)=>.exit 0
def bp(o:Unit⊕(Unit)):al:=match o with
 |(.inl o)=>be 29 [(2,.bool false)] [] []
 |(.inr o)=>be 29 [] [] []
def bO:Option (Int⊕(Unit⊕(Unit))):=
 if(decide (i<(s.length:Int)))=true then
  (di s i).bind fun o12=>
  if o12=true then
   some (.inr (.inl ()))
  else
   some (.inl (b5 (i+1)))
 else
  some (.inr (.inr ()))
def eV:Option (Unit⊕(Unit)):=loop (fun(zz:Int)=>bO s zz) i
theorem kU{y:Int⊕(Unit⊕(Unit))}(h:bO s i=some y):aE Pg GE 0 (cA Ee 55) (LQ (fun(zz:Int)=>bN s zz) bP bp y) (bN s i):=by
 rcases aM h with⟨c1,h⟩|⟨c1,h⟩
 ·obtain⟨o12,bo12,h⟩:=av h
  have p14:=fun{sc F} (r:PS sc F)=>eP (dq underlying9 s)<|sg 0 c1<|pH 1<|dG (lN s i bo12)<|r
  rcases aM h with⟨c13,h⟩|⟨c13,h⟩
  ·obtain rfl:=lf h
   have z:=p14<|sg 0 c13<|eF (bP (.inl ())) (bp (.inl ()))
   exact jK CR (by intro hx;cases hx) z<|by kernel_rfl
  ·obtain rfl:=lf h
   exact rf CR (p14<|sg 0 c13<|eF .normal (bN s (b5 (i+1))))<|by kernel_rfl
 ·obtain rfl:=lf h
  have z:=eP (dq underlying9 s)<|sg 0 c1<|eF (bP (.inr ())) (bp (.inr ()))
  exact jK CR (by intro hx;cases hx) z<|by kernel_rfl
theorem gn{x:Unit⊕(Unit)}(h:eV s i=some x):aE Pg GE 0 (.loop (cA Ee 55)) (EX (bP x) (bp x)) (bN s i):=
 aE.loop (S:=fun(zz:Int)=>bN s zz) (ex:=bP) (s:=i) h fun zz y hy=>kU s zz hy
end
def db(s:ag):Option Bool:=
 (eV s 0).bind fun o15=>match o15 with
 |(.inl o15)=>
  some false
 |(.inr o15)=>
  some true
theorem iz{s:ag}{r:Bool}(h:db s=some r):CC Pg GE 48 [.str s] (.bool r) []:=by
 obtain⟨o15,bo15,h⟩:=av h
 rcases o15 with o15|o15
 ·obtain rfl:=lf h
  have z:=dG (e:=.ret) (s1:=bp (.inl o15)) (gn s 0 bo15)<|en (aI (rP (.bool false))<|trivial)
  exact bC CR call48 func48 (c:=Ee) rfl (aI trivial trivial) z<|by kernel_rfl
 ·obtain rfl:=lf h
  have z:=dG (e:=.exit 0) (s1:=bp (.inr o15)) (gn s 0 bo15)<|en (aI (rP (.bool true))<|trivial)
  exact bC CR call48 func48 (c:=Ee) rfl (aI trivial trivial) z<|by kernel_rfl
noncomputable def DQ:Code:=f46.body.getD .skip
def CQ:List Nat:=[]
section
variable(s:ag)
def rN:al:=be 31 [(0,.str s)] [] []
def fT(o:Bool):al:=be 31 [(0,.str s),(16,.bool o)] [] []
def io:Option Bool:=
 (gS s).bind fun r1=>
 if(!r1)=true then
  some true
 else
  (fY s 0).bind fun c3=>
  (gp c3).bind fun r4=>
  if(!r4)=true then
   some true
  else
   (db s).bind fun r7=>
   some (!r7)
theorem qP{x:Bool}(h:io s=some x):aE Pg GE 0 (cA DQ 12) (EX .normal (fT s x)) (rN s):=by
 obtain⟨r1,br1,h⟩:=av h
 rcases aM h with⟨c2,h⟩|⟨c2,h⟩
 ·obtain rfl:=lf h
  exact dH CQ (co (d5 br1)<|sg 4 c2<|eF .normal (fT s true))<|by kernel_rfl
 ·obtain⟨c3,bc3,h⟩:=av h
  obtain⟨r4,br4,h⟩:=av h
  have p6:=fun{sc F} (r:PS sc F)=>co (d5 br1)<|sg 4 c2<|sv (dN (k:=.i64) underlying9 bc3)<|co (mn br4)<|r
  rcases aM h with⟨c5,h⟩|⟨c5,h⟩
  ·obtain rfl:=lf h
   exact dH CQ (p6<|sg 10 c5<|eF .normal (fT s true))<|by kernel_rfl
  ·obtain⟨r7,br7,h⟩:=av h
   obtain rfl:=lf h
   exact dH CQ (p6<|sg 10 c5<|co (iz br7)<|eF .normal (fT s (!r7)))<|by kernel_rfl
end
def ly(s:ag):Option Bool:=
 (io s).bind fun o8=>
 if o8=true then
  some false
 else
  if (!(s == ([73,110,116]:ag))) = true then
   if(!(s==([66,111,111,108]:ag)))=true then
    if(!(s==([67,101,108,108]:ag)))=true then
     some (!(s==([70,117,110]:ag)))
    else
     some false
   else
    some false
  else
   some false
theorem uF{s:ag}{r:Bool}(h:ly s=some r):CC Pg GE 46 [.str s] (.bool r) []:=by
 obtain⟨o8,bo8,h⟩:=av h
 have p10:=fun{sc F} (r:PS sc F)=>pH 2<|dG (qP s bo8)<|r
 rcases aM h with⟨c9,h⟩|⟨c9,h⟩
 ·obtain rfl:=lf h
  have z:=p10<|sg 0 c9<|en (aI (rP (.bool false))<|trivial)
  exact bC CQ call46 func46 (c:=DQ) rfl (aI trivial trivial) z<|by kernel_rfl
 ·have p12:=fun{sc F} (r:PS sc F)=>p10<|sg 0 c9<|r
  rcases aM h with⟨c11,h⟩|⟨c11,h⟩
  ·have p14:=fun{sc F} (r:PS sc F)=>p12<|sg 3 c11<|r
   rcases aM h with⟨c13,h⟩|⟨c13,h⟩
   ·have p16:=fun{sc F} (r:PS sc F)=>p14<|sg 7 c13<|r
    rcases aM h with⟨c15,h⟩|⟨c15,h⟩
    ·obtain rfl:=lf h
     have z:=p16<|sg 11 c15<|en (aI (rP (.bool (!(s==([70,117,110]:ag)))))<|trivial)
     exact bC CQ call46 func46 (c:=DQ) rfl (aI trivial trivial) z<|by kernel_rfl
    ·obtain rfl:=lf h
     have z:=p16<|sg 11 c15<|en (aI (rP (.bool false))<|trivial)
     exact bC CQ call46 func46 (c:=DQ) rfl (aI trivial trivial) z<|by kernel_rfl
   ·obtain rfl:=lf h
    have z:=p14<|sg 7 c13<|en (aI (rP (.bool false))<|trivial)
    exact bC CQ call46 func46 (c:=DQ) rfl (aI trivial trivial) z<|by kernel_rfl
  ·obtain rfl:=lf h
   have z:=p12<|sg 3 c11<|en (aI (rP (.bool false))<|trivial)
   exact bC CQ call46 func46 (c:=DQ) rfl (aI trivial trivial) z<|by kernel_rfl
noncomputable def Ef:Code:=f49.body.getD .skip
def Cj:List Nat:=[]
section
variable(s:ag)(i:Int)
def ti:al:=be 32 [(0,.str s),(3,.int .i64 i)] [] []
def eJ(o:Bool):al:=be 32 [(0,.str s),(3,.int .i64 i),(31,.bool o)] [] []
def ji:Option Bool:=
 (fY s i).bind fun c2=>
 (fE c2).bind fun r3=>
 if (!r3) = true then
  if(i==0)=true then
   some true
  else
   (fY s i).bind fun c8=>
   (gR c8).bind fun r9=>
   if(!r9)=true then
    (fY s i).bind fun c12=>
    some (c12 !=95)
   else
    some false
 else
  some false
theorem rQ{x:Bool}(h:ji s i=some x):aE Pg GE 0 (cA Ef 890) (EX .normal (eJ s i x)) (ti s i):=by
 obtain⟨c2,bc2,h⟩:=av h
 obtain⟨r3,br3,h⟩:=av h
 have p5:=fun{sc F} (r:PS sc F)=>sv (dN (k:=.i64) underlying9 bc2)<|co (im br3)<|r
 rcases aM h with⟨c4,h⟩|⟨c4,h⟩
 ·have p7:=fun{sc F} (r:PS sc F)=>p5<|sg 6 c4<|r
  rcases aM h with⟨c6,h⟩|⟨c6,h⟩
  ·obtain rfl:=lf h
   exact dH Cj (p7<|sg 9 c6<|eF .normal (eJ s i true))<|by kernel_rfl
  ·obtain⟨c8,bc8,h⟩:=av h
   obtain⟨r9,br9,h⟩:=av h
   have p11:=fun{sc F} (r:PS sc F)=>p7<|sg 9 c6<|sv (dN (k:=.i64) underlying9 bc8)<|co (ky br9)<|r
   rcases aM h with⟨c10,h⟩|⟨c10,h⟩
   ·obtain⟨c12,bc12,h⟩:=av h
    obtain rfl:=lf h
    exact dH Cj (p11<|sg 15 c10<|sv (dN (k:=.i64) underlying9 bc12)<|eF .normal (eJ s i (c12 !=95)))<|by kernel_rfl
   ·obtain rfl:=lf h
    exact dH Cj (p11<|sg 15 c10<|eF .normal (eJ s i false))<|by kernel_rfl
 ·obtain rfl:=lf h
  exact dH Cj (p5<|sg 6 c4<|eF .normal (eJ s i false))<|by kernel_rfl
end
section
variable(s:ag)(i:Int)
def eK:al:=be 32 [(0,.str s),(3,.int .i64 i)] [] []
def eM(o:Unit⊕(Unit)):Exit:=match o with
 |(.inl _)=>.ret
 |(.inr _)=>.exit 0
def dz(o:Unit⊕(Unit)):al:=match o with
 |(.inl o)=>be 32 [(2,.bool false)] [] []
 |(.inr o)=>be 32 [] [] []
def eL:Option (Int⊕(Unit⊕(Unit))):=
 if(decide (i<(s.length:Int)))=true then
  (ji s i).bind fun o13=>
  if o13=true then
   some (.inr (.inl ()))
  else
   some (.inl (b5 (i+1)))
 else
  some (.inr (.inr ()))
def lO:Option (Unit⊕(Unit)):=loop (fun(zz:Int)=>eL s zz) i
theorem qQ{y:Int⊕(Unit⊕(Unit))}(h:eL s i=some y):aE Pg GE 0 (cA Ef 55) (LQ (fun(zz:Int)=>eK s zz) eM dz y) (eK s i):=by
 rcases aM h with⟨c1,h⟩|⟨c1,h⟩
 ·obtain⟨o13,bo13,h⟩:=av h
  have p15:=fun{sc F} (r:PS sc F)=>eP (dq underlying9 s)<|sg 0 c1<|pH 1<|dG (rQ s i bo13)<|r
  rcases aM h with⟨c14,h⟩|⟨c14,h⟩
  ·obtain rfl:=lf h
   have z:=p15<|sg 0 c14<|eF (eM (.inl ())) (dz (.inl ()))
   exact jK Cj (by intro hx;cases hx) z<|by kernel_rfl
  ·obtain rfl:=lf h
   exact rf Cj (p15<|sg 0 c14<|eF .normal (eK s (b5 (i+1))))<|by kernel_rfl
 ·obtain rfl:=lf h
  have z:=eP (dq underlying9 s)<|sg 0 c1<|eF (eM (.inr ())) (dz (.inr ()))
  exact jK Cj (by intro hx;cases hx) z<|by kernel_rfl
theorem mr{x:Unit⊕(Unit)}(h:lO s i=some x):aE Pg GE 0 (.loop (cA Ef 55)) (EX (eM x) (dz x)) (eK s i):=
 aE.loop (S:=fun(zz:Int)=>eK s zz) (ex:=eM) (s:=i) h fun zz y hy=>qQ s zz hy
end
def na(s:ag):Option Bool:=
 (lO s 0).bind fun o16=>match o16 with
 |(.inl o16)=>
  some false
 |(.inr o16)=>
  some true
theorem vV{s:ag}{r:Bool}(h:na s=some r):CC Pg GE 49 [.str s] (.bool r) []:=by
 obtain⟨o16,bo16,h⟩:=av h
 rcases o16 with o16|o16
 ·obtain rfl:=lf h
  have z:=dG (e:=.ret) (s1:=dz (.inl o16)) (mr s 0 bo16)<|en (aI (rP (.bool false))<|trivial)
  exact bC Cj call49 func49 (c:=Ef) rfl (aI trivial trivial) z<|by kernel_rfl
 ·obtain rfl:=lf h
  have z:=dG (e:=.exit 0) (s1:=dz (.inr o16)) (mr s 0 bo16)<|en (aI (rP (.bool true))<|trivial)
  exact bC Cj call49 func49 (c:=Ef) rfl (aI trivial trivial) z<|by kernel_rfl
noncomputable def CU:Code:=f25.body.getD .skip
def zJ:List Nat:=[]
section
variable(first:ag)(rest:ag)(more:Bool)
def te:al:=be 52 [(3,.str first),(4,.str rest),(5,.bool more)] [] []
def eD(o:Bool):al:=be 52 [(4,.str rest),(5,.bool more),(31,.bool o)] [] []
def jb:Option Bool:=
 (m9 first).bind fun r3=>
 if (!r3) = true then
  (ly first).bind fun r5=>
  if(!r5)=true then
   if(!(first==([118]:ag)))=true then
    some true
   else
    some (!more)
  else
   some false
 else
  some false
theorem ry{x:Bool}(h:jb first more=some x):aE Pg GE 0 (cA CU 60) (EX .normal (eD rest more x)) (te first rest more):=by
 obtain⟨r3,br3,h⟩:=av h
 rcases aM h with⟨c4,h⟩|⟨c4,h⟩
 ·obtain⟨r5,br5,h⟩:=av h
  have p7:=fun{sc F} (r:PS sc F)=>co (pF br3)<|sg 4 c4<|co (uF br5)<|r
  rcases aM h with⟨c6,h⟩|⟨c6,h⟩
  ·have p9:=fun{sc F} (r:PS sc F)=>p7<|sg 9 c6<|r
   rcases aM h with⟨c8,h⟩|⟨c8,h⟩
   ·obtain rfl:=lf h
    exact dH zJ (p9<|sg 12 c8<|eF .normal (eD rest more true))<|by kernel_rfl
   ·obtain rfl:=lf h
    exact dH zJ (p9<|sg 12 c8<|eF .normal (eD rest more (!more)))<|by kernel_rfl
  ·obtain rfl:=lf h
   exact dH zJ (p7<|sg 9 c6<|eF .normal (eD rest more false))<|by kernel_rfl
 ·obtain rfl:=lf h
  exact dH zJ (co (pF br3)<|sg 4 c4<|eF .normal (eD rest more false))<|by kernel_rfl
end
section
variable(rest:ag)(more:Bool)(part:ag)
def tf:al:=be 52 [(4,.str rest),(5,.bool more),(6,.str part)] [] []
def gB(o:Bool):al:=be 52 [(4,.str rest),(5,.bool more),(51,.bool o)] [] []
def jc:Option Bool:=
 (gS part).bind fun r15=>
 if(!r15)=true then
  some true
 else
  (db part).bind fun r17=>
  if(!r17)=true then
   (na part).bind fun r20=>
   some (!r20)
  else
   some false
theorem rA{x:Bool}(h:jc part=some x):aE Pg GE 0 (cA CU 8062) (EX .normal (gB rest more x)) (tf rest more part):=by
 obtain⟨r15,br15,h⟩:=av h
 rcases aM h with⟨c16,h⟩|⟨c16,h⟩
 ·obtain rfl:=lf h
  exact dH zJ (co (d5 br15)<|sg 4 c16<|eF .normal (gB rest more true))<|by kernel_rfl
 ·obtain⟨r17,br17,h⟩:=av h
  have p19:=fun{sc F} (r:PS sc F)=>co (d5 br15)<|sg 4 c16<|co (iz br17)<|r
  rcases aM h with⟨c18,h⟩|⟨c18,h⟩
  ·obtain⟨r20,br20,h⟩:=av h
   obtain rfl:=lf h
   exact dH zJ (p19<|sg 8 c18<|co (vV br20)<|eF .normal (gB rest more (!r20)))<|by kernel_rfl
  ·obtain rfl:=lf h
   exact dH zJ (p19<|sg 8 c18<|eF .normal (gB rest more false))<|by kernel_rfl
end
section
variable(rest:ag)(more:Bool)
def eE:al:=be 52 [(4,.str rest),(5,.bool more)] [] []
def eG(o:Unit⊕(Unit)):Exit:=match o with
 |(.inl _)=>.ret
 |(.inr _)=>.exit 0
def dw(o:Unit⊕(Unit)):al:=match o with
 |(.inl o)=>be 52 [(2,.int .i64 3)] [] []
 |(.inr o)=>be 52 [] [] []
def dv:Option ((ag×Bool)⊕(Unit⊕(Unit))):=
 if more=true then
  (mo rest).bind fun r14=>
  (jc r14.1).bind fun o21=>
  if o21=true then
   some (.inr (.inl ()))
  else
   some (.inl (r14.2.1,r14.2.2))
 else
  some (.inr (.inr ()))
def cR:Option (Unit⊕(Unit)):=loop (fun(zz:ag×Bool)=>dv zz.1 zz.2) (rest,more)
theorem qJ{y:(ag×Bool)⊕(Unit⊕(Unit))}(h:dv rest more=some y):aE Pg GE 0 (cA CU 251) (LQ (fun(zz:ag×Bool)=>eE zz.1 zz.2) eG dw y) (eE rest more):=by
 rcases aM h with⟨c13,h⟩|⟨c13,h⟩
 ·obtain⟨r14,br14,h⟩:=av h
  obtain⟨o21,bo21,h⟩:=av h
  have p23:=fun{sc F} (r:PS sc F)=>sg 0 c13<|co (qL br14)<|pH 0<|dG (rA r14.2.1 r14.2.2 r14.1 bo21)<|r
  rcases aM h with⟨c22,h⟩|⟨c22,h⟩
  ·obtain rfl:=lf h
   have z:=p23<|sg 0 c22<|eF (eG (.inl ())) (dw (.inl ()))
   exact jK zJ (by intro hx;cases hx) z<|by kernel_rfl
  ·obtain rfl:=lf h
   exact rf zJ (p23<|sg 0 c22<|eF .normal (eE r14.2.1 r14.2.2))<|by kernel_rfl
 ·obtain rfl:=lf h
  have z:=sg 0 c13<|eF (eG (.inr ())) (dw (.inr ()))
  exact jK zJ (by intro hx;cases hx) z<|by kernel_rfl
theorem mj{x:Unit⊕(Unit)}(h:cR rest more=some x):aE Pg GE 0 (.loop (cA CU 251)) (EX (eG x) (dw x)) (eE rest more):=
 aE.loop (S:=fun(zz:ag×Bool)=>eE zz.1 zz.2) (ex:=eG) (s:=(rest,more)) h fun zz y hy=>qJ zz.1 zz.2 hy
end
def ku(s:ag):Option Int:=
 if(decide ((s.length:Int)>120))=true then
  some 3
 else
  (mo s).bind fun r2=>
  (jb r2.1 r2.2.2).bind fun o10=>
  if o10=true then
   some 3
  else
   (cR r2.2.1 r2.2.2).bind fun o24=>match o24 with
   |(.inl o24)=>
    some 3
   |(.inr o24)=>
    some 0
theorem pE{s:ag}{r:Int}(h:ku s=some r):CC Pg GE 25 [.str s] (.int .i64 r) []:=by
 rcases aM h with⟨c1,h⟩|⟨c1,h⟩
 ·obtain rfl:=lf h
  have z:=eP (dq underlying9 s)<|sg 0 c1<|en (aI (rP (.int .i64 3))<|trivial)
  exact bC zJ call25 func25 (c:=CU) rfl (aI trivial trivial) z<|by kernel_rfl
 ·obtain⟨r2,br2,h⟩:=av h
  obtain⟨o10,bo10,h⟩:=av h
  have p12:=fun{sc F} (r:PS sc F)=>eP (dq underlying9 s)<|sg 0 c1<|co (qL br2)<|pH 1<|dG (ry r2.1 r2.2.1 r2.2.2 bo10)<|r
  rcases aM h with⟨c11,h⟩|⟨c11,h⟩
  ·obtain rfl:=lf h
   have z:=p12<|sg 0 c11<|en (aI (rP (.int .i64 3))<|trivial)
   exact bC zJ call25 func25 (c:=CU) rfl (aI trivial trivial) z<|by kernel_rfl
  ·obtain⟨o24,bo24,h⟩:=av h
   rcases o24 with o24|o24
   ·obtain rfl:=lf h
    have z:=p12<|sg 0 c11<|dG (e:=.ret) (s1:=dw (.inl o24)) (mj r2.2.1 r2.2.2 bo24)<|en (aI (rP (.int .i64 3))<|trivial)
    exact bC zJ call25 func25 (c:=CU) rfl (aI trivial trivial) z<|by kernel_rfl
   ·obtain rfl:=lf h
    have z:=p12<|sg 0 c11<|dG (e:=.exit 0) (s1:=dw (.inr o24)) (mj r2.2.1 r2.2.2 bo24)<|en (aI (rP (.int .i64 0))<|trivial)
    exact bC zJ call25 func25 (c:=CU) rfl (aI trivial trivial) z<|by kernel_rfl
noncomputable def FJ:Code:=f26.body.getD .skip
def Fu:List Nat:=[]
def er(n:Int):Option Bool:=
 if(decide (n>=0))=true then
  some (decide (n<6))
 else
  some false
theorem jL{n:Int}{r:Bool}(h:er n=some r):CC Pg GE 26 [.int .i64 n] (.bool r) []:=by
 rcases aM h with⟨c1,h⟩|⟨c1,h⟩
 ·obtain rfl:=lf h
  have z:=sg 3 c1<|en (aI (rP (.bool (decide (n<6))))<|trivial)
  exact bC Fu call26 func26 (c:=FJ) rfl (aI trivial trivial) z<|by kernel_rfl
 ·obtain rfl:=lf h
  have z:=sg 3 c1<|en (aI (rP (.bool false))<|trivial)
  exact bC Fu call26 func26 (c:=FJ) rfl (aI trivial trivial) z<|by kernel_rfl
noncomputable def E6:Code:=f27.body.getD .skip
def EY:List Nat:=[]
def fc(a:ah)(a2:ah):Option Bool:=
 if(decide (a.From<a2.From))=true then
  some true
 else
  if(a.From==a2.From)=true then
   some (decide (a.To<a2.To))
  else
   some false
theorem oN{a:ah}{a2:ah}{r:Bool}(h:fc a a2=some r):CC Pg GE 27 [.agg (aj a),.agg (aj a2)] (.bool r) []:=by
 have p2:=fun{sc F} (r:PS sc F)=>se (nd a)<|se (nd a2)<|sv (b6 a)<|sv (cw a)<|sv (b6 a2)<|sv (cw a2)<|r
 rcases aM h with⟨c1,h⟩|⟨c1,h⟩
 ·obtain rfl:=lf h
  have z:=p2<|sg 6 c1<|en (aI (rP (.bool true))<|trivial)
  exact bC EY call27 func27 (c:=E6) rfl (aI (au a) (aI (au a2) trivial)) z<|by kernel_rfl
 ·have p4:=fun{sc F} (r:PS sc F)=>p2<|sg 6 c1<|sv (b6 a)<|sv (cw a)<|sv (b6 a2)<|sv (cw a2)<|r
  rcases aM h with⟨c3,h⟩|⟨c3,h⟩
  ·obtain rfl:=lf h
   have z:=p4<|sg 12 c3<|sv (eA a)<|sv (fA a)<|sv (eA a2)<|sv (fA a2)<|en (aI (rP (.bool (decide (a.To<a2.To))))<|trivial)
   exact bC EY call27 func27 (c:=E6) rfl (aI (au a) (aI (au a2) trivial)) z<|by kernel_rfl
  ·obtain rfl:=lf h
   have z:=p4<|sg 12 c3<|en (aI (rP (.bool false))<|trivial)
   exact bC EY call27 func27 (c:=E6) rfl (aI (au a) (aI (au a2) trivial)) z<|by kernel_rfl
end Go.Proofs.YtoficachfgggjaaDoor
