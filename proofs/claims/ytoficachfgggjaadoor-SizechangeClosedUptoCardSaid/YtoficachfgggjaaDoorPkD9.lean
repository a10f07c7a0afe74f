/- PROVED: a part of the proof. Conditions: none. -/
import Derived.Test.YtoficachfgggjaaDoorPkD8
import Derived.Test.YtoficachfgggjaaDoorPkD7
import Derived.Shelf.Strconv.Itoa3
noncomputable section
namespace Go.Proofs.YtoficachfgggjaaDoor
open Go Go.Shelf Go.RowKit Go.Lib Go.Sort
set_option linter.unusedSimpArgs false
set_option linter.unusedVariables false
def lV(n t nb i:Nat)(p:PVal)(e:TypeId):ak:=⟨(List.replicate n .undef).set t (.bptr i 0),(List.replicate nb .dead).set i (.cells [p] [(0,e)]),[]⟩
theorem Ei{n t nb i j:Nat}{p q:PVal}{e:TypeId}(h:(lV n t nb i p e).tmps[j]? =some q):q=.undef\/(j=t/\q=.bptr i 0):=by
 unfold lV at h
 simp only at h
 rw[vbw]at h
 split at h
 ·rename_i hti
  split at h
  ·cases h;exact .inr ⟨hti.symm,rfl⟩
  ·cases h
 ·rw[vaS]at h
  split at h
  ·cases h;exact .inl rfl
  ·cases h
theorem BC{n t nb i j:Nat}{p:PVal}{e:TypeId}{B:ai}(h:(lV n t nb i p e).boxes[j]? =some B):(j=i/\B=.cells [p] [(0,e)])\/(j≠i/\B=.dead):=by
 unfold lV at h
 simp only at h
 rw[vbw]at h
 split at h
 ·rename_i hti
  split at h
  ·cases h;exact .inl ⟨hti.symm,rfl⟩
  ·cases h
 ·rename_i hti
  rw[vaS]at h
  split at h
  ·cases h;exact .inr ⟨fun e=>hti e.symm,rfl⟩
  ·cases h
section
variable{P:Program}{GE:List (Nat×List PVal)}{α:Type}[DecidableEq α]{c:α->List PVal}{ord:α->α->Option Int}
theorem AZ{T e:TypeId}{K:List Nat}{fs fo rid n t nb i d1 d2:Nat}{o1 o2:Oper}{tys:Array TypeId}{l r:List α}(s:yS P T e c)(hS:Ba P fs (P.cellsOf e))(hsc:(P.underlying T).any qV=true)
  (hcc:∀x y r,ord x y=some r->CC P GE fo [.agg (c x),.agg (c y)] (.int .i64 r) []) (hof:∀vs w,(callFunc fo vs).run P w=.ok (.enter fo vs) w)
  (hfl:∀x,∀q∈c x,zu K q/\q.kd∈K/\q.kd≠0) (h1:o1.op=.load T (.tmp t)) (h1d:o1.dst=some d1) (h1g:o1.guard=none)
  (h2:o2.op=.call {callee:=.value (.func fs),args:=#[.tmp d1,.func fo],argTypes:=tys}) (h2d:o2.dst=some d2) (h2g:o2.guard=none)
  (hn:t<n/\d1<n/\d2<n/\t≠d1/\t≠d2) (hi:i<nb) (hs:qW ord l=some r):
  aL P GE 0 (.region rid #[o1,o2] false) (EX .normal (lV n t nb i (sl c r) e)) (lV n t nb i (sl c l) e):=by
 obtain⟨n1,n2,n3,n4,n5⟩:=hn
 intro ro E bs0 a w hE hb0 hR
 have hb0:bs0=[]:=vaq hb0
 subst hb0
 refine vw (by simp[eI,h1,h2]) (by rintro⟨_,_,_,_,_,h,_⟩;cases h) ?_
 show wpOps P #[o1,o2] _ [0,1] a w
 obtain⟨Γ,bs,ow,h,hk⟩:=hR
 have hsz:a.tmps.size=n:=by rw[h.sz];simp[lV]
 obtain⟨u,hu⟩:∃u,a.tmps[t]? =some u:=⟨a.tmps[t]'(by omega),vaG (by omega)⟩
 have hpt:=h.tm t (.bptr i 0) u (by simp[lV,n1]) hu
 cases hpt with
 |bptr _ _ b0 hib=>
 have hBi:(lV n t nb i (sl c l) e).boxes[i]? =some (.cells [sl c l] [(0,e)]):=by simp[lV,hi]
 obtain⟨hg0,hlt0,cc,tt,hheap0,hlen0,hvr0⟩:=h.bx i b0 _ hib hBi
 obtain⟨v,hcell,hown,howb⟩:=h.ob i 0 e _ _ b0 hBi (by simp) hib
 have hcc0:cc[0]? =some v:=by rw[<-hcell,cell_of_row w b0 0 cc tt _ hheap0]
 have hvr:VR Γ bs w (sl c l) v:=hvr0 0 _ v rfl hcc0
 have hload:(Instr.loadAt T (.pointer (some ⟨b0,0,none⟩))).run P w=.ok v w:=by
  obtain⟨v',hr,hv'⟩:=fa (P:=P) (w:=w) (Γ:=Γ) (bs:=bs) (b:=b0) (off:=0) (cs:=[.val v]) (vals:=fun _=>v) (yy hsc _ _)
   (fun k q hq=>by
    have hk0:k=0:=by have:=ae hq;simp at this;exact this
    subst hk0;exact hcell)
   (fun k q hq=>by
    have hk0:k=0:=by have:=ae hq;simp at this;exact this
    subst hk0;simp at hq;subst hq;exact .val v)
  cases hv'
  simp[Instr.loadAt,Instr.sureAddr,hr]
 have hu0:a.eval (.tmp t)=.pointer (some ⟨b0,0,none⟩):=ic hu
 rw[wpOps_cons]
 unfold wpOp
 rw[show(#[o1,o2]:Array Oper)[0]? =some o1 from rfl]
 simp only
 rw[vae (by simp[Region.wanted,h1g])]
 refine .inl ?_
 unfold Oper.wp
 rw[show(execOp a.eval o1).run P w=.ok (.value v) w by simp[execOp,h1,hu0,hload],Oper.upon_value]
 rw[wpOps_cons]
 unfold wpOp
 rw[show(#[o1,o2]:Array Oper)[1]? =some o2 from rfl]
 simp only
 rw[vae (by simp[Region.wanted,h2g])]
 refine .inl ?_
 unfold Oper.wp
 have hu1:(a.put o1.dst v).eval (.tmp d1)=v:=by
  refine ic ?_
  rw[h1d]
  show(a.tmps.setIfInBounds d1 v)[d1]? =some v
  simp[hsz,n2]
 rw[show(execOp (a.put o1.dst v).eval o2).run P w=.ok (.enter fs #[v,.func (.func fo) #[] #[]]) w by
  simp only[execOp,h2]
  simp[resolve,Act.eval,Deferred.ofValue,invoke,hS.1]
  have hu2:(a.put o1.dst v).tmps.getD d1 undef=v:=hu1
  rw[vav]at hu2
  exact hu2,Oper.upon_enter]
 have hget:∀q:Value,(((a.put o1.dst v).put o2.dst q).tmps)[t]? =some (.pointer (some ⟨b0,0,none⟩))/\(((a.put o1.dst v).put o2.dst q).tmps).size=n:=by
  intro q
  rw[h1d,h2d]
  show((a.tmps.setIfInBounds d1 v).setIfInBounds d2 q)[t]? =_/\((a.tmps.setIfInBounds d1 v).setIfInBounds d2 q).size=n
  refine⟨?_,by simp[hsz]⟩
  rw[vaL n5.symm,vaL n4.symm];exact hu
 have hdef:∀q:Value,((a.put o1.dst v).put o2.dst q).defers=a.defers:=fun q=>(aW _ _ _).trans (aW _ _ _)
 obtain⟨hokS,hrl⟩:=DP hs
 obtain⟨happ,hord,hO⟩:=wc hokS
 have htm:∀{bs:az} {Γ:au} {w:World} {p:PVal} (q:Value),bs[i]? =some (some b0)->∀(j:Nat) x y,(lV n t nb i p e).tmps[j]? =some x->(((a.put o1.dst v).put o2.dst q).tmps)[j]? =some y->VR Γ bs w x y:=by
  intro bs Γ w p q hb j x y hx hy
  rcases Ei hx with rfl|⟨rfl,rfl⟩
  ·exact .undef y
  ·rw[(hget q).1]at hy;cases hy;exact .bptr _ _ _ hb
 have hempty:l=[]->∀q,wpOps P #[o1,o2] (uQ P E [] a.defers (EX .normal (lV n t nb i (sl c r) e))) [] ((a.put o1.dst v).put o2.dst q) w:=by
  intro hl q
  subst hl
  have hr:r=[]:=vaq hrl
  subst hr
  refine⟨hdef q,_,⟨Γ,bs,ow,{h with sz:=by rw[(hget q).2];simp[lV],tm:=htm q hib,ot:=fun t k e he=>by simp[lV]at he},hk⟩,rfl,rfl⟩
 unfold sl at hvr
 generalize hes:l.map c=es at hvr
 cases hvr with
 | sliceNil =>
  have hl:l=[]:=by cases l with
   |nil=>rfl
   |cons x l=>simp at hes
  refine(hS.2.2 none 0 _ w).mono fun q w' hr=>?_
  obtain⟨rfl,rfl⟩:=hr
  exact hempty hl _
 | sliceE x cap =>
  have hl:l=[]:=by cases l with
   |nil=>rfl
   |cons x l=>simp at hes
  refine(hS.2.2 (some x) cap _ w).mono fun q w' hr=>?_
  obtain⟨rfl,rfl⟩:=hr
  exact hempty hl _
 | slice _ b off cap m sz vals hz0 hcap hg hm hszs hc hv =>
  obtain⟨kk,xs,⟨hx1,hx2⟩,hx3⟩:=hown
  rcases hx2 with⟨hx2,_⟩|⟨g',cap',cur,hx2,_,hheap,hkc,hcm,hcs,htake⟩
  ·cases hx2
  cases hx2
  subst hes
  by_cases hl0:l=[]
  ·subst hl0
   refine(hS.2.2 (some ⟨b,0,none⟩) cap _ w).mono fun q w' hr=>?_
   obtain⟨rfl,rfl⟩:=hr
   exact hempty rfl _
  have hN:0<l.length:=vbO.2 hl0
  have hlen:(l.map c).length=l.length:=vbJ _
  have hget':∀j,(hj:j<l.length)->(l.map c)[j]? =some (c l[j]):=fun j hj=>by rw[vax,vab hj];rfl
  have hsk:sz=P.cellsOf e:=by rw[<-hszs 0 _ (hget' 0 hN),s.hc]
  subst hsk
  have hΓg:Γ b=some (l.length * P.cellsOf e):=by rw[hx3 b rfl,hlen]
  generalize hkk:P.cellsOf e=k at *
  let cl:Nat->Nat:=fun x=>if x<l.length then x else 0
  have hcl:∀x,cl x<l.length:=fun x=>by show(if x<l.length then x else 0)<_;split<;>omega
  have hcl0:∀x,x<l.length->cl x=x:=fun x hx=>by show(if x<l.length then x else 0)=_;rw[vae hx]
  let el:Nat->α:=fun x=>l[cl x]'(hcl x)
  have hel:∀x,el x∈l:=fun x=>vaO (hcl x)
  let enc:Nat->List Value:=fun x=>(List.range k).map fun j=>vals (cl x) j
  have henc:∀(x j:Nat) uu,(enc x)[j]? =some uu->j<k/\uu=vals (cl x) j:=fun x j uu hh=>by
   have hh:((List.range k).map fun j=>vals (cl x) j)[j]? =some uu:=hh
   rw[vax]at hh
   by_cases hj:j<k
   ·rw[vaX hj]at hh;cases hh;exact⟨hj,rfl⟩
   ·rw[vaA (by simp;omega)]at hh;cases hh
  have hencl:∀x,(enc x).length=k:=fun x=>by show((List.range k).map _).length=k;simp
  have hencg:∀(x j:Nat),j<k->(enc x)[j]! =vals (cl x) j:=fun x j hj=>by
   rw[List.getElem!_eq_getElem?_getD]
   have:(enc x)[j]? =some (vals (cl x) j):=by
    show((List.range k).map fun j=>vals (cl x) j)[j]? =_
    rw[vax,vaX hj];rfl
   rw[this];rfl
  have hqe:∀(x j:Nat),j<k->∃q,(c (el x))[j]? =some q/\q∈c (el x)/\VR Γ bs w q (vals (cl x) j):=fun x j hj=>by
   have hjl:j<(c (el x)).length:=by rw[s.hc];omega
   exact⟨_,vab hjl,vaO hjl,hv (cl x) _ j _ (hget' _ (hcl x)) (vab hjl)⟩
  have hvre:∀(x j:Nat) q uu,(c (el x))[j]? =some q->(enc x)[j]? =some uu->VR Γ bs w q uu:=fun x j q uu hq huu=>by
   obtain⟨hj,rfl⟩:=henc x j uu huu
   exact hv (cl x) _ j q (hget' _ (hcl x)) hq
  have hone:∀x,∀uu∈enc x,uu.oneCell'=true:=fun x uu huu=>by
   obtain⟨j,hj⟩:=vbv huu
   obtain⟨hjk,rfl⟩:=henc x j uu hj
   obtain⟨q,_,hqm,hqv⟩:=hqe x j hjk
   exact hqv.one (s.ho _ q hqm)
  have hcelli:∀(x j:Nat),x<l.length->j<k->w.cell? ⟨b,0+(x * k+j),none⟩=some (vals x j):=fun x j hx hj=>by
   have hjl:j<(c l[x]).length:=by rw[s.hc];omega
   have:=hc x _ j _ (hget' x hx) (vab hjl)
   rw[<-this];congr 2;omega
  have hkpos:0<k:=hz0
  have hdm:∀o,o<l.length * k->o / k<l.length/\o % k<k/\o=o / k * k+o % k:=fun o ho=>⟨Nat.div_lt_of_lt_mul (by rw[vcq];exact ho),Nat.mod_lt _ hkpos,(Nat.div_add_mod' o k).symm⟩
  have hrow:∀o,o<l.length * k->∃uu,w.cell? ⟨b,o,none⟩=some uu/\G3 uu∈K:=fun o ho=>by
   obtain⟨a1,a2,a3⟩:=hdm o ho
   have:=hcelli (o / k) (o % k) a1 a2
   rw[vaB,<-a3]at this
   obtain⟨q,_,hqm,hqv⟩:=hqe (o / k) (o % k) a2
   rw[hcl0 _ a1]at hqv
   obtain⟨_,k1,k2⟩:=hfl _ q hqm
   exact⟨_,this,by rw[VR.kd_eq hqv k2];exact k1⟩
  let cf:Nat->Nat->Int:=fun x y=>(ord (el x) (el y)).getD 0
  have hcf:∀x y,ord (el x) (el y)=some (cf x y):=fun x y=>by
   obtain⟨z,hz⟩:=hord _ (hel x) _ (hel y)
   show _=some ((ord (el x) (el y)).getD 0)
   rw[hz];rfl
  have hlt:∀x y,ltOf cf x y=yV ord (el x) (el y):=fun x y=>by
   unfold ltOf yV
   rw[hcf x y]
  have hswo:SWO (ltOf cf):=⟨fun x=>by rw[hlt];exact hO.irr _ (hel x),fun x y z p q=>by rw[hlt]at *;exact hO.trans _ _ _ (hel x) (hel y) (hel z) p q,fun x y z p q=>by rw[hlt]at *;exact hO.ntrans _ _ _ (hel x) (hel y) (hel z) p q⟩
  have hlo:=h.on b _ (howb b rfl)
  have hge:E.w.heap.size<=b:=hlo.2.resolve_left (hE.nt rfl b)
  have hd0:(Array.range l.length).size=l.length:=by simp
  have hHold:HoldsK enc k w b 0 (Array.range l.length):=by
   intro j hj
   rw[size_flatK,hd0]at hj
   obtain⟨a1,a2,a3⟩:=hdm j hj
   refine⟨?_,frozen_of_row w b _ cur e hheap⟩
   rw[get_flatK _ _ _ _ (by rw[hd0];exact hj)]
   have e1:(Array.range l.length)[j / k]! =j / k:=by rw[getElem!_pos _ _ (by rw[hd0];exact a1)];simp
   rw[e1,hencg _ _ a2,hcl0 _ a1]
   have:=hcelli (j / k) (j % k) a1 a2
   rw[<-a3]at this
   exact this
  have hcmp:=C0 (k:=k) (N:=(Array.range l.length).size) h hE (K:=K) hΓg hge hrow hcc (fun x q hq=>(hfl x q hq).1) (enc:=enc) (el:=el) (fun x=>by rw[hencl,s.hc];exact hkk.symm) hvre hcf
  have happ2:l.length<4611686018427387904:=by unfold dT at happ;omega
  have hcall:=hS.2.1 enc cf fo b cap (Array.range l.length) w hencl hone hswo hof hcmp hHold hlo.1 (by rw[hd0];exact happ2)
  rw[hd0]at hcall
  have hcall2:Calls P fs #[.slice (some ⟨b,0,none⟩) (l.map c).length cap,.func (.func fo) #[] #[]] w fun e w'=>e=.returned (.tuple #[])/\∃d' n os,PermIn 0 l.length (Array.range l.length) d'/\SortedIn (ltOf cf) 0 l.length d'/\w'=sortWorldK enc k w b 0 n d' os:=by
   rw[hlen];exact hcall
  refine hcall2.mono fun q w' hr=>?_
  obtain⟨rfl,d',n',os,hperm,hsorted,rfl⟩:=hr
  have hd'0:d'.size=l.length:=hperm.1.trans hd0
  generalize hWe:sortWorldK enc k w b 0 n' d' os=W
  have hkeep:∀x,x<w.heap.size->x≠b->W.heap[x]? =w.heap[x]?:=fun x hx hxb=>by rw[<-hWe];exact wD hx hxb
  have hszW:w.heap.size<=W.heap.size:=by rw[<-hWe];exact wE
  have hrowW:W.heap[b]? =some (.cells (putCells id 0 (flatK enc k d') cur) e (0,0)):=by rw[<-hWe];exact Cs hheap
  have hholdW:HoldsK enc k W b 0 d':=by rw[<-hWe];exact holdsK_sortWorldK_c enc k w b 0 _ d' n' os hHold hlo.1 hperm.1
  have hcsW:(putCells id 0 (flatK enc k d') cur).size=cap * k:=by rw[<-hcs];simp[putCells]
  have hst1:W.os=w.os:=by rw[<-hWe];rfl
  have hst2:W.tape=w.tape:=by rw[<-hWe];rfl
  have hst3:W.output=w.output:=by rw[<-hWe];rfl
  have hst4:w.drawn<=W.drawn:=by rw[<-hWe];exact vb3 _ _
  have hnk:l.length * k<=cap * k:=vaK k (by rw[<-hlen];exact hcap)
  have hrd:d'.toList.map el=r:=by
   refine yM hs ?_ ?_
   ·have hp:=hperm.2.2
    have e1:d'.extract 0 l.length=d':=by rw[<-hd'0];exact vcH
    have e2:(Array.range l.length).extract 0 l.length=Array.range l.length:=by
     have:(Array.range l.length).extract 0 (Array.range l.length).size=Array.range l.length:=vcH
     rwa[hd0]at this
    rw[e1,e2]at hp
    have h3:(Array.range l.length).toList.map el=l:=by
     rw[Array.toList_range]
     refine vbd fun j=>?_
     by_cases hj:j<l.length
     ·rw[vax,vaX hj,vab hj]
      show some (l[cl j]'(hcl j))=some l[j]
      congr 1
      simp only[hcl0 j hj]
     ·rw[vaA (by simp;omega),vaA (by omega)]
    rw[<-h3]
    exact hp.map el
   ·unfold nc
    rw[List.pairwise_map,List.pairwise_iff_getElem]
    intro x y hx hy hxy
    have hx':x<d'.size:=by simpa using hx
    have hy':y<d'.size:=by simpa using hy
    have:=hsorted x y (vaJ _) hxy (by rw[<-hd'0];exact hy')
    rw[getElem!_pos d' x hx',getElem!_pos d' y hy',hlt]at this
    simpa using this
  have hrlen:(r.map c).length=(l.map c).length:=by rw[vbJ,vbJ,hrl]
  have hri:∀x,(hx:x<l.length)->(r.map c)[x]? =some (c (el d'[x]!)):=fun x hx=>by
   rw[<-hrd,List.map_map,vax]
   have hxd:x<d'.size:=by rw[hd'0];exact hx
   rw[va4,vaG hxd,getElem!_pos d' x hxd]
   rfl
  have hvrW:VR Γ bs W (sl c r) (.slice (some ⟨b,0,none⟩) (l.map c).length cap):=by
   unfold sl
   rw[<-hrlen]
   refine .slice _ b 0 cap (l.length * k) k (fun x j=>vals (cl d'[x]!) j) hkpos (by rw[hrlen];exact hcap) hΓg (by rw[hrlen,hlen];omega) (fun x y hx=>?_) (fun x y j p hx hp=>?_) (fun x y j p hx hp=>?_)
   ·have hxl:x<l.length:=by have:=ae hx;rw[hrlen,hlen]at this;exact this
    rw[hri x hxl]at hx;cases hx;rw[s.hc];exact hkk
   ·have hxl:x<l.length:=by have:=ae hx;rw[hrlen,hlen]at this;exact this
    rw[hri x hxl]at hx;cases hx
    have hjk:j<k:=by have:=ae hp;rw[s.hc,hkk]at this;exact this
    have:=(hholdW.cell (i:=x) (c:=j) (by rw[hd'0];exact hxl) hjk).1
    rw[hencg _ _ hjk]at this
    exact this
   ·have hxl:x<l.length:=by have:=ae hx;rw[hrlen,hlen]at this;exact this
    rw[hri x hxl]at hx;cases hx
    refine(hv (cl d'[x]!) _ j p (hget' _ (hcl _)) hp).off_row hΓg hrow (fun x m hx hm=>⟨hm,fun o=>aA (hkeep x (h.lt_of_ghost hm) hx) o⟩) (hfl _ p (vau hp)).1
  have hle:E.Γ.Le E.w Γ W:=fun x m hx hm0=>by
   obtain⟨m',k1,k2,k3⟩:=h.step.le x m hx hm0
   have hne:x≠b:=fun hxb=>by have:=hE.low x m hx;omega
   exact⟨m',k1,k2,fun o ho=>(aA (hkeep x (h.lt_of_ghost k1) hne) o).trans (k3 o ho)⟩
  have hne0:b0≠b:=fun hx=>by rw[hx,hΓg]at hg0;cases hg0
  refine⟨hdef _,_,⟨Γ,bs,ow,{
   wi:=fun x m hx=>by
    by_cases hxg:x=b
    ·subst hxg
     rw[hΓg]at hx;cases hx
     exact⟨_,_,_,hrowW,by rw[hcsW];exact hnk⟩
    ·obtain⟨c2,t2,fr,k1,k2⟩:=h.wi x m hx
     exact⟨c2,t2,fr,(hkeep x (h.lt_of_ghost hx) hxg).trans k1,k2⟩
   sz:=by rw[(hget _).2];simp[lV]
   tm:=htm _ hib
   bl:=by rw[h.bl];simp[lV]
   bx:=fun j b' B hb' hB=>by
    rcases BC hB with⟨rfl,rfl⟩|⟨hj,rfl⟩
    ·rw[hib]at hb';cases hb'
     refine⟨hg0,vaC hlt0 hszW,cc,tt,(hkeep b0 hlt0 hne0).trans hheap0,hlen0,fun jj p vv hp hvv=>?_⟩
     have hj0:jj=0:=by have:=ae hp;simp at this;exact this
     subst hj0
     simp at hp;subst hp
     rw[hcc0]at hvv;cases hvv
     exact hvrW
    ·have hold:(lV n t nb i (sl c l) e).boxes[j]? =some .dead:=by
      have hjn:j<nb:=by have:=ae hB;simpa[lV]using this
      unfold lV
      simp only
      rw[vao (fun e=>hj e.symm),vaS,vae hjn]
     obtain⟨k1,k2,_⟩:=h.bx j b' _ hb' hold
     exact⟨k1,vaC k2 hszW,trivial⟩
   inj:=h.inj
   bn:=h.bn
   on:=fun b' L hL=>⟨vaC (h.on b' L hL).1 hszW,(h.on b' L hL).2⟩
   ot:=fun t k e he=>by simp[lV]at he
   ob:=fun j jj e' cs own b' hB hj hb'=>by
    rcases BC hB with⟨rfl,hBB⟩|⟨_,hBB⟩
    ·cases hBB
     rw[hib]at hb';cases hb'
     have:jj=0/\e'=e:=by simpa using hj
     obtain⟨rfl,rfl⟩:=this
     refine⟨_,(aA (hkeep b0 hlt0 hne0) 0).trans hcell,⟨(l.map c).length,(putCells id 0 (flatK enc k d') cur).toList.take (l.length * k),⟨?_,.inr ⟨b,cap,_,rfl,vaJ _,hrowW,hcap,hcm,by rw[hcsW,hkk],by rw[hlen,hkk]⟩⟩,fun x hx=>?_⟩,howb⟩
     ·have hL:(putCells id 0 (flatK enc k d') cur).toList.length=cap * k:=by rw[<-hcsW];exact Array.length_toList
      rw[vbb,hL,hlen,hkk];omega
     ·simp[Value.ownBlock]at hx;subst hx;rw[hΓg,hlen,hkk]
    ·cases hBB
   gl:=fun g cs hg=>(hE.gl g cs (by rw[<-hE.ge];exact hg)).mono hle (fun i b hb=>by simp at hb)
   gc:=h.gc
   gx:=h.gx
   step:={
    os:=hst1.trans h.step.os
    tape:=hst2.trans h.step.tape
    output:=hst3.trans h.step.output
    size:=vaP h.step.size hszW
    drawn:=vaP h.step.drawn hst4
    keep:=fun x hx hT=>by
     obtain⟨k1,k2⟩:=h.step.keep x hx hT
     exact⟨(hkeep x (vaC hx h.step.size) (by omega)).trans k1,k2⟩
    le:=hle}},hk⟩,rfl,rfl⟩
theorem GS{T e:TypeId}{K:List Nat}{fs fo rid n t nb i d1 d2:Nat}{o1 o2:Oper}{tys:Array TypeId}{l r:List α}{cd:Code}{st0 st1:ak}(s:yS P T e c)(hS:Ba P fs (P.cellsOf e))(hsc:(P.underlying T).any qV=true)
  (hcc:∀x y r,ord x y=some r->CC P GE fo [.agg (c x),.agg (c y)] (.int .i64 r) []) (hof:∀vs w,(callFunc fo vs).run P w=.ok (.enter fo vs) w)
  (hfl:∀x,∀q∈c x,zu K q/\q.kd∈K/\q.kd≠0) (hcd:cd=.region rid #[o1,o2] false) (h1:o1.op=.load T (.tmp t)) (h1d:o1.dst=some d1) (h1g:o1.guard=none)
  (h2:o2.op=.call {callee:=.value (.func fs),args:=#[.tmp d1,.func fo],argTypes:=tys}) (h2d:o2.dst=some d2) (h2g:o2.guard=none)
  (hn:decide (t<n)&&(decide (d1<n)&&(decide (d2<n)&&(decide (t≠d1)&&(decide (t≠d2)&&decide (i<nb)))))=true) (h0:st0=lV n t nb i (sl c l) e) (h00:st1=lV n t nb i (sl c r) e) (hs:qW ord l=some r):
  aL P GE 0 cd (EX .normal st1) st0:=by
 simp only[vac,vaf]at hn
 obtain⟨a1,a2,a3,a4,a5,a6⟩:=hn
 subst hcd;subst h0;subst h00
 exact AZ s hS hsc hcc hof hfl h1 h1d h1g h2 h2d h2g ⟨a1,a2,a3,a4,a5⟩ a6 hs
end
section
variable{P:Program}{ρ:Ren}
theorem DO(L:SlLaysF0.n6 P ρ){fs e:Nat}(hf:ρ.f 6=fs)(he:ρ.t 24=e)(ha:(P.underlying e).any D0=true)(hi:(P.info? e).isSome=true)(hcall:∀vs w,(callFunc fs vs).run P w=.ok (.enter fs vs) w):Ba P fs (P.cellsOf e):=by
 subst hf;subst he
 obtain⟨i0,hi0⟩:=vaz.1 hi
 have hagg:∀w,(Go.isAgg (ρ.t 24)).run P w=.ok true w:=fun w=>by
  cases hd:P.underlying (ρ.t 24)with
  |none=>rw[hd]at ha;cases ha
  |some d=>
   rw[hd]at ha
   cases d<;>simp[D0]at ha<;>simp[Go.isAgg,run_underlying hd]
 refine⟨hcall,fun enc cf g blk cap d w hk h1 hO eg hcmp hH hb hs=>?_,fun p cap fv w=>AnyF.slices_SortFunc_none L p cap fv w⟩
 exact AnyQ.slices_SortFunc L (P.cellsOf (ρ.t 24)) hagg (fun w=>run_sizeOf w hi0) enc hk h1 cf hO g #[] blk 0 cap d w eg hcmp hH hb hs
end
open Go Go.Proofs.Tryd
set_option maxRecDepth 100000
theorem B4(x:aa):∀q∈ac x,zu [3,4] q/\q.kd∈[3,4]/\q.kd≠0:=by
 intro q hq
 rw[db]at hq
 simp only[vay,vb7,or_false]at hq
 rcases hq with rfl|rfl|rfl
 ·exact⟨trivial,by simp[PVal.kd],by simp[PVal.kd]⟩
 ·exact⟨trivial,by simp[PVal.kd],by simp[PVal.kd]⟩
 ·refine⟨fun e he q hq=>?_,by simp[PVal.kd,sl],by simp[PVal.kd,sl]⟩
  obtain⟨y,_,rfl⟩:=vas.1 he
  rw[qo]at hq
  simp only[vay,vb7,or_false]at hq
  rcases hq with rfl|rfl|rfl
  all_goals exact⟨by simp[PVal.kd],by simp[PVal.kd]⟩
theorem Ep:Ba Pg 38 (Pg.cellsOf 24):=DO Tryd.sf38 rfl rfl (by kernel_rfl) (by kernel_rfl) call38
theorem BS:lc Pg 37 43:=BT Tryd.lc37 rfl rfl (by kernel_rfl) call37
theorem Ar{l r:List ag}(h:ra l=some r):CC Pg GE 37 [sl am l] (sl am r) [(0,43)]:=gp.cloneCC BS h
def Bt(n:Int):Option ah:=if(decide (-9223372036854775808<=n)&&decide (n<=9223372036854775807))=true then some (Lib.itoa n)else none
theorem DD:fG=Lib.pow10Tab:=by kernel_rfl
theorem Bu{n:Int}{r:ah}(h:Bt n=some r):CC Pg GE 31 [.int .i64 n] (.str r) []:=by
 rcases bC h with⟨b,h⟩|⟨b,h⟩
 ·obtain rfl:=lf h
  simp only[vac,vaf]at b
  refine CC.grownIS call31 fun E Γ bs ow w a st hE hS=>?_
  have htab:Lib.TabIs Pg w "internal/strconv.uint64pow10" .u64 Lib.pow10Tab:=FC hS (g:=1) (by rw[hE,←DD];simp[GE]) (by kernel_rfl)
  refine(Any.strconv_Itoa Tryd.laysM171 n b.1 b.2 w htab).mono fun e w' he=>?_
  obtain⟨rfl,k,os,rfl⟩:=he
  exact⟨rfl,.of_grow _ _ _⟩
 ·cases h
noncomputable def b9:Code:=Tryd.f9.body.getD .skip
def A9:List Nat:=[]
section
variable(n:Int)(v:waA)(t8:Int)(t9:Int)
def iY:ak:=cJ 22 [(0,.int .i64 n),(1,sl ac v),(7,sl ac v),(8,.int .i64 t8),(9,.int .i64 t9)] [] []
def iZ(o:Unit⊕(Unit)):Exit:=match o with
 |(.inl _)=>.ret
 |(.inr _)=>.exit 0
def gT(o:Unit⊕(Unit)):ak:=match o with
 |(.inl o)=>cJ 22 [(4,.bool false)] [] []
 |(.inr o)=>cJ 22 [(0,.int .i64 n),(1,sl ac v)] [] []
def n9:Option (Int⊕(Unit⊕(Unit))):=
 if(decide (t9<t8))=true then
  (ep v t9).bind fun x2=>
  if(decide ((x2.Arcs.length:Int)>40))=true then
   some (.inr (.inl ()))
  else
   some (.inl (bU (t9+1)))
 else
  some (.inr (.inr ()))
def qZ:Option (Unit⊕(Unit)):=loop (fun(zz:Int)=>n9 v t8 zz) t9
theorem u7{y:Int⊕(Unit⊕(Unit))}(h:n9 v t8 t9=some y):aL Pg GE 0 (cA b9 55) (LQ (fun(zz:Int)=>iY n v t8 zz) iZ (gT n v) y) (iY n v t8 t9):=by
 rcases bC h with⟨c1,h⟩|⟨c1,h⟩
 ·obtain⟨x2,bx2,h⟩:=aC h
  have p4:=fun{sc F} (r:PS sc F)=>sg 0 c1<|sv (cQ.ia (k:=.i64) bx2)<|sv (aU x2)<|sx qB<|sx (dG x2)<|ss<|g8 (gp.ln x2.Arcs)<|r
  rcases bC h with⟨c3,h⟩|⟨c3,h⟩
  ·obtain rfl:=lf h
   have z:=p4<|sg 0 c3<|tc 0 (iZ (.inl ())) (gT n v (.inl ())) rfl (eR (aI trivial trivial)) trivial
   exact kp (A:=A9) mixed (by intro hx;cases hx) z<|by kernel_rfl
  ·obtain rfl:=lf h
   have z:=p4<|sg 0 c3<|tc 0 .normal (iY n v t8 (bU (t9+1))) rfl (eR (aI trivial (aI (up (aw af v)) (aI (up (aw af v)) (aI trivial (aI trivial trivial)))))) trivial
   exact iz (A:=A9) mixed z<|by kernel_rfl
 ·obtain rfl:=lf h
  have z:=sg 0 c1<|eF (iZ (.inr ())) (gT n v (.inr ()))
  exact ny A9 (by intro hx;cases hx) z<|by kernel_rfl
theorem qF{x:Unit⊕(Unit)}(h:qZ v t8 t9=some x):aL Pg GE 0 (.loop (cA b9 55)) (EX (iZ x) (gT n v x)) (iY n v t8 t9):=
 aL.loop (S:=fun(zz:Int)=>iY n v t8 zz) (ex:=iZ) (s:=t9) h fun zz y hy=>u7 n v t8 zz hy
end
def uG(n:Int)(a:waA):Option Bool:=
 (qZ a (a.length:Int) 0).bind fun o5=>match o5 with
 |(.inl o5)=>
  some false
 |(.inr o5)=>
  some (decide ((a.length:Int)<=n))
theorem u9{n:Int}{a:waA}{r:Bool}(h:uG n a=some r):CC Pg GE 9 [.int .i64 n,sl ac a] (.bool r) []:=by
 obtain⟨o5,bo5,h⟩:=aC h
 rcases o5 with o5|o5
 ·obtain rfl:=lf h
  have z:=g8 (cQ.ln a)<|gq (e:=.ret) (s1:=gT n a (.inl o5)) (qF n a (a.length:Int) 0 bo5)<|en (aI (rP (.bool false))<|trivial)
  exact cT A9 call9 func9 (c:=b9) rfl (aI trivial (aI (aw af a) trivial)) z<|by kernel_rfl
 ·obtain rfl:=lf h
  have z:=g8 (cQ.ln a)<|gq (e:=.exit 0) (s1:=gT n a (.inr o5)) (qF n a (a.length:Int) 0 bo5)<|g8 (cQ.ln a)<|en (aI (rP (.bool (decide ((a.length:Int)<=n))))<|trivial)
  exact cT A9 call9 func9 (c:=b9) rfl (aI trivial (aI (aw af a) trivial)) z<|by kernel_rfl
noncomputable def He:Code:=f33.body.getD .skip
def G6:List Nat:=[20]
section
variable(t13:(List kl))(t14:Int)(m:waB)(m2:ah)(m3:ah)(t15:Int)(m4:waB)
def gz:ak:=cJ 34 [(6,.bptr 0 0),(7,.bptr 1 0),(13,sl jd t13),(14,.int .i64 t14),(15,.int .i64 t15)] [.cells [.str ([]:ah),.str ([]:ah),sl am m] [(2,43)],.cells [.str m2,.str m3,sl am m4] [(2,43)]] []
def ly(o:waB):ak:=cJ 34 [(6,.bptr 0 0),(7,.bptr 1 0)] [.cells [.str ([]:ah),.str ([]:ah),sl am m] [(2,43)],.cells [.str m2,.str m3,sl am o] [(2,43)]] []
def pD:Option ((Int×waB)⊕(waB)):=
 if(decide (t15<t14))=true then
  (ep t13 t15).bind fun x2=>
  (pl 3 0).bind fun i3=>
  (pl 3 1).bind fun i4=>
  (pl 3 2).bind fun i5=>
  (app m4 ([(⟨x2 (0+i3 * 1),x2 (0+i4 * 1),(x2 (0+i5 * 1))==1⟩:ag)]:List ag)).bind fun l6=>
  some (.inl (bU (t15+1),l6))
 else
  some (.inr m4)
def rK:Option waB:=loop (fun(zz:Int×waB)=>pD t13 t14 zz.1 zz.2) (t15,m4)
theorem s4{y:(Int×waB)⊕(waB)}(h:pD t13 t14 t15 m4=some y):aL Pg GE 0 (cA He 119) (LQ (fun(zz:Int×waB)=>gz t13 t14 m m2 m3 zz.1 zz.2) (fun _=>.exit 0) (ly m m2 m3) y) (gz t13 t14 m m2 m3 t15 m4):=by
 rcases bC h with⟨c1,h⟩|⟨c1,h⟩
 ·obtain⟨x2,bx2,h⟩:=aC h
  obtain⟨i3,bi3,h⟩:=aC h
  obtain⟨i4,bi4,h⟩:=aC h
  obtain⟨i5,bi5,h⟩:=aC h
  obtain⟨l6,bl6,h⟩:=aC h
  obtain rfl:=lf h
  have z:=sg 0 c1<|sv (yI.ia (k:=.i64) bx2)<|sv (Ed x2)<|sx Hr<|sx (ke x2)<|sv (E0 (b:=2) (off:=0) (k:=.i64) bi3)<|sv (E1 (x:=x2) (Hm bi3))<|sv (E0 (b:=2) (off:=0) (k:=.i64) bi4)<|sv (E1 (x:=x2) (Hm bi4))<|sv (E0 (b:=2) (off:=0) (k:=.i64) bi5)<|sv (E1 (x:=x2) (Hm bi5))<|sv (qJ (x2 (0+i3 * 1)) (x2 (0+i4 * 1)) ((x2 (0+i5 * 1))==1))<|sv (gp.mk' (v:=A0) zN ([(⟨x2 (0+i3 * 1),x2 (0+i4 * 1),(x2 (0+i5 * 1))==1⟩:ag)]:List ag) 1 (by kernel_rfl))<|sv (gp.ap bl6)<|tc 0 .normal (gz t13 t14 m m2 m3 (bU (t15+1)) l6) rfl (eR (aI (mr rfl) (aI (mr rfl) (aI (up (aw xW t13)) (aI trivial (aI trivial trivial)))))) (aI (aI trivial (aI trivial (aI (up (aw aM m)) trivial))) (aI (aI trivial (aI trivial (aI (up (aw aM l6)) trivial))) trivial))
  exact iz (A:=G6) mixed z<|by kernel_rfl
 ·obtain rfl:=lf h
  have z:=sg 0 c1<|eF (.exit 0) (ly m m2 m3 m4)
  exact ny G6 (by intro hx;cases hx) z<|by kernel_rfl
theorem uv{x:waB}(h:rK t13 t14 t15 m4=some x):aL Pg GE 0 (.loop (cA He 119)) (EX (.exit 0) (ly m m2 m3 x)) (gz t13 t14 m m2 m3 t15 m4):=
 aL.loop (S:=fun(zz:Int×waB)=>gz t13 t14 m m2 m3 zz.1 zz.2) (ex:=(fun _=>.exit 0)) (s:=(t15,m4)) h fun zz y hy=>s4 t13 t14 m m2 m3 zz.1 zz.2 hy
end
def iF(a:ah)(to:ah)(arcs:(List kl)):Option aa:=
 (rK arcs (arcs.length:Int) 0 ([]:List ag)).bind fun o7=>
 some (⟨a,to,o7⟩:aa)
theorem fw{a:ah}{to:ah}{arcs:(List kl)}{r:aa}(h:iF a to arcs=some r):CC Pg GE 33 [.str a,.str to,sl jd arcs] (.agg (ac r)) [(2,43)]:=by
 obtain⟨o7,bo7,h⟩:=aC h
 obtain rfl:=lf h
 have z:=sx qB<|sb (qK a to) (qH a to)<|sx qB<|sy (db (⟨a,to,([]:List ag)⟩:aa))<|g8 (yI.ln arcs)<|gq (uv arcs (arcs.length:Int) ([]:List ag) a to 0 ([]:List ag) bo7)<|sz (bD (⟨a,to,o7⟩:aa) [])<|sy (db (⟨a,to,o7⟩:aa))<|en (aI (jH (⟨a,to,o7⟩:aa))<|aI (af (⟨a,to,o7⟩:aa))<|rT)
 exact cT G6 call33 func33 (c:=He) rfl (aI trivial (aI trivial (aI (aw xW arcs) trivial))) z<|by kernel_rfl
noncomputable def GX:Code:=f44.body.getD .skip
def F1:List Nat:=[23]
section
variable(s:ah)(i:Int)
def gF:ak:=cJ 24 [(0,.str s),(5,.int .i64 i)] [] []
def gH(o:(ah×ah)⊕(Unit)):Exit:=match o with
 |(.inl _)=>.ret
 |(.inr _)=>.exit 0
def e7(o:(ah×ah)⊕(Unit)):ak:=match o with
 |(.inl o)=>cJ 24 [(2,.str o.1),(3,.str o.2),(4,.bool true)] [] []
 |(.inr o)=>cJ 24 [(0,.str s)] [] []
def gG:Option (Int⊕((ah×ah)⊕(Unit))):=
 if(decide (i<(s.length:Int)))=true then
  (g5 s i).bind fun c2=>
  if(c2==46)=true then
   (Aa s none (some i)).bind fun s5=>
   (Aa s (some (bU (i+1))) none).bind fun s6=>
   some (.inr (.inl (s5,s6)))
  else
   some (.inl (bU (i+1)))
 else
  some (.inr (.inr ()))
def oA:Option ((ah×ah)⊕(Unit)):=loop (fun(zz:Int)=>gG s zz) i
theorem tv{y:Int⊕((ah×ah)⊕(Unit))}(h:gG s i=some y):aL Pg GE 0 (cA GX 55) (LQ (fun(zz:Int)=>gF s zz) gH (e7 s) y) (gF s i):=by
 rcases bC h with⟨c1,h⟩|⟨c1,h⟩
 ·obtain⟨c2,bc2,h⟩:=aC h
  have p4:=fun{sc F} (r:PS sc F)=>g8 (nL underlying9 s)<|sg 0 c1<|sv (oV (k:=.i64) underlying9 bc2)<|r
  rcases bC h with⟨c3,h⟩|⟨c3,h⟩
  ·obtain⟨s5,bs5,h⟩:=aC h
   obtain⟨s6,bs6,h⟩:=aC h
   obtain rfl:=lf h
   have z:=p4<|sg 0 c3<|Aj [0,0,3,0,0,16,56,7,255,511]<|sv (EJ underlying9 bs5)<|sv (EJ underlying9 bs6)<|eF (gH (.inl (s5,s6))) (e7 s (.inl (s5,s6)))
   exact ny F1 (by intro hx;cases hx) z<|by kernel_rfl
  ·obtain rfl:=lf h
   exact yl F1 (p4<|sg 0 c3<|eF .normal (gF s (bU (i+1))))<|by kernel_rfl
 ·obtain rfl:=lf h
  have z:=g8 (nL underlying9 s)<|sg 0 c1<|eF (gH (.inr ())) (e7 s (.inr ()))
  exact ny F1 (by intro hx;cases hx) z<|by kernel_rfl
theorem oS{x:(ah×ah)⊕(Unit)}(h:oA s i=some x):aL Pg GE 0 (.loop (cA GX 55)) (EX (gH x) (e7 s x)) (gF s i):=
 aL.loop (S:=fun(zz:Int)=>gF s zz) (ex:=gH) (s:=i) h fun zz y hy=>tv s zz hy
end
def nv(s:ah):Option (ah×ah×Bool):=
 (oA s 0).bind fun o7=>match o7 with
 |(.inl o7)=>
  some (o7.1,o7.2,true)
 |(.inr o7)=>
  some (s,([]:ah),false)
theorem sB{s:ah}{r:ah×ah×Bool}(h:nv s=some r):CC Pg GE 44 [.str s] (.tuple [.str r.1,.str r.2.1,.bool r.2.2]) []:=by
 obtain⟨o7,bo7,h⟩:=aC h
 rcases o7 with o7|o7
 ·obtain rfl:=lf h
  have z:=gq (e:=.ret) (s1:=e7 s (.inl o7)) (oS s 0 bo7)<|en (aI (rP (.tuple [.str o7.1,.str o7.2,.bool true]))<|(aI trivial (aI trivial (aI trivial trivial))))
  exact cT F1 call44 func44 (c:=GX) rfl (aI trivial trivial) z<|by kernel_rfl
 ·obtain rfl:=lf h
  have z:=gq (e:=.exit 0) (s1:=e7 s (.inr o7)) (oS s 0 bo7)<|en (aI (rP (.tuple [.str s,.str ([]:ah),.bool false]))<|(aI trivial (aI trivial (aI trivial trivial))))
  exact cT F1 call44 func44 (c:=GX) rfl (aI trivial trivial) z<|by kernel_rfl
noncomputable def HK:Code:=f47.body.getD .skip
def HA:List Nat:=[]
def iK(s:ah):Option Bool:=
 if(decide ((s.length:Int)>=1))=true then
  some (decide ((s.length:Int)<=24))
 else
  some false
theorem e8{s:ah}{r:Bool}(h:iK s=some r):CC Pg GE 47 [.str s] (.bool r) []:=by
 rcases bC h with⟨c1,h⟩|⟨c1,h⟩
 ·obtain rfl:=lf h
  have z:=g8 (nL underlying9 s)<|sg 4 c1<|g8 (nL underlying9 s)<|en (aI (rP (.bool (decide ((s.length:Int)<=24))))<|trivial)
  exact cT HA call47 func47 (c:=HK) rfl (aI trivial trivial) z<|by kernel_rfl
 ·obtain rfl:=lf h
  have z:=g8 (nL underlying9 s)<|sg 4 c1<|en (aI (rP (.bool false))<|trivial)
  exact cT HA call47 func47 (c:=HK) rfl (aI trivial trivial) z<|by kernel_rfl
noncomputable def HM:Code:=f66.body.getD .skip
def HC:List Nat:=[]
def gI(c:Int):Option Bool:=
 if(decide (97<=c))=true then
  some (decide (c<=122))
 else
  some false
theorem jo{c:Int}{r:Bool}(h:gI c=some r):CC Pg GE 66 [.int .u8 c] (.bool r) []:=by
 rcases bC h with⟨c1,h⟩|⟨c1,h⟩
 ·obtain rfl:=lf h
  have z:=sg 3 c1<|en (aI (rP (.bool (decide (c<=122))))<|trivial)
  exact cT HC call66 func66 (c:=HM) rfl (aI trivial trivial) z<|by kernel_rfl
 ·obtain rfl:=lf h
  have z:=sg 3 c1<|en (aI (rP (.bool false))<|trivial)
  exact cT HC call66 func66 (c:=HM) rfl (aI trivial trivial) z<|by kernel_rfl
noncomputable def G0:Code:=f67.body.getD .skip
def F4:List Nat:=[]
section
variable(s:ah)(t6:Int)
def dW:ak:=cJ 13 [(0,.str s),(5,.agg (aV.map PVal.str)),(6,.int .i64 t6)] [] []
def dY(o:Unit⊕(Unit)):Exit:=match o with
 |(.inl _)=>.ret
 |(.inr _)=>.exit 0
def de(o:Unit⊕(Unit)):ak:=match o with
 |(.inl o)=>cJ 13 [(2,.bool true)] [] []
 |(.inr o)=>cJ 13 [] [] []
def dX:Option (Int⊕(Unit⊕(Unit))):=
 if(decide (t6<42))=true then
  (ep aV t6).bind fun x2=>
  if(x2==s)=true then
   some (.inr (.inl ()))
  else
   some (.inl (bU (t6+1)))
 else
  some (.inr (.inr ()))
def jG:Option (Unit⊕(Unit)):=loop (fun(zz:Int)=>dX s zz) t6
theorem pQ{y:Int⊕(Unit⊕(Unit))}(h:dX s t6=some y):aL Pg GE 0 (cA G0 55) (LQ (fun(zz:Int)=>dW s zz) dY de y) (dW s t6):=by
 rcases bC h with⟨c1,h⟩|⟨c1,h⟩
 ·obtain⟨x2,bx2,h⟩:=aC h
  have p4:=fun{sc F} (r:PS sc F)=>sg 0 c1<|sv (sC (k:=.i64) bx2)<|r
  rcases bC h with⟨c3,h⟩|⟨c3,h⟩
  ·obtain rfl:=lf h
   have z:=p4<|sg 0 c3<|eF (dY (.inl ())) (de (.inl ()))
   exact ny F4 (by intro hx;cases hx) z<|by kernel_rfl
  ·obtain rfl:=lf h
   exact yl F4 (p4<|sg 0 c3<|eF .normal (dW s (bU (t6+1))))<|by kernel_rfl
 ·obtain rfl:=lf h
  have z:=sg 0 c1<|eF (dY (.inr ())) (de (.inr ()))
  exact ny F4 (by intro hx;cases hx) z<|by kernel_rfl
theorem ky{x:Unit⊕(Unit)}(h:jG s t6=some x):aL Pg GE 0 (.loop (cA G0 55)) (EX (dY x) (de x)) (dW s t6):=
 aL.loop (S:=fun(zz:Int)=>dW s zz) (ex:=dY) (s:=t6) h fun zz y hy=>pQ s zz hy
end
def jU(s:ah):Option Bool:=
 (jG s 0).bind fun o5=>match o5 with
 |(.inl o5)=>
  some true
 |(.inr o5)=>
  some false
theorem tu{s:ah}{r:Bool}(h:jU s=some r):CC Pg GE 67 [.str s] (.bool r) []:=by
 obtain⟨o5,bo5,h⟩:=aC h
 rcases o5 with o5|o5
 ·obtain rfl:=lf h
  have z:=sv ms<|gq (e:=.ret) (s1:=de (.inl o5)) (ky s 0 bo5)<|en (aI (rP (.bool true))<|trivial)
  exact cT F4 call67 func67 (c:=G0) rfl (aI trivial trivial) z<|by kernel_rfl
 ·obtain rfl:=lf h
  have z:=sv ms<|gq (e:=.exit 0) (s1:=de (.inr o5)) (ky s 0 bo5)<|en (aI (rP (.bool false))<|trivial)
  exact cT F4 call67 func67 (c:=G0) rfl (aI trivial trivial) z<|by kernel_rfl
noncomputable def HN:Code:=f68.body.getD .skip
def HD:List Nat:=[]
def iJ(c:Int):Option Bool:=
 if(decide (48<=c))=true then
  some (decide (c<=57))
 else
  some false
theorem lF{c:Int}{r:Bool}(h:iJ c=some r):CC Pg GE 68 [.int .u8 c] (.bool r) []:=by
 rcases bC h with⟨c1,h⟩|⟨c1,h⟩
 ·obtain rfl:=lf h
  have z:=sg 3 c1<|en (aI (rP (.bool (decide (c<=57))))<|trivial)
  exact cT HD call68 func68 (c:=HN) rfl (aI trivial trivial) z<|by kernel_rfl
 ·obtain rfl:=lf h
  have z:=sg 3 c1<|en (aI (rP (.bool false))<|trivial)
  exact cT HD call68 func68 (c:=HN) rfl (aI trivial trivial) z<|by kernel_rfl
noncomputable def E3:Code:=f45.body.getD .skip
def Cy:List Nat:=[]
section
variable(s:ah)
def uA:ak:=cJ 41 [(0,.str s)] [] []
def iq(o:Bool):ak:=cJ 41 [(0,.str s),(16,.bool o)] [] []
def jV:Option Bool:=
 (iK s).bind fun r1=>
 if(!r1)=true then
  some true
 else
  (g5 s 0).bind fun c3=>
  (gI c3).bind fun r4=>
  if(!r4)=true then
   some true
  else
   (jU s).bind fun r7=>
   some r7
theorem tx{x:Bool}(h:jV s=some x):aL Pg GE 0 (cA E3 12) (EX .normal (iq s x)) (uA s):=by
 obtain⟨r1,br1,h⟩:=aC h
 rcases bC h with⟨c2,h⟩|⟨c2,h⟩
 ·obtain rfl:=lf h
  exact kj Cy (eb (e8 br1)<|sg 4 c2<|eF .normal (iq s true))<|by kernel_rfl
 ·obtain⟨c3,bc3,h⟩:=aC h
  obtain⟨r4,br4,h⟩:=aC h
  have p6:=fun{sc F} (r:PS sc F)=>eb (e8 br1)<|sg 4 c2<|sv (oV (k:=.i64) underlying9 bc3)<|eb (jo br4)<|r
  rcases bC h with⟨c5,h⟩|⟨c5,h⟩
  ·obtain rfl:=lf h
   exact kj Cy (p6<|sg 10 c5<|eF .normal (iq s true))<|by kernel_rfl
  ·obtain⟨r7,br7,h⟩:=aC h
   obtain rfl:=lf h
   exact kj Cy (p6<|sg 10 c5<|eb (tu br7)<|eF .normal (iq s r7))<|by kernel_rfl
end
section
variable(s:ah)(i:Int)
def uB:ak:=cJ 41 [(0,.str s),(3,.int .i64 i)] [] []
def ir(o:Bool):ak:=cJ 41 [(0,.str s),(3,.int .i64 i),(40,.bool o)] [] []
def jW:Option Bool:=
 (g5 s i).bind fun c12=>
 (gI c12).bind fun r13=>
 if(!r13)=true then
  (g5 s i).bind fun c16=>
  (iJ c16).bind fun r17=>
  if(!r17)=true then
   (g5 s i).bind fun c20=>
   some (c20 !=95)
  else
   some false
 else
  some false
theorem tA{x:Bool}(h:jW s i=some x):aL Pg GE 0 (cA E3 1914) (EX .normal (ir s i x)) (uB s i):=by
 obtain⟨c12,bc12,h⟩:=aC h
 obtain⟨r13,br13,h⟩:=aC h
 have p15:=fun{sc F} (r:PS sc F)=>sv (oV (k:=.i64) underlying9 bc12)<|eb (jo br13)<|r
 rcases bC h with⟨c14,h⟩|⟨c14,h⟩
 ·obtain⟨c16,bc16,h⟩:=aC h
  obtain⟨r17,br17,h⟩:=aC h
  have p19:=fun{sc F} (r:PS sc F)=>p15<|sg 6 c14<|sv (oV (k:=.i64) underlying9 bc16)<|eb (lF br17)<|r
  rcases bC h with⟨c18,h⟩|⟨c18,h⟩
  ·obtain⟨c20,bc20,h⟩:=aC h
   obtain rfl:=lf h
   exact kj Cy (p19<|sg 13 c18<|sv (oV (k:=.i64) underlying9 bc20)<|eF .normal (ir s i (c20 !=95)))<|by kernel_rfl
  ·obtain rfl:=lf h
   exact kj Cy (p19<|sg 13 c18<|eF .normal (ir s i false))<|by kernel_rfl
 ·obtain rfl:=lf h
  exact kj Cy (p15<|sg 6 c14<|eF .normal (ir s i false))<|by kernel_rfl
end
section
variable(s:ah)(i:Int)
def fK:ak:=cJ 41 [(0,.str s),(3,.int .i64 i)] [] []
def fL(o:Unit⊕(Unit)):Exit:=match o with
 |(.inl _)=>.ret
 |(.inr _)=>.exit 0
def eD(o:Unit⊕(Unit)):ak:=match o with
 |(.inl o)=>cJ 41 [(2,.bool false)] [] []
 |(.inr o)=>cJ 41 [] [] []
def it:Option (Int⊕(Unit⊕(Unit))):=
 if(decide (i<(s.length:Int)))=true then
  (jW s i).bind fun o21=>
  if o21=true then
   some (.inr (.inl ()))
  else
   some (.inl (bU (i+1)))
 else
  some (.inr (.inr ()))
def jX:Option (Unit⊕(Unit)):=loop (fun(zz:Int)=>it s zz) i
theorem sD{y:Int⊕(Unit⊕(Unit))}(h:it s i=some y):aL Pg GE 0 (cA E3 119) (LQ (fun(zz:Int)=>fK s zz) fL eD y) (fK s i):=by
 rcases bC h with⟨c11,h⟩|⟨c11,h⟩
 ·obtain⟨o21,bo21,h⟩:=aC h
  have p23:=fun{sc F} (r:PS sc F)=>g8 (nL underlying9 s)<|sg 0 c11<|wJ 1<|gq (tA s i bo21)<|r
  rcases bC h with⟨c22,h⟩|⟨c22,h⟩
  ·obtain rfl:=lf h
   have z:=p23<|sg 0 c22<|eF (fL (.inl ())) (eD (.inl ()))
   exact ny Cy (by intro hx;cases hx) z<|by kernel_rfl
  ·obtain rfl:=lf h
   exact yl Cy (p23<|sg 0 c22<|eF .normal (fK s (bU (i+1))))<|by kernel_rfl
 ·obtain rfl:=lf h
  have z:=g8 (nL underlying9 s)<|sg 0 c11<|eF (fL (.inr ())) (eD (.inr ()))
  exact ny Cy (by intro hx;cases hx) z<|by kernel_rfl
theorem nw{x:Unit⊕(Unit)}(h:jX s i=some x):aL Pg GE 0 (.loop (cA E3 119)) (EX (fL x) (eD x)) (fK s i):=
 aL.loop (S:=fun(zz:Int)=>fK s zz) (ex:=fL) (s:=i) h fun zz y hy=>sD s zz hy
end
def oB(s:ah):Option Bool:=
 (jV s).bind fun o8=>
 if o8=true then
  some false
 else
  (jX s 1).bind fun o24=>match o24 with
  |(.inl o24)=>
   some false
  |(.inr o24)=>
   some true
theorem qT{s:ah}{r:Bool}(h:oB s=some r):CC Pg GE 45 [.str s] (.bool r) []:=by
 obtain⟨o8,bo8,h⟩:=aC h
 have p10:=fun{sc F} (r:PS sc F)=>wJ 2<|gq (tx s bo8)<|r
 rcases bC h with⟨c9,h⟩|⟨c9,h⟩
 ·obtain rfl:=lf h
  have z:=p10<|sg 0 c9<|en (aI (rP (.bool false))<|trivial)
  exact cT Cy call45 func45 (c:=E3) rfl (aI trivial trivial) z<|by kernel_rfl
 ·obtain⟨o24,bo24,h⟩:=aC h
  rcases o24 with o24|o24
  ·obtain rfl:=lf h
   have z:=p10<|sg 0 c9<|gq (e:=.ret) (s1:=eD (.inl o24)) (nw s 1 bo24)<|en (aI (rP (.bool false))<|trivial)
   exact cT Cy call45 func45 (c:=E3) rfl (aI trivial trivial) z<|by kernel_rfl
  ·obtain rfl:=lf h
   have z:=p10<|sg 0 c9<|gq (e:=.exit 0) (s1:=eD (.inr o24)) (nw s 1 bo24)<|en (aI (rP (.bool true))<|trivial)
   exact cT Cy call45 func45 (c:=E3) rfl (aI trivial trivial) z<|by kernel_rfl
noncomputable def HO:Code:=f69.body.getD .skip
def HE:List Nat:=[]
def ij(c:Int):Option Bool:=
 if(decide (65<=c))=true then
  some (decide (c<=90))
 else
  some false
theorem nu{c:Int}{r:Bool}(h:ij c=some r):CC Pg GE 69 [.int .u8 c] (.bool r) []:=by
 rcases bC h with⟨c1,h⟩|⟨c1,h⟩
 ·obtain rfl:=lf h
  have z:=sg 3 c1<|en (aI (rP (.bool (decide (c<=90))))<|trivial)
  exact cT HE call69 func69 (c:=HO) rfl (aI trivial trivial) z<|by kernel_rfl
 ·obtain rfl:=lf h
  have z:=sg 3 c1<|en (aI (rP (.bool false))<|trivial)
  exact cT HE call69 func69 (c:=HO) rfl (aI trivial trivial) z<|by kernel_rfl
noncomputable def Gp:Code:=f48.body.getD .skip
def Ew:List Nat:=[]
section
variable(s:ah)(i:Int)
def nq:ak:=cJ 29 [(0,.str s),(3,.int .i64 i)] [] []
def dz(o:Bool):ak:=cJ 29 [(0,.str s),(3,.int .i64 i),(28,.bool o)] [] []
def ea:Option Bool:=
 (g5 s i).bind fun c2=>
 (gI c2).bind fun r3=>
 if(!r3)=true then
  (g5 s i).bind fun c6=>
  (ij c6).bind fun r7=>
  if(!r7)=true then
   (g5 s i).bind fun c10=>
   (iJ c10).bind fun r11=>
   some (!r11)
  else
   some false
 else
  some false
theorem mL{x:Bool}(h:ea s i=some x):aL Pg GE 0 (cA Gp 890) (EX .normal (dz s i x)) (nq s i):=by
 obtain⟨c2,bc2,h⟩:=aC h
 obtain⟨r3,br3,h⟩:=aC h
 have p5:=fun{sc F} (r:PS sc F)=>sv (oV (k:=.i64) underlying9 bc2)<|eb (jo br3)<|r
 rcases bC h with⟨c4,h⟩|⟨c4,h⟩
 ·obtain⟨c6,bc6,h⟩:=aC h
  obtain⟨r7,br7,h⟩:=aC h
  have p9:=fun{sc F} (r:PS sc F)=>p5<|sg 6 c4<|sv (oV (k:=.i64) underlying9 bc6)<|eb (nu br7)<|r
  rcases bC h with⟨c8,h⟩|⟨c8,h⟩
  ·obtain⟨c10,bc10,h⟩:=aC h
   obtain⟨r11,br11,h⟩:=aC h
   obtain rfl:=lf h
   exact kj Ew (p9<|sg 13 c8<|sv (oV (k:=.i64) underlying9 bc10)<|eb (lF br11)<|eF .normal (dz s i (!r11)))<|by kernel_rfl
  ·obtain rfl:=lf h
   exact kj Ew (p9<|sg 13 c8<|eF .normal (dz s i false))<|by kernel_rfl
 ·obtain rfl:=lf h
  exact kj Ew (p5<|sg 6 c4<|eF .normal (dz s i false))<|by kernel_rfl
end
section
variable(s:ah)(i:Int)
def co:ak:=cJ 29 [(0,.str s),(3,.int .i64 i)] [] []
def cq(o:Unit⊕(Unit)):Exit:=match o with
 |(.inl _)=>.ret
 |(.inr _)=>.exit 0
def bu(o:Unit⊕(Unit)):ak:=match o with
 |(.inl o)=>cJ 29 [(2,.bool false)] [] []
 |(.inr o)=>cJ 29 [] [] []
def cp:Option (Int⊕(Unit⊕(Unit))):=
 if(decide (i<(s.length:Int)))=true then
  (ea s i).bind fun o12=>
  if o12=true then
   some (.inr (.inl ()))
  else
   some (.inl (bU (i+1)))
 else
  some (.inr (.inr ()))
def fW:Option (Unit⊕(Unit)):=loop (fun(zz:Int)=>cp s zz) i
theorem lU{y:Int⊕(Unit⊕(Unit))}(h:cp s i=some y):aL Pg GE 0 (cA Gp 55) (LQ (fun(zz:Int)=>co s zz) cq bu y) (co s i):=by
 rcases bC h with⟨c1,h⟩|⟨c1,h⟩
 ·obtain⟨o12,bo12,h⟩:=aC h
  have p14:=fun{sc F} (r:PS sc F)=>g8 (nL underlying9 s)<|sg 0 c1<|wJ 1<|gq (mL s i bo12)<|r
  rcases bC h with⟨c13,h⟩|⟨c13,h⟩
  ·obtain rfl:=lf h
   have z:=p14<|sg 0 c13<|eF (cq (.inl ())) (bu (.inl ()))
   exact ny Ew (by intro hx;cases hx) z<|by kernel_rfl
  ·obtain rfl:=lf h
   exact yl Ew (p14<|sg 0 c13<|eF .normal (co s (bU (i+1))))<|by kernel_rfl
 ·obtain rfl:=lf h
  have z:=g8 (nL underlying9 s)<|sg 0 c1<|eF (cq (.inr ())) (bu (.inr ()))
  exact ny Ew (by intro hx;cases hx) z<|by kernel_rfl
theorem ii{x:Unit⊕(Unit)}(h:fW s i=some x):aL Pg GE 0 (.loop (cA Gp 55)) (EX (cq x) (bu x)) (co s i):=
 aL.loop (S:=fun(zz:Int)=>co s zz) (ex:=cq) (s:=i) h fun zz y hy=>lU s zz hy
end
def dZ(s:ah):Option Bool:=
 (fW s 0).bind fun o15=>match o15 with
 |(.inl o15)=>
  some false
 |(.inr o15)=>
  some true
theorem jA{s:ah}{r:Bool}(h:dZ s=some r):CC Pg GE 48 [.str s] (.bool r) []:=by
 obtain⟨o15,bo15,h⟩:=aC h
 rcases o15 with o15|o15
 ·obtain rfl:=lf h
  have z:=gq (e:=.ret) (s1:=bu (.inl o15)) (ii s 0 bo15)<|en (aI (rP (.bool false))<|trivial)
  exact cT Ew call48 func48 (c:=Gp) rfl (aI trivial trivial) z<|by kernel_rfl
 ·obtain rfl:=lf h
  have z:=gq (e:=.exit 0) (s1:=bu (.inr o15)) (ii s 0 bo15)<|en (aI (rP (.bool true))<|trivial)
  exact cT Ew call48 func48 (c:=Gp) rfl (aI trivial trivial) z<|by kernel_rfl
noncomputable def FT:Code:=f46.body.getD .skip
def Ev:List Nat:=[]
section
variable(s:ah)
def tC:ak:=cJ 31 [(0,.str s)] [] []
def gW(o:Bool):ak:=cJ 31 [(0,.str s),(16,.bool o)] [] []
def jp:Option Bool:=
 (iK s).bind fun r1=>
 if(!r1)=true then
  some true
 else
  (g5 s 0).bind fun c3=>
  (ij c3).bind fun r4=>
  if(!r4)=true then
   some true
  else
   (dZ s).bind fun r7=>
   some (!r7)
theorem sF{x:Bool}(h:jp s=some x):aL Pg GE 0 (cA FT 12) (EX .normal (gW s x)) (tC s):=by
 obtain⟨r1,br1,h⟩:=aC h
 rcases bC h with⟨c2,h⟩|⟨c2,h⟩
 ·obtain rfl:=lf h
  exact kj Ev (eb (e8 br1)<|sg 4 c2<|eF .normal (gW s true))<|by kernel_rfl
 ·obtain⟨c3,bc3,h⟩:=aC h
  obtain⟨r4,br4,h⟩:=aC h
  have p6:=fun{sc F} (r:PS sc F)=>eb (e8 br1)<|sg 4 c2<|sv (oV (k:=.i64) underlying9 bc3)<|eb (nu br4)<|r
  rcases bC h with⟨c5,h⟩|⟨c5,h⟩
  ·obtain rfl:=lf h
   exact kj Ev (p6<|sg 10 c5<|eF .normal (gW s true))<|by kernel_rfl
  ·obtain⟨r7,br7,h⟩:=aC h
   obtain rfl:=lf h
   exact kj Ev (p6<|sg 10 c5<|eb (jA br7)<|eF .normal (gW s (!r7)))<|by kernel_rfl
end
def mt(s:ah):Option Bool:=
 (jp s).bind fun o8=>
 if o8=true then
  some false
 else
  if (!(s == ([73,110,116]:ah))) = true then
   if(!(s==([66,111,111,108]:ah)))=true then
    if(!(s==([67,101,108,108]:ah)))=true then
     some (!(s==([70,117,110]:ah)))
    else
     some false
   else
    some false
  else
   some false
theorem v8{s:ah}{r:Bool}(h:mt s=some r):CC Pg GE 46 [.str s] (.bool r) []:=by
 obtain⟨o8,bo8,h⟩:=aC h
 have p10:=fun{sc F} (r:PS sc F)=>wJ 2<|gq (sF s bo8)<|r
 rcases bC h with⟨c9,h⟩|⟨c9,h⟩
 ·obtain rfl:=lf h
  have z:=p10<|sg 0 c9<|en (aI (rP (.bool false))<|trivial)
  exact cT Ev call46 func46 (c:=FT) rfl (aI trivial trivial) z<|by kernel_rfl
 ·have p12:=fun{sc F} (r:PS sc F)=>p10<|sg 0 c9<|r
  rcases bC h with⟨c11,h⟩|⟨c11,h⟩
  ·have p14:=fun{sc F} (r:PS sc F)=>p12<|sg 3 c11<|r
   rcases bC h with⟨c13,h⟩|⟨c13,h⟩
   ·have p16:=fun{sc F} (r:PS sc F)=>p14<|sg 7 c13<|r
    rcases bC h with⟨c15,h⟩|⟨c15,h⟩
    ·obtain rfl:=lf h
     have z:=p16<|sg 11 c15<|en (aI (rP (.bool (!(s==([70,117,110]:ah)))))<|trivial)
     exact cT Ev call46 func46 (c:=FT) rfl (aI trivial trivial) z<|by kernel_rfl
    ·obtain rfl:=lf h
     have z:=p16<|sg 11 c15<|en (aI (rP (.bool false))<|trivial)
     exact cT Ev call46 func46 (c:=FT) rfl (aI trivial trivial) z<|by kernel_rfl
   ·obtain rfl:=lf h
    have z:=p14<|sg 7 c13<|en (aI (rP (.bool false))<|trivial)
    exact cT Ev call46 func46 (c:=FT) rfl (aI trivial trivial) z<|by kernel_rfl
  ·obtain rfl:=lf h
   have z:=p12<|sg 3 c11<|en (aI (rP (.bool false))<|trivial)
   exact cT Ev call46 func46 (c:=FT) rfl (aI trivial trivial) z<|by kernel_rfl
noncomputable def Gq:Code:=f49.body.getD .skip
def DU:List Nat:=[]
section
variable(s:ah)(i:Int)
def uC:ak:=cJ 32 [(0,.str s),(3,.int .i64 i)] [] []
def fM(o:Bool):ak:=cJ 32 [(0,.str s),(3,.int .i64 i),(31,.bool o)] [] []
def jY:Option Bool:=
 (g5 s i).bind fun c2=>
 (gI c2).bind fun r3=>
 if (!r3) = true then
  if(i==0)=true then
   some true
  else
   (g5 s i).bind fun c8=>
   (iJ c8).bind fun r9=>
   if(!r9)=true then
    (g5 s i).bind fun c12=>
    some (c12 !=95)
   else
    some false
 else
  some false
theorem tE{x:Bool}(h:jY s i=some x):aL Pg GE 0 (cA Gq 890) (EX .normal (fM s i x)) (uC s i):=by
 obtain⟨c2,bc2,h⟩:=aC h
 obtain⟨r3,br3,h⟩:=aC h
 have p5:=fun{sc F} (r:PS sc F)=>sv (oV (k:=.i64) underlying9 bc2)<|eb (jo br3)<|r
 rcases bC h with⟨c4,h⟩|⟨c4,h⟩
 ·have p7:=fun{sc F} (r:PS sc F)=>p5<|sg 6 c4<|r
  rcases bC h with⟨c6,h⟩|⟨c6,h⟩
  ·obtain rfl:=lf h
   exact kj DU (p7<|sg 9 c6<|eF .normal (fM s i true))<|by kernel_rfl
  ·obtain⟨c8,bc8,h⟩:=aC h
   obtain⟨r9,br9,h⟩:=aC h
   have p11:=fun{sc F} (r:PS sc F)=>p7<|sg 9 c6<|sv (oV (k:=.i64) underlying9 bc8)<|eb (lF br9)<|r
   rcases bC h with⟨c10,h⟩|⟨c10,h⟩
   ·obtain⟨c12,bc12,h⟩:=aC h
    obtain rfl:=lf h
    exact kj DU (p11<|sg 15 c10<|sv (oV (k:=.i64) underlying9 bc12)<|eF .normal (fM s i (c12 !=95)))<|by kernel_rfl
   ·obtain rfl:=lf h
    exact kj DU (p11<|sg 15 c10<|eF .normal (fM s i false))<|by kernel_rfl
 ·obtain rfl:=lf h
  exact kj DU (p5<|sg 6 c4<|eF .normal (fM s i false))<|by kernel_rfl
end
section
variable(s:ah)(i:Int)
def fN:ak:=cJ 32 [(0,.str s),(3,.int .i64 i)] [] []
def fP(o:Unit⊕(Unit)):Exit:=match o with
 |(.inl _)=>.ret
 |(.inr _)=>.exit 0
def eE(o:Unit⊕(Unit)):ak:=match o with
 |(.inl o)=>cJ 32 [(2,.bool false)] [] []
 |(.inr o)=>cJ 32 [] [] []
def fO:Option (Int⊕(Unit⊕(Unit))):=
 if(decide (i<(s.length:Int)))=true then
  (jY s i).bind fun o13=>
  if o13=true then
   some (.inr (.inl ()))
  else
   some (.inl (bU (i+1)))
 else
  some (.inr (.inr ()))
def mM:Option (Unit⊕(Unit)):=loop (fun(zz:Int)=>fO s zz) i
theorem sG{y:Int⊕(Unit⊕(Unit))}(h:fO s i=some y):aL Pg GE 0 (cA Gq 55) (LQ (fun(zz:Int)=>fN s zz) fP eE y) (fN s i):=by
 rcases bC h with⟨c1,h⟩|⟨c1,h⟩
 ·obtain⟨o13,bo13,h⟩:=aC h
  have p15:=fun{sc F} (r:PS sc F)=>g8 (nL underlying9 s)<|sg 0 c1<|wJ 1<|gq (tE s i bo13)<|r
  rcases bC h with⟨c14,h⟩|⟨c14,h⟩
  ·obtain rfl:=lf h
   have z:=p15<|sg 0 c14<|eF (fP (.inl ())) (eE (.inl ()))
   exact ny DU (by intro hx;cases hx) z<|by kernel_rfl
  ·obtain rfl:=lf h
   exact yl DU (p15<|sg 0 c14<|eF .normal (fN s (bU (i+1))))<|by kernel_rfl
 ·obtain rfl:=lf h
  have z:=g8 (nL underlying9 s)<|sg 0 c1<|eF (fP (.inr ())) (eE (.inr ()))
  exact ny DU (by intro hx;cases hx) z<|by kernel_rfl
theorem nx{x:Unit⊕(Unit)}(h:mM s i=some x):aL Pg GE 0 (.loop (cA Gq 55)) (EX (fP x) (eE x)) (fN s i):=
 aL.loop (S:=fun(zz:Int)=>fN s zz) (ex:=fP) (s:=i) h fun zz y hy=>sG s zz hy
end
def oC(s:ah):Option Bool:=
 (mM s 0).bind fun o16=>match o16 with
 |(.inl o16)=>
  some false
 |(.inr o16)=>
  some true
theorem w5{s:ah}{r:Bool}(h:oC s=some r):CC Pg GE 49 [.str s] (.bool r) []:=by
 obtain⟨o16,bo16,h⟩:=aC h
 rcases o16 with o16|o16
 ·obtain rfl:=lf h
  have z:=gq (e:=.ret) (s1:=eE (.inl o16)) (nx s 0 bo16)<|en (aI (rP (.bool false))<|trivial)
  exact cT DU call49 func49 (c:=Gq) rfl (aI trivial trivial) z<|by kernel_rfl
 ·obtain rfl:=lf h
  have z:=gq (e:=.exit 0) (s1:=eE (.inr o16)) (nx s 0 bo16)<|en (aI (rP (.bool true))<|trivial)
  exact cT DU call49 func49 (c:=Gq) rfl (aI trivial trivial) z<|by kernel_rfl
noncomputable def EA:Code:=f25.body.getD .skip
def A3:List Nat:=[]
section
variable(first:ah)(rest:ah)(more:Bool)
def uy:ak:=cJ 52 [(3,.str first),(4,.str rest),(5,.bool more)] [] []
def fH(o:Bool):ak:=cJ 52 [(4,.str rest),(5,.bool more),(31,.bool o)] [] []
def jS:Option Bool:=
 (oB first).bind fun r3=>
 if (!r3) = true then
  (mt first).bind fun r5=>
  if(!r5)=true then
   if(!(first==([118]:ah)))=true then
    some true
   else
    some (!more)
  else
   some false
 else
  some false
theorem tj{x:Bool}(h:jS first more=some x):aL Pg GE 0 (cA EA 60) (EX .normal (fH rest more x)) (uy first rest more):=by
 obtain⟨r3,br3,h⟩:=aC h
 rcases bC h with⟨c4,h⟩|⟨c4,h⟩
 ·obtain⟨r5,br5,h⟩:=aC h
  have p7:=fun{sc F} (r:PS sc F)=>eb (qT br3)<|sg 4 c4<|eb (v8 br5)<|r
  rcases bC h with⟨c6,h⟩|⟨c6,h⟩
  ·have p9:=fun{sc F} (r:PS sc F)=>p7<|sg 9 c6<|r
   rcases bC h with⟨c8,h⟩|⟨c8,h⟩
   ·obtain rfl:=lf h
    exact kj A3 (p9<|sg 12 c8<|eF .normal (fH rest more true))<|by kernel_rfl
   ·obtain rfl:=lf h
    exact kj A3 (p9<|sg 12 c8<|eF .normal (fH rest more (!more)))<|by kernel_rfl
  ·obtain rfl:=lf h
   exact kj A3 (p7<|sg 9 c6<|eF .normal (fH rest more false))<|by kernel_rfl
 ·obtain rfl:=lf h
  exact kj A3 (eb (qT br3)<|sg 4 c4<|eF .normal (fH rest more false))<|by kernel_rfl
end
section
variable(rest:ah)(more:Bool)(part:ah)
def uz:ak:=cJ 52 [(4,.str rest),(5,.bool more),(6,.str part)] [] []
def ip(o:Bool):ak:=cJ 52 [(4,.str rest),(5,.bool more),(51,.bool o)] [] []
def jT:Option Bool:=
 (iK part).bind fun r15=>
 if(!r15)=true then
  some true
 else
  (dZ part).bind fun r17=>
  if(!r17)=true then
   (oC part).bind fun r20=>
   some (!r20)
  else
   some false
theorem tn{x:Bool}(h:jT part=some x):aL Pg GE 0 (cA EA 8062) (EX .normal (ip rest more x)) (uz rest more part):=by
 obtain⟨r15,br15,h⟩:=aC h
 rcases bC h with⟨c16,h⟩|⟨c16,h⟩
 ·obtain rfl:=lf h
  exact kj A3 (eb (e8 br15)<|sg 4 c16<|eF .normal (ip rest more true))<|by kernel_rfl
 ·obtain⟨r17,br17,h⟩:=aC h
  have p19:=fun{sc F} (r:PS sc F)=>eb (e8 br15)<|sg 4 c16<|eb (jA br17)<|r
  rcases bC h with⟨c18,h⟩|⟨c18,h⟩
  ·obtain⟨r20,br20,h⟩:=aC h
   obtain rfl:=lf h
   exact kj A3 (p19<|sg 8 c18<|eb (w5 br20)<|eF .normal (ip rest more (!r20)))<|by kernel_rfl
  ·obtain rfl:=lf h
   exact kj A3 (p19<|sg 8 c18<|eF .normal (ip rest more false))<|by kernel_rfl
end
section
variable(rest:ah)(more:Bool)
def fI:ak:=cJ 52 [(4,.str rest),(5,.bool more)] [] []
def fJ(o:Unit⊕(Unit)):Exit:=match o with
 |(.inl _)=>.ret
 |(.inr _)=>.exit 0
def eC(o:Unit⊕(Unit)):ak:=match o with
 |(.inl o)=>cJ 52 [(2,.int .i64 3)] [] []
 |(.inr o)=>cJ 52 [] [] []
def eB:Option ((ah×Bool)⊕(Unit⊕(Unit))):=
 if more=true then
  (nv rest).bind fun r14=>
  (jT r14.1).bind fun o21=>
  if o21=true then
   some (.inr (.inl ()))
  else
   some (.inl (r14.2.1,r14.2.2))
 else
  some (.inr (.inr ()))
def dO:Option (Unit⊕(Unit)):=loop (fun(zz:ah×Bool)=>eB zz.1 zz.2) (rest,more)
theorem sw{y:(ah×Bool)⊕(Unit⊕(Unit))}(h:eB rest more=some y):aL Pg GE 0 (cA EA 251) (LQ (fun(zz:ah×Bool)=>fI zz.1 zz.2) fJ eC y) (fI rest more):=by
 rcases bC h with⟨c13,h⟩|⟨c13,h⟩
 ·obtain⟨r14,br14,h⟩:=aC h
  obtain⟨o21,bo21,h⟩:=aC h
  have p23:=fun{sc F} (r:PS sc F)=>sg 0 c13<|eb (sB br14)<|wJ 0<|gq (tn r14.2.1 r14.2.2 r14.1 bo21)<|r
  rcases bC h with⟨c22,h⟩|⟨c22,h⟩
  ·obtain rfl:=lf h
   have z:=p23<|sg 0 c22<|eF (fJ (.inl ())) (eC (.inl ()))
   exact ny A3 (by intro hx;cases hx) z<|by kernel_rfl
  ·obtain rfl:=lf h
   exact yl A3 (p23<|sg 0 c22<|eF .normal (fI r14.2.1 r14.2.2))<|by kernel_rfl
 ·obtain rfl:=lf h
  have z:=sg 0 c13<|eF (fJ (.inr ())) (eC (.inr ()))
  exact ny A3 (by intro hx;cases hx) z<|by kernel_rfl
theorem np{x:Unit⊕(Unit)}(h:dO rest more=some x):aL Pg GE 0 (.loop (cA EA 251)) (EX (fJ x) (eC x)) (fI rest more):=
 aL.loop (S:=fun(zz:ah×Bool)=>fI zz.1 zz.2) (ex:=fJ) (s:=(rest,more)) h fun zz y hy=>sw zz.1 zz.2 hy
end
def lC(s:ah):Option Int:=
 if(decide ((s.length:Int)>120))=true then
  some 3
 else
  (nv s).bind fun r2=>
  (jS r2.1 r2.2.2).bind fun o10=>
  if o10=true then
   some 3
  else
   (dO r2.2.1 r2.2.2).bind fun o24=>match o24 with
   |(.inl o24)=>
    some 3
   |(.inr o24)=>
    some 0
theorem qS{s:ah}{r:Int}(h:lC s=some r):CC Pg GE 25 [.str s] (.int .i64 r) []:=by
 rcases bC h with⟨c1,h⟩|⟨c1,h⟩
 ·obtain rfl:=lf h
  have z:=g8 (nL underlying9 s)<|sg 0 c1<|en (aI (rP (.int .i64 3))<|trivial)
  exact cT A3 call25 func25 (c:=EA) rfl (aI trivial trivial) z<|by kernel_rfl
 ·obtain⟨r2,br2,h⟩:=aC h
  obtain⟨o10,bo10,h⟩:=aC h
  have p12:=fun{sc F} (r:PS sc F)=>g8 (nL underlying9 s)<|sg 0 c1<|eb (sB br2)<|wJ 1<|gq (tj r2.1 r2.2.1 r2.2.2 bo10)<|r
  rcases bC h with⟨c11,h⟩|⟨c11,h⟩
  ·obtain rfl:=lf h
   have z:=p12<|sg 0 c11<|en (aI (rP (.int .i64 3))<|trivial)
   exact cT A3 call25 func25 (c:=EA) rfl (aI trivial trivial) z<|by kernel_rfl
  ·obtain⟨o24,bo24,h⟩:=aC h
   rcases o24 with o24|o24
   ·obtain rfl:=lf h
    have z:=p12<|sg 0 c11<|gq (e:=.ret) (s1:=eC (.inl o24)) (np r2.2.1 r2.2.2 bo24)<|en (aI (rP (.int .i64 3))<|trivial)
    exact cT A3 call25 func25 (c:=EA) rfl (aI trivial trivial) z<|by kernel_rfl
   ·obtain rfl:=lf h
    have z:=p12<|sg 0 c11<|gq (e:=.exit 0) (s1:=eC (.inr o24)) (np r2.2.1 r2.2.2 bo24)<|en (aI (rP (.int .i64 0))<|trivial)
    exact cT A3 call25 func25 (c:=EA) rfl (aI trivial trivial) z<|by kernel_rfl
noncomputable def HG:Code:=f26.body.getD .skip
def Hw:List Nat:=[]
def fq(n:Int):Option Bool:=
 if(decide (n>=0))=true then
  some (decide (n<6))
 else
  some false
theorem kz{n:Int}{r:Bool}(h:fq n=some r):CC Pg GE 26 [.int .i64 n] (.bool r) []:=by
 rcases bC h with⟨c1,h⟩|⟨c1,h⟩
 ·obtain rfl:=lf h
  have z:=sg 3 c1<|en (aI (rP (.bool (decide (n<6))))<|trivial)
  exact cT Hw call26 func26 (c:=HG) rfl (aI trivial trivial) z<|by kernel_rfl
 ·obtain rfl:=lf h
  have z:=sg 3 c1<|en (aI (rP (.bool false))<|trivial)
  exact cT Hw call26 func26 (c:=HG) rfl (aI trivial trivial) z<|by kernel_rfl
noncomputable def Hd:Code:=f27.body.getD .skip
def G5:List Nat:=[]
def gn(a:ag)(a2:ag):Option Bool:=
 if(decide (a.From<a2.From))=true then
  some true
 else
  if(a.From==a2.From)=true then
   some (decide (a.To<a2.To))
  else
   some false
theorem qc{a:ag}{a2:ag}{r:Bool}(h:gn a a2=some r):CC Pg GE 27 [.agg (am a),.agg (am a2)] (.bool r) []:=by
 have p2:=fun{sc F} (r:PS sc F)=>se (sK a)<|se (sK a2)<|sv (fx a)<|sv (gE a)<|sv (fx a2)<|sv (gE a2)<|r
 rcases bC h with⟨c1,h⟩|⟨c1,h⟩
 ·obtain rfl:=lf h
  have z:=p2<|sg 6 c1<|en (aI (rP (.bool true))<|trivial)
  exact cT G5 call27 func27 (c:=Hd) rfl (aI (aM a) (aI (aM a2) trivial)) z<|by kernel_rfl
 ·have p4:=fun{sc F} (r:PS sc F)=>p2<|sg 6 c1<|sv (fx a)<|sv (gE a)<|sv (fx a2)<|sv (gE a2)<|r
  rcases bC h with⟨c3,h⟩|⟨c3,h⟩
  ·obtain rfl:=lf h
   have z:=p4<|sg 12 c3<|sv (jf a)<|sv (kc a)<|sv (jf a2)<|sv (kc a2)<|en (aI (rP (.bool (decide (a.To<a2.To))))<|trivial)
   exact cT G5 call27 func27 (c:=Hd) rfl (aI (aM a) (aI (aM a2) trivial)) z<|by kernel_rfl
  ·obtain rfl:=lf h
   have z:=p4<|sg 12 c3<|en (aI (rP (.bool false))<|trivial)
   exact cT G5 call27 func27 (c:=Hd) rfl (aI (aM a) (aI (aM a2) trivial)) z<|by kernel_rfl
end Go.Proofs.YtoficachfgggjaaDoor
