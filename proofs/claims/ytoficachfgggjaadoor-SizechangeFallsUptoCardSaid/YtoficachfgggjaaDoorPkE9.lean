/- PROVED: a part of the proof. Conditions: none. -/
import Derived.Test.YtoficachfgggjaaDoorPkE8
import Derived.Test.YtoficachfgggjaaDoorPkE7
import Derived.Shelf.Strconv.Itoa3
noncomputable section
namespace Go.Proofs.YtoficachfgggjaaDoor
open Go Go.Shelf Go.RowKit Go.Lib Go.Sort
set_option linter.unusedSimpArgs false
set_option linter.unusedVariables false
def lx(n t nb i:Nat)(p:PVal)(e:TypeId):ak:=⟨(List.replicate n .undef).set t (.bptr i 0),(List.replicate nb .dead).set i (.cells [p] [(0,e)]),[]⟩
theorem DK{n t nb i j:Nat}{p q:PVal}{e:TypeId}(h:(lx n t nb i p e).tmps[j]? =some q):q=.undef\/(j=t/\q=.bptr i 0):=by
 unfold lx at h
 simp only at h
 rw[vbw]at h
 split at h
 ·rename_i hti
  split at h
  ·cases h;exact .inr ⟨hti.symm,rfl⟩
  ·cases h
 ·rw[vaR]at h
  split at h
  ·cases h;exact .inl rfl
  ·cases h
theorem AW{n t nb i j:Nat}{p:PVal}{e:TypeId}{B:ai}(h:(lx n t nb i p e).boxes[j]? =some B):(j=i/\B=.cells [p] [(0,e)])\/(j≠i/\B=.dead):=by
 unfold lx at h
 simp only at h
 rw[vbw]at h
 split at h
 ·rename_i hti
  split at h
  ·cases h;exact .inl ⟨hti.symm,rfl⟩
  ·cases h
 ·rename_i hti
  rw[vaR]at h
  split at h
  ·cases h;exact .inr ⟨fun e=>hti e.symm,rfl⟩
  ·cases h
section
variable{P:Program}{GE:List (Nat×List PVal)}{α:Type}[DecidableEq α]{c:α->List PVal}{ord:α->α->Option Int}
theorem Ao{T e:TypeId}{K:List Nat}{fs fo rid n t nb i d1 d2:Nat}{o1 o2:Oper}{tys:Array TypeId}{l r:List α}(s:ye P T e c)(hS:Aw P fs (P.cellsOf e))(hsc:(P.underlying T).any qq=true)
  (hcc:∀x y r,ord x y=some r->CC P GE fo [.agg (c x),.agg (c y)] (.int .i64 r) []) (hof:∀vs w,(callFunc fo vs).run P w=.ok (.enter fo vs) w)
  (hfl:∀x,∀q∈c x,yQ K q/\q.kd∈K/\q.kd≠0) (h1:o1.op=.load T (.tmp t)) (h1d:o1.dst=some d1) (h1g:o1.guard=none)
  (h2:o2.op=.call {callee:=.value (.func fs),args:=#[.tmp d1,.func fo],argTypes:=tys}) (h2d:o2.dst=some d2) (h2g:o2.guard=none)
  (hn:t<n/\d1<n/\d2<n/\t≠d1/\t≠d2) (hi:i<nb) (hs:qr ord l=some r):
  aQ P GE 0 (.region rid #[o1,o2] false) (EX .normal (lx n t nb i (sl c r) e)) (lx n t nb i (sl c l) e):=by
 obtain⟨n1,n2,n3,n4,n5⟩:=hn
 intro ro E bs0 a w hE hb0 hR
 have hb0:bs0=[]:=vaq hb0
 subst hb0
 refine uE (by simp[eh,h1,h2]) (by rintro⟨_,_,_,_,_,h,_⟩;cases h) ?_
 show wpOps P #[o1,o2] _ [0,1] a w
 obtain⟨Γ,bs,ow,h,hk⟩:=hR
 have hsz:a.tmps.size=n:=by rw[h.sz];simp[lx]
 obtain⟨u,hu⟩:∃u,a.tmps[t]? =some u:=⟨a.tmps[t]'(by omega),vaG (by omega)⟩
 have hpt:=h.tm t (.bptr i 0) u (by simp[lx,n1]) hu
 cases hpt with
 |bptr _ _ b0 hib=>
 have hBi:(lx n t nb i (sl c l) e).boxes[i]? =some (.cells [sl c l] [(0,e)]):=by simp[lx,hi]
 obtain⟨hg0,hlt0,cc,tt,hheap0,hlen0,hvr0⟩:=h.bx i b0 _ hib hBi
 obtain⟨v,hcell,hown,howb⟩:=h.ob i 0 e _ _ b0 hBi (by simp) hib
 have hcc0:cc[0]? =some v:=by rw[<-hcell,cell_of_row w b0 0 cc tt _ hheap0]
 have hvr:VR Γ bs w (sl c l) v:=hvr0 0 _ v rfl hcc0
 have hload:(Instr.loadAt T (.pointer (some ⟨b0,0,none⟩))).run P w=.ok v w:=by
  obtain⟨v',hr,hv'⟩:=eN (P:=P) (w:=w) (Γ:=Γ) (bs:=bs) (b:=b0) (off:=0) (cs:=[.val v]) (vals:=fun _=>v) (xJ hsc _ _)
   (fun k q hq=>by
    have hk0:k=0:=by have:=ac hq;simp at this;exact this
    subst hk0;exact hcell)
   (fun k q hq=>by
    have hk0:k=0:=by have:=ac hq;simp at this;exact this
    subst hk0;simp at hq;subst hq;exact .val v)
  cases hv'
  simp[Instr.loadAt,Instr.sureAddr,hr]
 have hu0:a.eval (.tmp t)=.pointer (some ⟨b0,0,none⟩):=gV hu
 rw[wpOps_cons]
 unfold wpOp
 rw[show(#[o1,o2]:Array Oper)[0]? =some o1 from rfl]
 simp only
 rw[vaf (by simp[Region.wanted,h1g])]
 refine .inl ?_
 unfold Oper.wp
 rw[show(execOp a.eval o1).run P w=.ok (.value v) w by simp[execOp,h1,hu0,hload],Oper.upon_value]
 rw[wpOps_cons]
 unfold wpOp
 rw[show(#[o1,o2]:Array Oper)[1]? =some o2 from rfl]
 simp only
 rw[vaf (by simp[Region.wanted,h2g])]
 refine .inl ?_
 unfold Oper.wp
 have hu1:(a.put o1.dst v).eval (.tmp d1)=v:=by
  refine gV ?_
  rw[h1d]
  show(a.tmps.setIfInBounds d1 v)[d1]? =some v
  simp[hsz,n2]
 rw[show(execOp (a.put o1.dst v).eval o2).run P w=.ok (.enter fs #[v,.func (.func fo) #[] #[]]) w by
  simp only[execOp,h2]
  simp[resolve,Act.eval,Deferred.ofValue,invoke,hS.1]
  have hu2:(a.put o1.dst v).tmps.getD d1 undef=v:=hu1
  rw[vav]at hu2
  exact hu2,Oper.upon_enter]
 have hget:∀q:Value,(((a.put o1.dst v).put o2.dst q).tmps)[t]? =some (.pointer (some ⟨b0,0,none⟩))/\(((a.put o1.dst v).put o2.dst q).tmps).size=n:=by
  intro q
  rw[h1d,h2d]
  show((a.tmps.setIfInBounds d1 v).setIfInBounds d2 q)[t]? =_/\((a.tmps.setIfInBounds d1 v).setIfInBounds d2 q).size=n
  refine⟨?_,by simp[hsz]⟩
  rw[vaL n5.symm,vaL n4.symm];exact hu
 have hdef:∀q:Value,((a.put o1.dst v).put o2.dst q).defers=a.defers:=fun q=>(aU _ _ _).trans (aU _ _ _)
 obtain⟨hokS,hrl⟩:=Dg hs
 obtain⟨happ,hord,hO⟩:=vd hokS
 have htm:∀{bs:ay} {Γ:av} {w:World} {p:PVal} (q:Value),bs[i]? =some (some b0)->∀(j:Nat) x y,(lx n t nb i p e).tmps[j]? =some x->(((a.put o1.dst v).put o2.dst q).tmps)[j]? =some y->VR Γ bs w x y:=by
  intro bs Γ w p q hb j x y hx hy
  rcases DK hx with rfl|⟨rfl,rfl⟩
  ·exact .undef y
  ·rw[(hget q).1]at hy;cases hy;exact .bptr _ _ _ hb
 have hempty:l=[]->∀q,wpOps P #[o1,o2] (ue P E [] a.defers (EX .normal (lx n t nb i (sl c r) e))) [] ((a.put o1.dst v).put o2.dst q) w:=by
  intro hl q
  subst hl
  have hr:r=[]:=vaq hrl
  subst hr
  refine⟨hdef q,_,⟨Γ,bs,ow,{h with sz:=by rw[(hget q).2];simp[lx],tm:=htm q hib,ot:=fun t k e he=>by simp[lx]at he},hk⟩,rfl,rfl⟩
 unfold sl at hvr
 generalize hes:l.map c=es at hvr
 cases hvr with
 | sliceNil =>
  have hl:l=[]:=by cases l with
   |nil=>rfl
   |cons x l=>simp at hes
  refine(hS.2.2 none 0 _ w).mono fun q w' hr=>?_
  obtain⟨rfl,rfl⟩:=hr
  exact hempty hl _
 | sliceE x cap =>
  have hl:l=[]:=by cases l with
   |nil=>rfl
   |cons x l=>simp at hes
  refine(hS.2.2 (some x) cap _ w).mono fun q w' hr=>?_
  obtain⟨rfl,rfl⟩:=hr
  exact hempty hl _
 | slice _ b off cap m sz vals hz0 hcap hg hm hszs hc hv =>
  obtain⟨kk,xs,⟨hx1,hx2⟩,hx3⟩:=hown
  rcases hx2 with⟨hx2,_⟩|⟨g',cap',cur,hx2,_,hheap,hkc,hcm,hcs,htake⟩
  ·cases hx2
  cases hx2
  subst hes
  by_cases hl0:l=[]
  ·subst hl0
   refine(hS.2.2 (some ⟨b,0,none⟩) cap _ w).mono fun q w' hr=>?_
   obtain⟨rfl,rfl⟩:=hr
   exact hempty rfl _
  have hN:0<l.length:=vbP.2 hl0
  have hlen:(l.map c).length=l.length:=vbJ _
  have hget':∀j,(hj:j<l.length)->(l.map c)[j]? =some (c l[j]):=fun j hj=>by rw[vax,vab hj];rfl
  have hsk:sz=P.cellsOf e:=by rw[<-hszs 0 _ (hget' 0 hN),s.hc]
  subst hsk
  have hΓg:Γ b=some (l.length * P.cellsOf e):=by rw[hx3 b rfl,hlen]
  generalize hkk:P.cellsOf e=k at *
  let cl:Nat->Nat:=fun x=>if x<l.length then x else 0
  have hcl:∀x,cl x<l.length:=fun x=>by show(if x<l.length then x else 0)<_;split<;>omega
  have hcl0:∀x,x<l.length->cl x=x:=fun x hx=>by show(if x<l.length then x else 0)=_;rw[vaf hx]
  let el:Nat->α:=fun x=>l[cl x]'(hcl x)
  have hel:∀x,el x∈l:=fun x=>vaS (hcl x)
  let enc:Nat->List Value:=fun x=>(List.range k).map fun j=>vals (cl x) j
  have henc:∀(x j:Nat) uu,(enc x)[j]? =some uu->j<k/\uu=vals (cl x) j:=fun x j uu hh=>by
   have hh:((List.range k).map fun j=>vals (cl x) j)[j]? =some uu:=hh
   rw[vax]at hh
   by_cases hj:j<k
   ·rw[vaZ hj]at hh;cases hh;exact⟨hj,rfl⟩
   ·rw[vaA (by simp;omega)]at hh;cases hh
  have hencl:∀x,(enc x).length=k:=fun x=>by show((List.range k).map _).length=k;simp
  have hencg:∀(x j:Nat),j<k->(enc x)[j]! =vals (cl x) j:=fun x j hj=>by
   rw[List.getElem!_eq_getElem?_getD]
   have:(enc x)[j]? =some (vals (cl x) j):=by
    show((List.range k).map fun j=>vals (cl x) j)[j]? =_
    rw[vax,vaZ hj];rfl
   rw[this];rfl
  have hqe:∀(x j:Nat),j<k->∃q,(c (el x))[j]? =some q/\q∈c (el x)/\VR Γ bs w q (vals (cl x) j):=fun x j hj=>by
   have hjl:j<(c (el x)).length:=by rw[s.hc];omega
   exact⟨_,vab hjl,vaS hjl,hv (cl x) _ j _ (hget' _ (hcl x)) (vab hjl)⟩
  have hvre:∀(x j:Nat) q uu,(c (el x))[j]? =some q->(enc x)[j]? =some uu->VR Γ bs w q uu:=fun x j q uu hq huu=>by
   obtain⟨hj,rfl⟩:=henc x j uu huu
   exact hv (cl x) _ j q (hget' _ (hcl x)) hq
  have hone:∀x,∀uu∈enc x,uu.oneCell'=true:=fun x uu huu=>by
   obtain⟨j,hj⟩:=vbu huu
   obtain⟨hjk,rfl⟩:=henc x j uu hj
   obtain⟨q,_,hqm,hqv⟩:=hqe x j hjk
   exact hqv.one (s.ho _ q hqm)
  have hcelli:∀(x j:Nat),x<l.length->j<k->w.cell? ⟨b,0+(x * k+j),none⟩=some (vals x j):=fun x j hx hj=>by
   have hjl:j<(c l[x]).length:=by rw[s.hc];omega
   have:=hc x _ j _ (hget' x hx) (vab hjl)
   rw[<-this];congr 2;omega
  have hkpos:0<k:=hz0
  have hdm:∀o,o<l.length * k->o / k<l.length/\o % k<k/\o=o / k * k+o % k:=fun o ho=>⟨Nat.div_lt_of_lt_mul (by rw[vcs];exact ho),Nat.mod_lt _ hkpos,(Nat.div_add_mod' o k).symm⟩
  have hrow:∀o,o<l.length * k->∃uu,w.cell? ⟨b,o,none⟩=some uu/\Gl uu∈K:=fun o ho=>by
   obtain⟨a1,a2,a3⟩:=hdm o ho
   have:=hcelli (o / k) (o % k) a1 a2
   rw[vaB,<-a3]at this
   obtain⟨q,_,hqm,hqv⟩:=hqe (o / k) (o % k) a2
   rw[hcl0 _ a1]at hqv
   obtain⟨_,k1,k2⟩:=hfl _ q hqm
   exact⟨_,this,by rw[VR.kd_eq hqv k2];exact k1⟩
  let cf:Nat->Nat->Int:=fun x y=>(ord (el x) (el y)).getD 0
  have hcf:∀x y,ord (el x) (el y)=some (cf x y):=fun x y=>by
   obtain⟨z,hz⟩:=hord _ (hel x) _ (hel y)
   show _=some ((ord (el x) (el y)).getD 0)
   rw[hz];rfl
  have hlt:∀x y,ltOf cf x y=yh ord (el x) (el y):=fun x y=>by
   unfold ltOf yh
   rw[hcf x y]
  have hswo:SWO (ltOf cf):=⟨fun x=>by rw[hlt];exact hO.irr _ (hel x),fun x y z p q=>by rw[hlt]at *;exact hO.trans _ _ _ (hel x) (hel y) (hel z) p q,fun x y z p q=>by rw[hlt]at *;exact hO.ntrans _ _ _ (hel x) (hel y) (hel z) p q⟩
  have hlo:=h.on b _ (howb b rfl)
  have hge:E.w.heap.size<=b:=hlo.2.resolve_left (hE.nt rfl b)
  have hd0:(Array.range l.length).size=l.length:=by simp
  have hHold:HoldsK enc k w b 0 (Array.range l.length):=by
   intro j hj
   rw[size_flatK,hd0]at hj
   obtain⟨a1,a2,a3⟩:=hdm j hj
   refine⟨?_,frozen_of_row w b _ cur e hheap⟩
   rw[get_flatK _ _ _ _ (by rw[hd0];exact hj)]
   have e1:(Array.range l.length)[j / k]! =j / k:=by rw[getElem!_pos _ _ (by rw[hd0];exact a1)];simp
   rw[e1,hencg _ _ a2,hcl0 _ a1]
   have:=hcelli (j / k) (j % k) a1 a2
   rw[<-a3]at this
   exact this
  have hcmp:=Cq (k:=k) (N:=(Array.range l.length).size) h hE (K:=K) hΓg hge hrow hcc (fun x q hq=>(hfl x q hq).1) (enc:=enc) (el:=el) (fun x=>by rw[hencl,s.hc];exact hkk.symm) hvre hcf
  have happ2:l.length<4611686018427387904:=by unfold dF at happ;omega
  have hcall:=hS.2.1 enc cf fo b cap (Array.range l.length) w hencl hone hswo hof hcmp hHold hlo.1 (by rw[hd0];exact happ2)
  rw[hd0]at hcall
  have hcall2:Calls P fs #[.slice (some ⟨b,0,none⟩) (l.map c).length cap,.func (.func fo) #[] #[]] w fun e w'=>e=.returned (.tuple #[])/\∃d' n os,PermIn 0 l.length (Array.range l.length) d'/\SortedIn (ltOf cf) 0 l.length d'/\w'=sortWorldK enc k w b 0 n d' os:=by
   rw[hlen];exact hcall
  refine hcall2.mono fun q w' hr=>?_
  obtain⟨rfl,d',n',os,hperm,hsorted,rfl⟩:=hr
  have hd'0:d'.size=l.length:=hperm.1.trans hd0
  generalize hWe:sortWorldK enc k w b 0 n' d' os=W
  have hkeep:∀x,x<w.heap.size->x≠b->W.heap[x]? =w.heap[x]?:=fun x hx hxb=>by rw[<-hWe];exact vS hx hxb
  have hszW:w.heap.size<=W.heap.size:=by rw[<-hWe];exact vT
  have hrowW:W.heap[b]? =some (.cells (putCells id 0 (flatK enc k d') cur) e (0,0)):=by rw[<-hWe];exact BS hheap
  have hholdW:HoldsK enc k W b 0 d':=by rw[<-hWe];exact holdsK_sortWorldK_c enc k w b 0 _ d' n' os hHold hlo.1 hperm.1
  have hcsW:(putCells id 0 (flatK enc k d') cur).size=cap * k:=by rw[<-hcs];simp[putCells]
  have hst1:W.os=w.os:=by rw[<-hWe];rfl
  have hst2:W.tape=w.tape:=by rw[<-hWe];rfl
  have hst3:W.output=w.output:=by rw[<-hWe];rfl
  have hst4:w.drawn<=W.drawn:=by rw[<-hWe];exact vb3 _ _
  have hnk:l.length * k<=cap * k:=vaK k (by rw[<-hlen];exact hcap)
  have hrd:d'.toList.map el=r:=by
   refine xZ hs ?_ ?_
   ·have hp:=hperm.2.2
    have e1:d'.extract 0 l.length=d':=by rw[<-hd'0];exact vcI
    have e2:(Array.range l.length).extract 0 l.length=Array.range l.length:=by
     have:(Array.range l.length).extract 0 (Array.range l.length).size=Array.range l.length:=vcI
     rwa[hd0]at this
    rw[e1,e2]at hp
    have h3:(Array.range l.length).toList.map el=l:=by
     rw[Array.toList_range]
     refine vbe fun j=>?_
     by_cases hj:j<l.length
     ·rw[vax,vaZ hj,vab hj]
      show some (l[cl j]'(hcl j))=some l[j]
      congr 1
      simp only[hcl0 j hj]
     ·rw[vaA (by simp;omega),vaA (by omega)]
    rw[<-h3]
    exact hp.map el
   ·unfold my
    rw[List.pairwise_map,List.pairwise_iff_getElem]
    intro x y hx hy hxy
    have hx':x<d'.size:=by simpa using hx
    have hy':y<d'.size:=by simpa using hy
    have:=hsorted x y (vaJ _) hxy (by rw[<-hd'0];exact hy')
    rw[getElem!_pos d' x hx',getElem!_pos d' y hy',hlt]at this
    simpa using this
  have hrlen:(r.map c).length=(l.map c).length:=by rw[vbJ,vbJ,hrl]
  have hri:∀x,(hx:x<l.length)->(r.map c)[x]? =some (c (el d'[x]!)):=fun x hx=>by
   rw[<-hrd,List.map_map,vax]
   have hxd:x<d'.size:=by rw[hd'0];exact hx
   rw[va5,vaG hxd,getElem!_pos d' x hxd]
   rfl
  have hvrW:VR Γ bs W (sl c r) (.slice (some ⟨b,0,none⟩) (l.map c).length cap):=by
   unfold sl
   rw[<-hrlen]
   refine .slice _ b 0 cap (l.length * k) k (fun x j=>vals (cl d'[x]!) j) hkpos (by rw[hrlen];exact hcap) hΓg (by rw[hrlen,hlen];omega) (fun x y hx=>?_) (fun x y j p hx hp=>?_) (fun x y j p hx hp=>?_)
   ·have hxl:x<l.length:=by have:=ac hx;rw[hrlen,hlen]at this;exact this
    rw[hri x hxl]at hx;cases hx;rw[s.hc];exact hkk
   ·have hxl:x<l.length:=by have:=ac hx;rw[hrlen,hlen]at this;exact this
    rw[hri x hxl]at hx;cases hx
    have hjk:j<k:=by have:=ac hp;rw[s.hc,hkk]at this;exact this
    have:=(hholdW.cell (i:=x) (c:=j) (by rw[hd'0];exact hxl) hjk).1
    rw[hencg _ _ hjk]at this
    exact this
   ·have hxl:x<l.length:=by have:=ac hx;rw[hrlen,hlen]at this;exact this
    rw[hri x hxl]at hx;cases hx
    refine(hv (cl d'[x]!) _ j p (hget' _ (hcl _)) hp).off_row hΓg hrow (fun x m hx hm=>⟨hm,fun o=>az (hkeep x (h.lt_of_ghost hm) hx) o⟩) (hfl _ p (vau hp)).1
  have hle:E.Γ.Le E.w Γ W:=fun x m hx hm0=>by
   obtain⟨m',k1,k2,k3⟩:=h.step.le x m hx hm0
   have hne:x≠b:=fun hxb=>by have:=hE.low x m hx;omega
   exact⟨m',k1,k2,fun o ho=>(az (hkeep x (h.lt_of_ghost k1) hne) o).trans (k3 o ho)⟩
  have hne0:b0≠b:=fun hx=>by rw[hx,hΓg]at hg0;cases hg0
  refine⟨hdef _,_,⟨Γ,bs,ow,{
   wi:=fun x m hx=>by
    by_cases hxg:x=b
    ·subst hxg
     rw[hΓg]at hx;cases hx
     exact⟨_,_,_,hrowW,by rw[hcsW];exact hnk⟩
    ·obtain⟨c2,t2,fr,k1,k2⟩:=h.wi x m hx
     exact⟨c2,t2,fr,(hkeep x (h.lt_of_ghost hx) hxg).trans k1,k2⟩
   sz:=by rw[(hget _).2];simp[lx]
   tm:=htm _ hib
   bl:=by rw[h.bl];simp[lx]
   bx:=fun j b' B hb' hB=>by
    rcases AW hB with⟨rfl,rfl⟩|⟨hj,rfl⟩
    ·rw[hib]at hb';cases hb'
     refine⟨hg0,vaE hlt0 hszW,cc,tt,(hkeep b0 hlt0 hne0).trans hheap0,hlen0,fun jj p vv hp hvv=>?_⟩
     have hj0:jj=0:=by have:=ac hp;simp at this;exact this
     subst hj0
     simp at hp;subst hp
     rw[hcc0]at hvv;cases hvv
     exact hvrW
    ·have hold:(lx n t nb i (sl c l) e).boxes[j]? =some .dead:=by
      have hjn:j<nb:=by have:=ac hB;simpa[lx]using this
      unfold lx
      simp only
      rw[vao (fun e=>hj e.symm),vaR,vaf hjn]
     obtain⟨k1,k2,_⟩:=h.bx j b' _ hb' hold
     exact⟨k1,vaE k2 hszW,trivial⟩
   inj:=h.inj
   bn:=h.bn
   on:=fun b' L hL=>⟨vaE (h.on b' L hL).1 hszW,(h.on b' L hL).2⟩
   ot:=fun t k e he=>by simp[lx]at he
   ob:=fun j jj e' cs own b' hB hj hb'=>by
    rcases AW hB with⟨rfl,hBB⟩|⟨_,hBB⟩
    ·cases hBB
     rw[hib]at hb';cases hb'
     have:jj=0/\e'=e:=by simpa using hj
     obtain⟨rfl,rfl⟩:=this
     refine⟨_,(az (hkeep b0 hlt0 hne0) 0).trans hcell,⟨(l.map c).length,(putCells id 0 (flatK enc k d') cur).toList.take (l.length * k),⟨?_,.inr ⟨b,cap,_,rfl,vaJ _,hrowW,hcap,hcm,by rw[hcsW,hkk],by rw[hlen,hkk]⟩⟩,fun x hx=>?_⟩,howb⟩
     ·have hL:(putCells id 0 (flatK enc k d') cur).toList.length=cap * k:=by rw[<-hcsW];exact Array.length_toList
      rw[vbc,hL,hlen,hkk];omega
     ·simp[Value.ownBlock]at hx;subst hx;rw[hΓg,hlen,hkk]
    ·cases hBB
   gl:=fun g cs hg=>(hE.gl g cs (by rw[<-hE.ge];exact hg)).mono hle (fun i b hb=>by simp at hb)
   gc:=h.gc
   gx:=h.gx
   step:={
    os:=hst1.trans h.step.os
    tape:=hst2.trans h.step.tape
    output:=hst3.trans h.step.output
    size:=vaO h.step.size hszW
    drawn:=vaO h.step.drawn hst4
    keep:=fun x hx hT=>by
     obtain⟨k1,k2⟩:=h.step.keep x hx hT
     exact⟨(hkeep x (vaE hx h.step.size) (by omega)).trans k1,k2⟩
    le:=hle}},hk⟩,rfl,rfl⟩
theorem Gb{T e:TypeId}{K:List Nat}{fs fo rid n t nb i d1 d2:Nat}{o1 o2:Oper}{tys:Array TypeId}{l r:List α}{cd:Code}{st0 st1:ak}(s:ye P T e c)(hS:Aw P fs (P.cellsOf e))(hsc:(P.underlying T).any qq=true)
  (hcc:∀x y r,ord x y=some r->CC P GE fo [.agg (c x),.agg (c y)] (.int .i64 r) []) (hof:∀vs w,(callFunc fo vs).run P w=.ok (.enter fo vs) w)
  (hfl:∀x,∀q∈c x,yQ K q/\q.kd∈K/\q.kd≠0) (hcd:cd=.region rid #[o1,o2] false) (h1:o1.op=.load T (.tmp t)) (h1d:o1.dst=some d1) (h1g:o1.guard=none)
  (h2:o2.op=.call {callee:=.value (.func fs),args:=#[.tmp d1,.func fo],argTypes:=tys}) (h2d:o2.dst=some d2) (h2g:o2.guard=none)
  (hn:decide (t<n)&&(decide (d1<n)&&(decide (d2<n)&&(decide (t≠d1)&&(decide (t≠d2)&&decide (i<nb)))))=true) (h0:st0=lx n t nb i (sl c l) e) (h00:st1=lx n t nb i (sl c r) e) (hs:qr ord l=some r):
  aQ P GE 0 cd (EX .normal st1) st0:=by
 simp only[vac,vae]at hn
 obtain⟨a1,a2,a3,a4,a5,a6⟩:=hn
 subst hcd;subst h0;subst h00
 exact Ao s hS hsc hcc hof hfl h1 h1d h1g h2 h2d h2g ⟨a1,a2,a3,a4,a5⟩ a6 hs
end
section
variable{P:Program}{ρ:Ren}
theorem Df(L:SlLaysF0.n6 P ρ){fs e:Nat}(hf:ρ.f 6=fs)(he:ρ.t 24=e)(ha:(P.underlying e).any Dr=true)(hi:(P.info? e).isSome=true)(hcall:∀vs w,(callFunc fs vs).run P w=.ok (.enter fs vs) w):Aw P fs (P.cellsOf e):=by
 subst hf;subst he
 obtain⟨i0,hi0⟩:=vaz.1 hi
 have hagg:∀w,(Go.isAgg (ρ.t 24)).run P w=.ok true w:=fun w=>by
  cases hd:P.underlying (ρ.t 24)with
  |none=>rw[hd]at ha;cases ha
  |some d=>
   rw[hd]at ha
   cases d<;>simp[Dr]at ha<;>simp[Go.isAgg,run_underlying hd]
 refine⟨hcall,fun enc cf g blk cap d w hk h1 hO eg hcmp hH hb hs=>?_,fun p cap fv w=>AnyF.slices_SortFunc_none L p cap fv w⟩
 exact AnyQ.slices_SortFunc L (P.cellsOf (ρ.t 24)) hagg (fun w=>run_sizeOf w hi0) enc hk h1 cf hO g #[] blk 0 cap d w eg hcmp hH hb hs
end
open Go Go.Proofs.Tryd
set_option maxRecDepth 100000
theorem Br(x:aa):∀q∈ae x,yQ [3,4] q/\q.kd∈[3,4]/\q.kd≠0:=by
 intro q hq
 rw[cP]at hq
 simp only[vay,vb7,or_false]at hq
 rcases hq with rfl|rfl|rfl
 ·exact⟨trivial,by simp[PVal.kd],by simp[PVal.kd]⟩
 ·exact⟨trivial,by simp[PVal.kd],by simp[PVal.kd]⟩
 ·refine⟨fun e he q hq=>?_,by simp[PVal.kd,sl],by simp[PVal.kd,sl]⟩
  obtain⟨y,_,rfl⟩:=vas.1 he
  rw[pK]at hq
  simp only[vay,vb7,or_false]at hq
  rcases hq with rfl|rfl|rfl
  all_goals exact⟨by simp[PVal.kd],by simp[PVal.kd]⟩
theorem DR:Aw Pg 38 (Pg.cellsOf 24):=Df Tryd.sf38 rfl rfl (by kernel_rfl) (by kernel_rfl) call38
theorem Be:kC Pg 37 43:=Bf Tryd.lc37 rfl rfl (by kernel_rfl) call37
theorem zH{l r:List ag}(h:qA l=some r):CC Pg GE 37 [sl am l] (sl am r) [(0,43)]:=gR.cloneCC Be h
def AN(n:Int):Option ah:=if(decide (-9223372036854775808<=n)&&decide (n<=9223372036854775807))=true then some (Lib.itoa n)else none
theorem C5:fl=Lib.pow10Tab:=by kernel_rfl
theorem AO{n:Int}{r:ah}(h:AN n=some r):CC Pg GE 31 [.int .i64 n] (.str r) []:=by
 rcases bG h with⟨b,h⟩|⟨b,h⟩
 ·obtain rfl:=lf h
  simp only[vac,vae]at b
  refine CC.grownIS call31 fun E Γ bs ow w a st hE hS=>?_
  have htab:Lib.TabIs Pg w "internal/strconv.uint64pow10" .u64 Lib.pow10Tab:=E0 hS (g:=1) (by rw[hE,←C5];simp[GE]) (by kernel_rfl)
  refine(Any.strconv_Itoa Tryd.laysM171 n b.1 b.2 w htab).mono fun e w' he=>?_
  obtain⟨rfl,k,os,rfl⟩:=he
  exact⟨rfl,.of_grow _ _ _⟩
 ·cases h
noncomputable def b9:Code:=Tryd.f9.body.getD .skip
def A9:List Nat:=[]
section
variable(n:Int)(v:waA)(t8:Int)(t9:Int)
def iI:ak:=da 22 [(0,.int .i64 n),(1,sl ae v),(7,sl ae v),(8,.int .i64 t8),(9,.int .i64 t9)] [] []
def iJ(o:Unit⊕(Unit)):Exit:=match o with
 |(.inl _)=>.ret
 |(.inr _)=>.exit 0
def gD(o:Unit⊕(Unit)):ak:=match o with
 |(.inl o)=>da 22 [(4,.bool false)] [] []
 |(.inr o)=>da 22 [(0,.int .i64 n),(1,sl ae v)] [] []
def nv:Option (Int⊕(Unit⊕(Unit))):=
 if(decide (t9<t8))=true then
  (d9 v t9).bind fun x2=>
  if(decide ((x2.Arcs.length:Int)>40))=true then
   some (.inr (.inl ()))
  else
   some (.inl (bN (t9+1)))
 else
  some (.inr (.inr ()))
def qv:Option (Unit⊕(Unit)):=loop (fun(zz:Int)=>nv v t8 zz) t9
theorem ur{y:Int⊕(Unit⊕(Unit))}(h:nv v t8 t9=some y):aQ Pg GE 0 (cA b9 55) (LQ (fun(zz:Int)=>iI n v t8 zz) iJ (gD n v) y) (iI n v t8 t9):=by
 rcases bG h with⟨c1,h⟩|⟨c1,h⟩
 ·obtain⟨x2,bx2,h⟩:=aJ h
  have p4:=fun{sc F} (r:PS sc F)=>sg 0 c1<|sv (fW.ia (k:=.i64) bx2)<|sv (cQ x2)<|sx vL<|sx (ig x2)<|ss<|ke (gR.ln x2.Arcs)<|r
  rcases bG h with⟨c3,h⟩|⟨c3,h⟩
  ·obtain rfl:=lf h
   have z:=p4<|sg 0 c3<|tk 0 (iJ (.inl ())) (gD n v (.inl ())) rfl (eG (aI trivial trivial)) trivial
   exact nN (A:=A9) mixed (by intro hx;cases hx) z<|by kernel_rfl
  ·obtain rfl:=lf h
   have z:=p4<|sg 0 c3<|tk 0 .normal (iI n v t8 (bN (t9+1))) rfl (eG (aI trivial (aI (up (au af v)) (aI (up (au af v)) (aI trivial (aI trivial trivial)))))) trivial
   exact gn (A:=A9) mixed z<|by kernel_rfl
 ·obtain rfl:=lf h
  have z:=sg 0 c1<|eF (iJ (.inr ())) (gD n v (.inr ()))
  exact pO A9 (by intro hx;cases hx) z<|by kernel_rfl
theorem qb{x:Unit⊕(Unit)}(h:qv v t8 t9=some x):aQ Pg GE 0 (.loop (cA b9 55)) (EX (iJ x) (gD n v x)) (iI n v t8 t9):=
 aQ.loop (S:=fun(zz:Int)=>iI n v t8 zz) (ex:=iJ) (s:=t9) h fun zz y hy=>ur n v t8 zz hy
end
def tU(n:Int)(a:waA):Option Bool:=
 (qv a (a.length:Int) 0).bind fun o5=>match o5 with
 |(.inl o5)=>
  some false
 |(.inr o5)=>
  some (decide ((a.length:Int)<=n))
theorem ut{n:Int}{a:waA}{r:Bool}(h:tU n a=some r):CC Pg GE 9 [.int .i64 n,sl ae a] (.bool r) []:=by
 obtain⟨o5,bo5,h⟩:=aJ h
 rcases o5 with o5|o5
 ·obtain rfl:=lf h
  have z:=ke (fW.ln a)<|iw (e:=.ret) (s1:=gD n a (.inl o5)) (qb n a (a.length:Int) 0 bo5)<|en (aI (rP (.bool false))<|trivial)
  exact cW A9 call9 func9 (c:=b9) rfl (aI trivial (aI (au af a) trivial)) z<|by kernel_rfl
 ·obtain rfl:=lf h
  have z:=ke (fW.ln a)<|iw (e:=.exit 0) (s1:=gD n a (.inr o5)) (qb n a (a.length:Int) 0 bo5)<|ke (fW.ln a)<|en (aI (rP (.bool (decide ((a.length:Int)<=n))))<|trivial)
  exact cW A9 call9 func9 (c:=b9) rfl (aI trivial (aI (au af a) trivial)) z<|by kernel_rfl
noncomputable def Gw:Code:=f33.body.getD .skip
def Gp:List Nat:=[20]
section
variable(t13:(List j0))(t14:Int)(m:waB)(m2:ah)(m3:ah)(t15:Int)(m4:waB)
def fZ:ak:=da 34 [(6,.bptr 0 0),(7,.bptr 1 0),(13,sl iL t13),(14,.int .i64 t14),(15,.int .i64 t15)] [.cells [.str ([]:ah),.str ([]:ah),sl am m] [(2,43)],.cells [.str m2,.str m3,sl am m4] [(2,43)]] []
def kN(o:waB):ak:=da 34 [(6,.bptr 0 0),(7,.bptr 1 0)] [.cells [.str ([]:ah),.str ([]:ah),sl am m] [(2,43)],.cells [.str m2,.str m3,sl am o] [(2,43)]] []
def oT:Option ((Int×waB)⊕(waB)):=
 if(decide (t15<t14))=true then
  (d9 t13 t15).bind fun x2=>
  (oH 3 0).bind fun i3=>
  (oH 3 1).bind fun i4=>
  (oH 3 2).bind fun i5=>
  (app m4 ([(⟨x2 (0+i3 * 1),x2 (0+i4 * 1),(x2 (0+i5 * 1))==1⟩:ag)]:List ag)).bind fun l6=>
  some (.inl (bN (t15+1),l6))
 else
  some (.inr m4)
def q6:Option waB:=loop (fun(zz:Int×waB)=>oT t13 t14 zz.1 zz.2) (t15,m4)
theorem sj{y:(Int×waB)⊕(waB)}(h:oT t13 t14 t15 m4=some y):aQ Pg GE 0 (cA Gw 119) (LQ (fun(zz:Int×waB)=>fZ t13 t14 m m2 m3 zz.1 zz.2) (fun _=>.exit 0) (kN m m2 m3) y) (fZ t13 t14 m m2 m3 t15 m4):=by
 rcases bG h with⟨c1,h⟩|⟨c1,h⟩
 ·obtain⟨x2,bx2,h⟩:=aJ h
  obtain⟨i3,bi3,h⟩:=aJ h
  obtain⟨i4,bi4,h⟩:=aJ h
  obtain⟨i5,bi5,h⟩:=aJ h
  obtain⟨l6,bl6,h⟩:=aJ h
  obtain rfl:=lf h
  have z:=sg 0 c1<|sv (xV.ia (k:=.i64) bx2)<|sv (DF x2)<|sx GL<|sx (jV x2)<|sv (Ep (b:=2) (off:=0) (k:=.i64) bi3)<|sv (Er (x:=x2) (GG bi3))<|sv (Ep (b:=2) (off:=0) (k:=.i64) bi4)<|sv (Er (x:=x2) (GG bi4))<|sv (Ep (b:=2) (off:=0) (k:=.i64) bi5)<|sv (Er (x:=x2) (GG bi5))<|sv (qe (x2 (0+i3 * 1)) (x2 (0+i4 * 1)) ((x2 (0+i5 * 1))==1))<|sv (gR.mk' (v:=Ap) y8 ([(⟨x2 (0+i3 * 1),x2 (0+i4 * 1),(x2 (0+i5 * 1))==1⟩:ag)]:List ag) 1 (by kernel_rfl))<|sv (gR.ap bl6)<|tk 0 .normal (fZ t13 t14 m m2 m3 (bN (t15+1)) l6) rfl (eG (aI (jU rfl) (aI (jU rfl) (aI (up (au xh t13)) (aI trivial (aI trivial trivial)))))) (aI (aI trivial (aI trivial (aI (up (au aA m)) trivial))) (aI (aI trivial (aI trivial (aI (up (au aA l6)) trivial))) trivial))
  exact gn (A:=Gp) mixed z<|by kernel_rfl
 ·obtain rfl:=lf h
  have z:=sg 0 c1<|eF (.exit 0) (kN m m2 m3 m4)
  exact pO Gp (by intro hx;cases hx) z<|by kernel_rfl
theorem tK{x:waB}(h:q6 t13 t14 t15 m4=some x):aQ Pg GE 0 (.loop (cA Gw 119)) (EX (.exit 0) (kN m m2 m3 x)) (fZ t13 t14 m m2 m3 t15 m4):=
 aQ.loop (S:=fun(zz:Int×waB)=>fZ t13 t14 m m2 m3 zz.1 zz.2) (ex:=(fun _=>.exit 0)) (s:=(t15,m4)) h fun zz y hy=>sj t13 t14 m m2 m3 zz.1 zz.2 hy
end
def im(a:ah)(to:ah)(arcs:(List j0)):Option aa:=
 (q6 arcs (arcs.length:Int) 0 ([]:List ag)).bind fun o7=>
 some (⟨a,to,o7⟩:aa)
theorem fa{a:ah}{to:ah}{arcs:(List j0)}{r:aa}(h:im a to arcs=some r):CC Pg GE 33 [.str a,.str to,sl iL arcs] (.agg (ae r)) [(2,43)]:=by
 obtain⟨o7,bo7,h⟩:=aJ h
 obtain rfl:=lf h
 have z:=sx vL<|sb (qf a to) (qc a to)<|sx vL<|sy (cP (⟨a,to,([]:List ag)⟩:aa))<|ke (xV.ln arcs)<|iw (tK arcs (arcs.length:Int) ([]:List ag) a to 0 ([]:List ag) bo7)<|sz (cR (⟨a,to,o7⟩:aa) [])<|sy (cP (⟨a,to,o7⟩:aa))<|en (aI (jm (⟨a,to,o7⟩:aa))<|aI (af (⟨a,to,o7⟩:aa))<|rT)
 exact cW Gp call33 func33 (c:=Gw) rfl (aI trivial (aI trivial (aI (au xh arcs) trivial))) z<|by kernel_rfl
noncomputable def Gf:Code:=f44.body.getD .skip
def Fg:List Nat:=[23]
section
variable(s:ah)(i:Int)
def gg:ak:=da 24 [(0,.str s),(5,.int .i64 i)] [] []
def gj(o:(ah×ah)⊕(Unit)):Exit:=match o with
 |(.inl _)=>.ret
 |(.inr _)=>.exit 0
def eI(o:(ah×ah)⊕(Unit)):ak:=match o with
 |(.inl o)=>da 24 [(2,.str o.1),(3,.str o.2),(4,.bool true)] [] []
 |(.inr o)=>da 24 [(0,.str s)] [] []
def gh:Option (Int⊕((ah×ah)⊕(Unit))):=
 if(decide (i<(s.length:Int)))=true then
  (gQ s i).bind fun c2=>
  if(c2==46)=true then
   (zp s none (some i)).bind fun s5=>
   (zp s (some (bN (i+1))) none).bind fun s6=>
   some (.inr (.inl (s5,s6)))
  else
   some (.inl (bN (i+1)))
 else
  some (.inr (.inr ()))
def nJ:Option ((ah×ah)⊕(Unit)):=loop (fun(zz:Int)=>gh s zz) i
theorem sI{y:Int⊕((ah×ah)⊕(Unit))}(h:gh s i=some y):aQ Pg GE 0 (cA Gf 55) (LQ (fun(zz:Int)=>gg s zz) gj (eI s) y) (gg s i):=by
 rcases bG h with⟨c1,h⟩|⟨c1,h⟩
 ·obtain⟨c2,bc2,h⟩:=aJ h
  have p4:=fun{sc F} (r:PS sc F)=>ke (mZ underlying9 s)<|sg 0 c1<|sv (oh (k:=.i64) underlying9 bc2)<|r
  rcases bG h with⟨c3,h⟩|⟨c3,h⟩
  ·obtain⟨s5,bs5,h⟩:=aJ h
   obtain⟨s6,bs6,h⟩:=aJ h
   obtain rfl:=lf h
   have z:=p4<|sg 0 c3<|Am [0,0,3,0,0,16,56,7,255,511]<|sv (D9 underlying9 bs5)<|sv (D9 underlying9 bs6)<|eF (gj (.inl (s5,s6))) (eI s (.inl (s5,s6)))
   exact pO Fg (by intro hx;cases hx) z<|by kernel_rfl
  ·obtain rfl:=lf h
   exact zA Fg (p4<|sg 0 c3<|eF .normal (gg s (bN (i+1))))<|by kernel_rfl
 ·obtain rfl:=lf h
  have z:=ke (mZ underlying9 s)<|sg 0 c1<|eF (gj (.inr ())) (eI s (.inr ()))
  exact pO Fg (by intro hx;cases hx) z<|by kernel_rfl
theorem oc{x:(ah×ah)⊕(Unit)}(h:nJ s i=some x):aQ Pg GE 0 (.loop (cA Gf 55)) (EX (gj x) (eI s x)) (gg s i):=
 aQ.loop (S:=fun(zz:Int)=>gg s zz) (ex:=gj) (s:=i) h fun zz y hy=>sI s zz hy
end
def mK(s:ah):Option (ah×ah×Bool):=
 (nJ s 0).bind fun o7=>match o7 with
 |(.inl o7)=>
  some (o7.1,o7.2,true)
 |(.inr o7)=>
  some (s,([]:ah),false)
theorem ry{s:ah}{r:ah×ah×Bool}(h:mK s=some r):CC Pg GE 44 [.str s] (.tuple [.str r.1,.str r.2.1,.bool r.2.2]) []:=by
 obtain⟨o7,bo7,h⟩:=aJ h
 rcases o7 with o7|o7
 ·obtain rfl:=lf h
  have z:=iw (e:=.ret) (s1:=eI s (.inl o7)) (oc s 0 bo7)<|en (aI (rP (.tuple [.str o7.1,.str o7.2,.bool true]))<|(aI trivial (aI trivial (aI trivial trivial))))
  exact cW Fg call44 func44 (c:=Gf) rfl (aI trivial trivial) z<|by kernel_rfl
 ·obtain rfl:=lf h
  have z:=iw (e:=.exit 0) (s1:=eI s (.inr o7)) (oc s 0 bo7)<|en (aI (rP (.tuple [.str s,.str ([]:ah),.bool false]))<|(aI trivial (aI trivial (aI trivial trivial))))
  exact cW Fg call44 func44 (c:=Gf) rfl (aI trivial trivial) z<|by kernel_rfl
noncomputable def G4:Code:=f47.body.getD .skip
def GU:List Nat:=[]
def ir(s:ah):Option Bool:=
 if(decide ((s.length:Int)>=1))=true then
  some (decide ((s.length:Int)<=24))
 else
  some false
theorem eJ{s:ah}{r:Bool}(h:ir s=some r):CC Pg GE 47 [.str s] (.bool r) []:=by
 rcases bG h with⟨c1,h⟩|⟨c1,h⟩
 ·obtain rfl:=lf h
  have z:=ke (mZ underlying9 s)<|sg 4 c1<|ke (mZ underlying9 s)<|en (aI (rP (.bool (decide ((s.length:Int)<=24))))<|trivial)
  exact cW GU call47 func47 (c:=G4) rfl (aI trivial trivial) z<|by kernel_rfl
 ·obtain rfl:=lf h
  have z:=ke (mZ underlying9 s)<|sg 4 c1<|en (aI (rP (.bool false))<|trivial)
  exact cW GU call47 func47 (c:=G4) rfl (aI trivial trivial) z<|by kernel_rfl
noncomputable def G6:Code:=f66.body.getD .skip
def GW:List Nat:=[]
def gm(c:Int):Option Bool:=
 if(decide (97<=c))=true then
  some (decide (c<=122))
 else
  some false
theorem iR{c:Int}{r:Bool}(h:gm c=some r):CC Pg GE 66 [.int .u8 c] (.bool r) []:=by
 rcases bG h with⟨c1,h⟩|⟨c1,h⟩
 ·obtain rfl:=lf h
  have z:=sg 3 c1<|en (aI (rP (.bool (decide (c<=122))))<|trivial)
  exact cW GW call66 func66 (c:=G6) rfl (aI trivial trivial) z<|by kernel_rfl
 ·obtain rfl:=lf h
  have z:=sg 3 c1<|en (aI (rP (.bool false))<|trivial)
  exact cW GW call66 func66 (c:=G6) rfl (aI trivial trivial) z<|by kernel_rfl
noncomputable def Gi:Code:=f67.body.getD .skip
def Fj:List Nat:=[]
section
variable(s:ah)(t6:Int)
def dI:ak:=da 13 [(0,.str s),(5,.agg (aT.map PVal.str)),(6,.int .i64 t6)] [] []
def dK(o:Unit⊕(Unit)):Exit:=match o with
 |(.inl _)=>.ret
 |(.inr _)=>.exit 0
def cT(o:Unit⊕(Unit)):ak:=match o with
 |(.inl o)=>da 13 [(2,.bool true)] [] []
 |(.inr o)=>da 13 [] [] []
def dJ:Option (Int⊕(Unit⊕(Unit))):=
 if(decide (t6<42))=true then
  (d9 aT t6).bind fun x2=>
  if(x2==s)=true then
   some (.inr (.inl ()))
  else
   some (.inl (bN (t6+1)))
 else
  some (.inr (.inr ()))
def jl:Option (Unit⊕(Unit)):=loop (fun(zz:Int)=>dJ s zz) t6
theorem pg{y:Int⊕(Unit⊕(Unit))}(h:dJ s t6=some y):aQ Pg GE 0 (cA Gi 55) (LQ (fun(zz:Int)=>dI s zz) dK cT y) (dI s t6):=by
 rcases bG h with⟨c1,h⟩|⟨c1,h⟩
 ·obtain⟨x2,bx2,h⟩:=aJ h
  have p4:=fun{sc F} (r:PS sc F)=>sg 0 c1<|sv (rz (k:=.i64) bx2)<|r
  rcases bG h with⟨c3,h⟩|⟨c3,h⟩
  ·obtain rfl:=lf h
   have z:=p4<|sg 0 c3<|eF (dK (.inl ())) (cT (.inl ()))
   exact pO Fj (by intro hx;cases hx) z<|by kernel_rfl
  ·obtain rfl:=lf h
   exact zA Fj (p4<|sg 0 c3<|eF .normal (dI s (bN (t6+1))))<|by kernel_rfl
 ·obtain rfl:=lf h
  have z:=sg 0 c1<|eF (dK (.inr ())) (cT (.inr ()))
  exact pO Fj (by intro hx;cases hx) z<|by kernel_rfl
theorem j9{x:Unit⊕(Unit)}(h:jl s t6=some x):aQ Pg GE 0 (.loop (cA Gi 55)) (EX (dK x) (cT x)) (dI s t6):=
 aQ.loop (S:=fun(zz:Int)=>dI s zz) (ex:=dK) (s:=t6) h fun zz y hy=>pg s zz hy
end
def jB(s:ah):Option Bool:=
 (jl s 0).bind fun o5=>match o5 with
 |(.inl o5)=>
  some true
 |(.inr o5)=>
  some false
theorem sH{s:ah}{r:Bool}(h:jB s=some r):CC Pg GE 67 [.str s] (.bool r) []:=by
 obtain⟨o5,bo5,h⟩:=aJ h
 rcases o5 with o5|o5
 ·obtain rfl:=lf h
  have z:=sv lP<|iw (e:=.ret) (s1:=cT (.inl o5)) (j9 s 0 bo5)<|en (aI (rP (.bool true))<|trivial)
  exact cW Fj call67 func67 (c:=Gi) rfl (aI trivial trivial) z<|by kernel_rfl
 ·obtain rfl:=lf h
  have z:=sv lP<|iw (e:=.exit 0) (s1:=cT (.inr o5)) (j9 s 0 bo5)<|en (aI (rP (.bool false))<|trivial)
  exact cW Fj call67 func67 (c:=Gi) rfl (aI trivial trivial) z<|by kernel_rfl
noncomputable def G7:Code:=f68.body.getD .skip
def GX:List Nat:=[]
def iq(c:Int):Option Bool:=
 if(decide (48<=c))=true then
  some (decide (c<=57))
 else
  some false
theorem kU{c:Int}{r:Bool}(h:iq c=some r):CC Pg GE 68 [.int .u8 c] (.bool r) []:=by
 rcases bG h with⟨c1,h⟩|⟨c1,h⟩
 ·obtain rfl:=lf h
  have z:=sg 3 c1<|en (aI (rP (.bool (decide (c<=57))))<|trivial)
  exact cW GX call68 func68 (c:=G7) rfl (aI trivial trivial) z<|by kernel_rfl
 ·obtain rfl:=lf h
  have z:=sg 3 c1<|en (aI (rP (.bool false))<|trivial)
  exact cW GX call68 func68 (c:=G7) rfl (aI trivial trivial) z<|by kernel_rfl
noncomputable def Et:Code:=f45.body.getD .skip
def B3:List Nat:=[]
section
variable(s:ah)
def tO:ak:=da 41 [(0,.str s)] [] []
def g9(o:Bool):ak:=da 41 [(0,.str s),(16,.bool o)] [] []
def jC:Option Bool:=
 (ir s).bind fun r1=>
 if(!r1)=true then
  some true
 else
  (gQ s 0).bind fun c3=>
  (gm c3).bind fun r4=>
  if(!r4)=true then
   some true
  else
   (jB s).bind fun r7=>
   some r7
theorem sK{x:Bool}(h:jC s=some x):aQ Pg GE 0 (cA Et 12) (EX .normal (g9 s x)) (tO s):=by
 obtain⟨r1,br1,h⟩:=aJ h
 rcases bG h with⟨c2,h⟩|⟨c2,h⟩
 ·obtain rfl:=lf h
  exact jZ B3 (d7 (eJ br1)<|sg 4 c2<|eF .normal (g9 s true))<|by kernel_rfl
 ·obtain⟨c3,bc3,h⟩:=aJ h
  obtain⟨r4,br4,h⟩:=aJ h
  have p6:=fun{sc F} (r:PS sc F)=>d7 (eJ br1)<|sg 4 c2<|sv (oh (k:=.i64) underlying9 bc3)<|d7 (iR br4)<|r
  rcases bG h with⟨c5,h⟩|⟨c5,h⟩
  ·obtain rfl:=lf h
   exact jZ B3 (p6<|sg 10 c5<|eF .normal (g9 s true))<|by kernel_rfl
  ·obtain⟨r7,br7,h⟩:=aJ h
   obtain rfl:=lf h
   exact jZ B3 (p6<|sg 10 c5<|d7 (sH br7)<|eF .normal (g9 s r7))<|by kernel_rfl
end
section
variable(s:ah)(i:Int)
def tP:ak:=da 41 [(0,.str s),(3,.int .i64 i)] [] []
def hU(o:Bool):ak:=da 41 [(0,.str s),(3,.int .i64 i),(40,.bool o)] [] []
def jD:Option Bool:=
 (gQ s i).bind fun c12=>
 (gm c12).bind fun r13=>
 if(!r13)=true then
  (gQ s i).bind fun c16=>
  (iq c16).bind fun r17=>
  if(!r17)=true then
   (gQ s i).bind fun c20=>
   some (c20 !=95)
  else
   some false
 else
  some false
theorem sM{x:Bool}(h:jD s i=some x):aQ Pg GE 0 (cA Et 1914) (EX .normal (hU s i x)) (tP s i):=by
 obtain⟨c12,bc12,h⟩:=aJ h
 obtain⟨r13,br13,h⟩:=aJ h
 have p15:=fun{sc F} (r:PS sc F)=>sv (oh (k:=.i64) underlying9 bc12)<|d7 (iR br13)<|r
 rcases bG h with⟨c14,h⟩|⟨c14,h⟩
 ·obtain⟨c16,bc16,h⟩:=aJ h
  obtain⟨r17,br17,h⟩:=aJ h
  have p19:=fun{sc F} (r:PS sc F)=>p15<|sg 6 c14<|sv (oh (k:=.i64) underlying9 bc16)<|d7 (kU br17)<|r
  rcases bG h with⟨c18,h⟩|⟨c18,h⟩
  ·obtain⟨c20,bc20,h⟩:=aJ h
   obtain rfl:=lf h
   exact jZ B3 (p19<|sg 13 c18<|sv (oh (k:=.i64) underlying9 bc20)<|eF .normal (hU s i (c20 !=95)))<|by kernel_rfl
  ·obtain rfl:=lf h
   exact jZ B3 (p19<|sg 13 c18<|eF .normal (hU s i false))<|by kernel_rfl
 ·obtain rfl:=lf h
  exact jZ B3 (p15<|sg 6 c14<|eF .normal (hU s i false))<|by kernel_rfl
end
section
variable(s:ah)(i:Int)
def ft:ak:=da 41 [(0,.str s),(3,.int .i64 i)] [] []
def fu(o:Unit⊕(Unit)):Exit:=match o with
 |(.inl _)=>.ret
 |(.inr _)=>.exit 0
def ec(o:Unit⊕(Unit)):ak:=match o with
 |(.inl o)=>da 41 [(2,.bool false)] [] []
 |(.inr o)=>da 41 [] [] []
def h9:Option (Int⊕(Unit⊕(Unit))):=
 if(decide (i<(s.length:Int)))=true then
  (jD s i).bind fun o21=>
  if o21=true then
   some (.inr (.inl ()))
  else
   some (.inl (bN (i+1)))
 else
  some (.inr (.inr ()))
def jE:Option (Unit⊕(Unit)):=loop (fun(zz:Int)=>h9 s zz) i
theorem rA{y:Int⊕(Unit⊕(Unit))}(h:h9 s i=some y):aQ Pg GE 0 (cA Et 119) (LQ (fun(zz:Int)=>ft s zz) fu ec y) (ft s i):=by
 rcases bG h with⟨c11,h⟩|⟨c11,h⟩
 ·obtain⟨o21,bo21,h⟩:=aJ h
  have p23:=fun{sc F} (r:PS sc F)=>ke (mZ underlying9 s)<|sg 0 c11<|vY 1<|iw (sM s i bo21)<|r
  rcases bG h with⟨c22,h⟩|⟨c22,h⟩
  ·obtain rfl:=lf h
   have z:=p23<|sg 0 c22<|eF (fu (.inl ())) (ec (.inl ()))
   exact pO B3 (by intro hx;cases hx) z<|by kernel_rfl
  ·obtain rfl:=lf h
   exact zA B3 (p23<|sg 0 c22<|eF .normal (ft s (bN (i+1))))<|by kernel_rfl
 ·obtain rfl:=lf h
  have z:=ke (mZ underlying9 s)<|sg 0 c11<|eF (fu (.inr ())) (ec (.inr ()))
  exact pO B3 (by intro hx;cases hx) z<|by kernel_rfl
theorem mL{x:Unit⊕(Unit)}(h:jE s i=some x):aQ Pg GE 0 (.loop (cA Et 119)) (EX (fu x) (ec x)) (ft s i):=
 aQ.loop (S:=fun(zz:Int)=>ft s zz) (ex:=fu) (s:=i) h fun zz y hy=>rA s zz hy
end
def nK(s:ah):Option Bool:=
 (jC s).bind fun o8=>
 if o8=true then
  some false
 else
  (jE s 1).bind fun o24=>match o24 with
  |(.inl o24)=>
   some false
  |(.inr o24)=>
   some true
theorem qo{s:ah}{r:Bool}(h:nK s=some r):CC Pg GE 45 [.str s] (.bool r) []:=by
 obtain⟨o8,bo8,h⟩:=aJ h
 have p10:=fun{sc F} (r:PS sc F)=>vY 2<|iw (sK s bo8)<|r
 rcases bG h with⟨c9,h⟩|⟨c9,h⟩
 ·obtain rfl:=lf h
  have z:=p10<|sg 0 c9<|en (aI (rP (.bool false))<|trivial)
  exact cW B3 call45 func45 (c:=Et) rfl (aI trivial trivial) z<|by kernel_rfl
 ·obtain⟨o24,bo24,h⟩:=aJ h
  rcases o24 with o24|o24
  ·obtain rfl:=lf h
   have z:=p10<|sg 0 c9<|iw (e:=.ret) (s1:=ec (.inl o24)) (mL s 1 bo24)<|en (aI (rP (.bool false))<|trivial)
   exact cW B3 call45 func45 (c:=Et) rfl (aI trivial trivial) z<|by kernel_rfl
  ·obtain rfl:=lf h
   have z:=p10<|sg 0 c9<|iw (e:=.exit 0) (s1:=ec (.inr o24)) (mL s 1 bo24)<|en (aI (rP (.bool true))<|trivial)
   exact cW B3 call45 func45 (c:=Et) rfl (aI trivial trivial) z<|by kernel_rfl
noncomputable def G8:Code:=f69.body.getD .skip
def GY:List Nat:=[]
def gY(c:Int):Option Bool:=
 if(decide (65<=c))=true then
  some (decide (c<=90))
 else
  some false
theorem mJ{c:Int}{r:Bool}(h:gY c=some r):CC Pg GE 69 [.int .u8 c] (.bool r) []:=by
 rcases bG h with⟨c1,h⟩|⟨c1,h⟩
 ·obtain rfl:=lf h
  have z:=sg 3 c1<|en (aI (rP (.bool (decide (c<=90))))<|trivial)
  exact cW GY call69 func69 (c:=G8) rfl (aI trivial trivial) z<|by kernel_rfl
 ·obtain rfl:=lf h
  have z:=sg 3 c1<|en (aI (rP (.bool false))<|trivial)
  exact cW GY call69 func69 (c:=G8) rfl (aI trivial trivial) z<|by kernel_rfl
noncomputable def FE:Code:=f48.body.getD .skip
def DW:List Nat:=[]
section
variable(s:ah)(i:Int)
def mH:ak:=da 29 [(0,.str s),(3,.int .i64 i)] [] []
def di(o:Bool):ak:=da 29 [(0,.str s),(3,.int .i64 i),(28,.bool o)] [] []
def dS:Option Bool:=
 (gQ s i).bind fun c2=>
 (gm c2).bind fun r3=>
 if(!r3)=true then
  (gQ s i).bind fun c6=>
  (gY c6).bind fun r7=>
  if(!r7)=true then
   (gQ s i).bind fun c10=>
   (iq c10).bind fun r11=>
   some (!r11)
  else
   some false
 else
  some false
theorem mc{x:Bool}(h:dS s i=some x):aQ Pg GE 0 (cA FE 890) (EX .normal (di s i x)) (mH s i):=by
 obtain⟨c2,bc2,h⟩:=aJ h
 obtain⟨r3,br3,h⟩:=aJ h
 have p5:=fun{sc F} (r:PS sc F)=>sv (oh (k:=.i64) underlying9 bc2)<|d7 (iR br3)<|r
 rcases bG h with⟨c4,h⟩|⟨c4,h⟩
 ·obtain⟨c6,bc6,h⟩:=aJ h
  obtain⟨r7,br7,h⟩:=aJ h
  have p9:=fun{sc F} (r:PS sc F)=>p5<|sg 6 c4<|sv (oh (k:=.i64) underlying9 bc6)<|d7 (mJ br7)<|r
  rcases bG h with⟨c8,h⟩|⟨c8,h⟩
  ·obtain⟨c10,bc10,h⟩:=aJ h
   obtain⟨r11,br11,h⟩:=aJ h
   obtain rfl:=lf h
   exact jZ DW (p9<|sg 13 c8<|sv (oh (k:=.i64) underlying9 bc10)<|d7 (kU br11)<|eF .normal (di s i (!r11)))<|by kernel_rfl
  ·obtain rfl:=lf h
   exact jZ DW (p9<|sg 13 c8<|eF .normal (di s i false))<|by kernel_rfl
 ·obtain rfl:=lf h
  exact jZ DW (p5<|sg 6 c4<|eF .normal (di s i false))<|by kernel_rfl
end
section
variable(s:ah)(i:Int)
def bX:ak:=da 29 [(0,.str s),(3,.int .i64 i)] [] []
def bZ(o:Unit⊕(Unit)):Exit:=match o with
 |(.inl _)=>.ret
 |(.inr _)=>.exit 0
def bq(o:Unit⊕(Unit)):ak:=match o with
 |(.inl o)=>da 29 [(2,.bool false)] [] []
 |(.inr o)=>da 29 [] [] []
def bY:Option (Int⊕(Unit⊕(Unit))):=
 if(decide (i<(s.length:Int)))=true then
  (dS s i).bind fun o12=>
  if o12=true then
   some (.inr (.inl ()))
  else
   some (.inl (bN (i+1)))
 else
  some (.inr (.inr ()))
def fH:Option (Unit⊕(Unit)):=loop (fun(zz:Int)=>bY s zz) i
theorem lw{y:Int⊕(Unit⊕(Unit))}(h:bY s i=some y):aQ Pg GE 0 (cA FE 55) (LQ (fun(zz:Int)=>bX s zz) bZ bq y) (bX s i):=by
 rcases bG h with⟨c1,h⟩|⟨c1,h⟩
 ·obtain⟨o12,bo12,h⟩:=aJ h
  have p14:=fun{sc F} (r:PS sc F)=>ke (mZ underlying9 s)<|sg 0 c1<|vY 1<|iw (mc s i bo12)<|r
  rcases bG h with⟨c13,h⟩|⟨c13,h⟩
  ·obtain rfl:=lf h
   have z:=p14<|sg 0 c13<|eF (bZ (.inl ())) (bq (.inl ()))
   exact pO DW (by intro hx;cases hx) z<|by kernel_rfl
  ·obtain rfl:=lf h
   exact zA DW (p14<|sg 0 c13<|eF .normal (bX s (bN (i+1))))<|by kernel_rfl
 ·obtain rfl:=lf h
  have z:=ke (mZ underlying9 s)<|sg 0 c1<|eF (bZ (.inr ())) (bq (.inr ()))
  exact pO DW (by intro hx;cases hx) z<|by kernel_rfl
theorem gX{x:Unit⊕(Unit)}(h:fH s i=some x):aQ Pg GE 0 (.loop (cA FE 55)) (EX (bZ x) (bq x)) (bX s i):=
 aQ.loop (S:=fun(zz:Int)=>bX s zz) (ex:=bZ) (s:=i) h fun zz y hy=>lw s zz hy
end
def dL(s:ah):Option Bool:=
 (fH s 0).bind fun o15=>match o15 with
 |(.inl o15)=>
  some false
 |(.inr o15)=>
  some true
theorem jd{s:ah}{r:Bool}(h:dL s=some r):CC Pg GE 48 [.str s] (.bool r) []:=by
 obtain⟨o15,bo15,h⟩:=aJ h
 rcases o15 with o15|o15
 ·obtain rfl:=lf h
  have z:=iw (e:=.ret) (s1:=bq (.inl o15)) (gX s 0 bo15)<|en (aI (rP (.bool false))<|trivial)
  exact cW DW call48 func48 (c:=FE) rfl (aI trivial trivial) z<|by kernel_rfl
 ·obtain rfl:=lf h
  have z:=iw (e:=.exit 0) (s1:=bq (.inr o15)) (gX s 0 bo15)<|en (aI (rP (.bool true))<|trivial)
  exact cW DW call48 func48 (c:=FE) rfl (aI trivial trivial) z<|by kernel_rfl
noncomputable def Fb:Code:=f46.body.getD .skip
def DV:List Nat:=[]
section
variable(s:ah)
def sO:ak:=da 31 [(0,.str s)] [] []
def gG(o:Bool):ak:=da 31 [(0,.str s),(16,.bool o)] [] []
def iS:Option Bool:=
 (ir s).bind fun r1=>
 if(!r1)=true then
  some true
 else
  (gQ s 0).bind fun c3=>
  (gY c3).bind fun r4=>
  if(!r4)=true then
   some true
  else
   (dL s).bind fun r7=>
   some (!r7)
theorem rD{x:Bool}(h:iS s=some x):aQ Pg GE 0 (cA Fb 12) (EX .normal (gG s x)) (sO s):=by
 obtain⟨r1,br1,h⟩:=aJ h
 rcases bG h with⟨c2,h⟩|⟨c2,h⟩
 ·obtain rfl:=lf h
  exact jZ DV (d7 (eJ br1)<|sg 4 c2<|eF .normal (gG s true))<|by kernel_rfl
 ·obtain⟨c3,bc3,h⟩:=aJ h
  obtain⟨r4,br4,h⟩:=aJ h
  have p6:=fun{sc F} (r:PS sc F)=>d7 (eJ br1)<|sg 4 c2<|sv (oh (k:=.i64) underlying9 bc3)<|d7 (mJ br4)<|r
  rcases bG h with⟨c5,h⟩|⟨c5,h⟩
  ·obtain rfl:=lf h
   exact jZ DV (p6<|sg 10 c5<|eF .normal (gG s true))<|by kernel_rfl
  ·obtain⟨r7,br7,h⟩:=aJ h
   obtain rfl:=lf h
   exact jZ DV (p6<|sg 10 c5<|d7 (jd br7)<|eF .normal (gG s (!r7)))<|by kernel_rfl
end
def lQ(s:ah):Option Bool:=
 (iS s).bind fun o8=>
 if o8=true then
  some false
 else
  if (!(s == ([73,110,116]:ah))) = true then
   if(!(s==([66,111,111,108]:ah)))=true then
    if(!(s==([67,101,108,108]:ah)))=true then
     some (!(s==([70,117,110]:ah)))
    else
     some false
   else
    some false
  else
   some false
theorem u9{s:ah}{r:Bool}(h:lQ s=some r):CC Pg GE 46 [.str s] (.bool r) []:=by
 obtain⟨o8,bo8,h⟩:=aJ h
 have p10:=fun{sc F} (r:PS sc F)=>vY 2<|iw (rD s bo8)<|r
 rcases bG h with⟨c9,h⟩|⟨c9,h⟩
 ·obtain rfl:=lf h
  have z:=p10<|sg 0 c9<|en (aI (rP (.bool false))<|trivial)
  exact cW DV call46 func46 (c:=Fb) rfl (aI trivial trivial) z<|by kernel_rfl
 ·have p12:=fun{sc F} (r:PS sc F)=>p10<|sg 0 c9<|r
  rcases bG h with⟨c11,h⟩|⟨c11,h⟩
  ·have p14:=fun{sc F} (r:PS sc F)=>p12<|sg 3 c11<|r
   rcases bG h with⟨c13,h⟩|⟨c13,h⟩
   ·have p16:=fun{sc F} (r:PS sc F)=>p14<|sg 7 c13<|r
    rcases bG h with⟨c15,h⟩|⟨c15,h⟩
    ·obtain rfl:=lf h
     have z:=p16<|sg 11 c15<|en (aI (rP (.bool (!(s==([70,117,110]:ah)))))<|trivial)
     exact cW DV call46 func46 (c:=Fb) rfl (aI trivial trivial) z<|by kernel_rfl
    ·obtain rfl:=lf h
     have z:=p16<|sg 11 c15<|en (aI (rP (.bool false))<|trivial)
     exact cW DV call46 func46 (c:=Fb) rfl (aI trivial trivial) z<|by kernel_rfl
   ·obtain rfl:=lf h
    have z:=p14<|sg 7 c13<|en (aI (rP (.bool false))<|trivial)
    exact cW DV call46 func46 (c:=Fb) rfl (aI trivial trivial) z<|by kernel_rfl
  ·obtain rfl:=lf h
   have z:=p12<|sg 3 c11<|en (aI (rP (.bool false))<|trivial)
   exact cW DV call46 func46 (c:=Fb) rfl (aI trivial trivial) z<|by kernel_rfl
noncomputable def FF:Code:=f49.body.getD .skip
def Dk:List Nat:=[]
section
variable(s:ah)(i:Int)
def tQ:ak:=da 32 [(0,.str s),(3,.int .i64 i)] [] []
def fw(o:Bool):ak:=da 32 [(0,.str s),(3,.int .i64 i),(31,.bool o)] [] []
def jF:Option Bool:=
 (gQ s i).bind fun c2=>
 (gm c2).bind fun r3=>
 if (!r3) = true then
  if(i==0)=true then
   some true
  else
   (gQ s i).bind fun c8=>
   (iq c8).bind fun r9=>
   if(!r9)=true then
    (gQ s i).bind fun c12=>
    some (c12 !=95)
   else
    some false
 else
  some false
theorem sQ{x:Bool}(h:jF s i=some x):aQ Pg GE 0 (cA FF 890) (EX .normal (fw s i x)) (tQ s i):=by
 obtain⟨c2,bc2,h⟩:=aJ h
 obtain⟨r3,br3,h⟩:=aJ h
 have p5:=fun{sc F} (r:PS sc F)=>sv (oh (k:=.i64) underlying9 bc2)<|d7 (iR br3)<|r
 rcases bG h with⟨c4,h⟩|⟨c4,h⟩
 ·have p7:=fun{sc F} (r:PS sc F)=>p5<|sg 6 c4<|r
  rcases bG h with⟨c6,h⟩|⟨c6,h⟩
  ·obtain rfl:=lf h
   exact jZ Dk (p7<|sg 9 c6<|eF .normal (fw s i true))<|by kernel_rfl
  ·obtain⟨c8,bc8,h⟩:=aJ h
   obtain⟨r9,br9,h⟩:=aJ h
   have p11:=fun{sc F} (r:PS sc F)=>p7<|sg 9 c6<|sv (oh (k:=.i64) underlying9 bc8)<|d7 (kU br9)<|r
   rcases bG h with⟨c10,h⟩|⟨c10,h⟩
   ·obtain⟨c12,bc12,h⟩:=aJ h
    obtain rfl:=lf h
    exact jZ Dk (p11<|sg 15 c10<|sv (oh (k:=.i64) underlying9 bc12)<|eF .normal (fw s i (c12 !=95)))<|by kernel_rfl
   ·obtain rfl:=lf h
    exact jZ Dk (p11<|sg 15 c10<|eF .normal (fw s i false))<|by kernel_rfl
 ·obtain rfl:=lf h
  exact jZ Dk (p5<|sg 6 c4<|eF .normal (fw s i false))<|by kernel_rfl
end
section
variable(s:ah)(i:Int)
def fx:ak:=da 32 [(0,.str s),(3,.int .i64 i)] [] []
def fA(o:Unit⊕(Unit)):Exit:=match o with
 |(.inl _)=>.ret
 |(.inr _)=>.exit 0
def ed(o:Unit⊕(Unit)):ak:=match o with
 |(.inl o)=>da 32 [(2,.bool false)] [] []
 |(.inr o)=>da 32 [] [] []
def fy:Option (Int⊕(Unit⊕(Unit))):=
 if(decide (i<(s.length:Int)))=true then
  (jF s i).bind fun o13=>
  if o13=true then
   some (.inr (.inl ()))
  else
   some (.inl (bN (i+1)))
 else
  some (.inr (.inr ()))
def me:Option (Unit⊕(Unit)):=loop (fun(zz:Int)=>fy s zz) i
theorem rE{y:Int⊕(Unit⊕(Unit))}(h:fy s i=some y):aQ Pg GE 0 (cA FF 55) (LQ (fun(zz:Int)=>fx s zz) fA ed y) (fx s i):=by
 rcases bG h with⟨c1,h⟩|⟨c1,h⟩
 ·obtain⟨o13,bo13,h⟩:=aJ h
  have p15:=fun{sc F} (r:PS sc F)=>ke (mZ underlying9 s)<|sg 0 c1<|vY 1<|iw (sQ s i bo13)<|r
  rcases bG h with⟨c14,h⟩|⟨c14,h⟩
  ·obtain rfl:=lf h
   have z:=p15<|sg 0 c14<|eF (fA (.inl ())) (ed (.inl ()))
   exact pO Dk (by intro hx;cases hx) z<|by kernel_rfl
  ·obtain rfl:=lf h
   exact zA Dk (p15<|sg 0 c14<|eF .normal (fx s (bN (i+1))))<|by kernel_rfl
 ·obtain rfl:=lf h
  have z:=ke (mZ underlying9 s)<|sg 0 c1<|eF (fA (.inr ())) (ed (.inr ()))
  exact pO Dk (by intro hx;cases hx) z<|by kernel_rfl
theorem mM{x:Unit⊕(Unit)}(h:me s i=some x):aQ Pg GE 0 (.loop (cA FF 55)) (EX (fA x) (ed x)) (fx s i):=
 aQ.loop (S:=fun(zz:Int)=>fx s zz) (ex:=fA) (s:=i) h fun zz y hy=>rE s zz hy
end
def nL(s:ah):Option Bool:=
 (me s 0).bind fun o16=>match o16 with
 |(.inl o16)=>
  some false
 |(.inr o16)=>
  some true
theorem wr{s:ah}{r:Bool}(h:nL s=some r):CC Pg GE 49 [.str s] (.bool r) []:=by
 obtain⟨o16,bo16,h⟩:=aJ h
 rcases o16 with o16|o16
 ·obtain rfl:=lf h
  have z:=iw (e:=.ret) (s1:=ed (.inl o16)) (mM s 0 bo16)<|en (aI (rP (.bool false))<|trivial)
  exact cW Dk call49 func49 (c:=FF) rfl (aI trivial trivial) z<|by kernel_rfl
 ·obtain rfl:=lf h
  have z:=iw (e:=.exit 0) (s1:=ed (.inr o16)) (mM s 0 bo16)<|en (aI (rP (.bool true))<|trivial)
  exact cW Dk call49 func49 (c:=FF) rfl (aI trivial trivial) z<|by kernel_rfl
noncomputable def D0:Code:=f25.body.getD .skip
def As:List Nat:=[]
section
variable(first:ah)(rest:ah)(more:Bool)
def tM:ak:=da 52 [(3,.str first),(4,.str rest),(5,.bool more)] [] []
def fm(o:Bool):ak:=da 52 [(4,.str rest),(5,.bool more),(31,.bool o)] [] []
def jz:Option Bool:=
 (nK first).bind fun r3=>
 if (!r3) = true then
  (lQ first).bind fun r5=>
  if(!r5)=true then
   if(!(first==([118]:ah)))=true then
    some true
   else
    some (!more)
  else
   some false
 else
  some false
theorem sC{x:Bool}(h:jz first more=some x):aQ Pg GE 0 (cA D0 60) (EX .normal (fm rest more x)) (tM first rest more):=by
 obtain⟨r3,br3,h⟩:=aJ h
 rcases bG h with⟨c4,h⟩|⟨c4,h⟩
 ·obtain⟨r5,br5,h⟩:=aJ h
  have p7:=fun{sc F} (r:PS sc F)=>d7 (qo br3)<|sg 4 c4<|d7 (u9 br5)<|r
  rcases bG h with⟨c6,h⟩|⟨c6,h⟩
  ·have p9:=fun{sc F} (r:PS sc F)=>p7<|sg 9 c6<|r
   rcases bG h with⟨c8,h⟩|⟨c8,h⟩
   ·obtain rfl:=lf h
    exact jZ As (p9<|sg 12 c8<|eF .normal (fm rest more true))<|by kernel_rfl
   ·obtain rfl:=lf h
    exact jZ As (p9<|sg 12 c8<|eF .normal (fm rest more (!more)))<|by kernel_rfl
  ·obtain rfl:=lf h
   exact jZ As (p7<|sg 9 c6<|eF .normal (fm rest more false))<|by kernel_rfl
 ·obtain rfl:=lf h
  exact jZ As (d7 (qo br3)<|sg 4 c4<|eF .normal (fm rest more false))<|by kernel_rfl
end
section
variable(rest:ah)(more:Bool)(part:ah)
def tN:ak:=da 52 [(4,.str rest),(5,.bool more),(6,.str part)] [] []
def g8(o:Bool):ak:=da 52 [(4,.str rest),(5,.bool more),(51,.bool o)] [] []
def jA:Option Bool:=
 (ir part).bind fun r15=>
 if(!r15)=true then
  some true
 else
  (dL part).bind fun r17=>
  if(!r17)=true then
   (nL part).bind fun r20=>
   some (!r20)
  else
   some false
theorem sE{x:Bool}(h:jA part=some x):aQ Pg GE 0 (cA D0 8062) (EX .normal (g8 rest more x)) (tN rest more part):=by
 obtain⟨r15,br15,h⟩:=aJ h
 rcases bG h with⟨c16,h⟩|⟨c16,h⟩
 ·obtain rfl:=lf h
  exact jZ As (d7 (eJ br15)<|sg 4 c16<|eF .normal (g8 rest more true))<|by kernel_rfl
 ·obtain⟨r17,br17,h⟩:=aJ h
  have p19:=fun{sc F} (r:PS sc F)=>d7 (eJ br15)<|sg 4 c16<|d7 (jd br17)<|r
  rcases bG h with⟨c18,h⟩|⟨c18,h⟩
  ·obtain⟨r20,br20,h⟩:=aJ h
   obtain rfl:=lf h
   exact jZ As (p19<|sg 8 c18<|d7 (wr br20)<|eF .normal (g8 rest more (!r20)))<|by kernel_rfl
  ·obtain rfl:=lf h
   exact jZ As (p19<|sg 8 c18<|eF .normal (g8 rest more false))<|by kernel_rfl
end
section
variable(rest:ah)(more:Bool)
def fp:ak:=da 52 [(4,.str rest),(5,.bool more)] [] []
def fq(o:Unit⊕(Unit)):Exit:=match o with
 |(.inl _)=>.ret
 |(.inr _)=>.exit 0
def eb(o:Unit⊕(Unit)):ak:=match o with
 |(.inl o)=>da 52 [(2,.int .i64 3)] [] []
 |(.inr o)=>da 52 [] [] []
def ea:Option ((ah×Bool)⊕(Unit⊕(Unit))):=
 if more=true then
  (mK rest).bind fun r14=>
  (jA r14.1).bind fun o21=>
  if o21=true then
   some (.inr (.inl ()))
  else
   some (.inl (r14.2.1,r14.2.2))
 else
  some (.inr (.inr ()))
def dC:Option (Unit⊕(Unit)):=loop (fun(zz:ah×Bool)=>ea zz.1 zz.2) (rest,more)
theorem rv{y:(ah×Bool)⊕(Unit⊕(Unit))}(h:ea rest more=some y):aQ Pg GE 0 (cA D0 251) (LQ (fun(zz:ah×Bool)=>fp zz.1 zz.2) fq eb y) (fp rest more):=by
 rcases bG h with⟨c13,h⟩|⟨c13,h⟩
 ·obtain⟨r14,br14,h⟩:=aJ h
  obtain⟨o21,bo21,h⟩:=aJ h
  have p23:=fun{sc F} (r:PS sc F)=>sg 0 c13<|d7 (ry br14)<|vY 0<|iw (sE r14.2.1 r14.2.2 r14.1 bo21)<|r
  rcases bG h with⟨c22,h⟩|⟨c22,h⟩
  ·obtain rfl:=lf h
   have z:=p23<|sg 0 c22<|eF (fq (.inl ())) (eb (.inl ()))
   exact pO As (by intro hx;cases hx) z<|by kernel_rfl
  ·obtain rfl:=lf h
   exact zA As (p23<|sg 0 c22<|eF .normal (fp r14.2.1 r14.2.2))<|by kernel_rfl
 ·obtain rfl:=lf h
  have z:=sg 0 c13<|eF (fq (.inr ())) (eb (.inr ()))
  exact pO As (by intro hx;cases hx) z<|by kernel_rfl
theorem mG{x:Unit⊕(Unit)}(h:dC rest more=some x):aQ Pg GE 0 (.loop (cA D0 251)) (EX (fq x) (eb x)) (fp rest more):=
 aQ.loop (S:=fun(zz:ah×Bool)=>fp zz.1 zz.2) (ex:=fq) (s:=(rest,more)) h fun zz y hy=>rv zz.1 zz.2 hy
end
def kR(s:ah):Option Int:=
 if(decide ((s.length:Int)>120))=true then
  some 3
 else
  (mK s).bind fun r2=>
  (jz r2.1 r2.2.2).bind fun o10=>
  if o10=true then
   some 3
  else
   (dC r2.2.1 r2.2.2).bind fun o24=>match o24 with
   |(.inl o24)=>
    some 3
   |(.inr o24)=>
    some 0
theorem qn{s:ah}{r:Int}(h:kR s=some r):CC Pg GE 25 [.str s] (.int .i64 r) []:=by
 rcases bG h with⟨c1,h⟩|⟨c1,h⟩
 ·obtain rfl:=lf h
  have z:=ke (mZ underlying9 s)<|sg 0 c1<|en (aI (rP (.int .i64 3))<|trivial)
  exact cW As call25 func25 (c:=D0) rfl (aI trivial trivial) z<|by kernel_rfl
 ·obtain⟨r2,br2,h⟩:=aJ h
  obtain⟨o10,bo10,h⟩:=aJ h
  have p12:=fun{sc F} (r:PS sc F)=>ke (mZ underlying9 s)<|sg 0 c1<|d7 (ry br2)<|vY 1<|iw (sC r2.1 r2.2.1 r2.2.2 bo10)<|r
  rcases bG h with⟨c11,h⟩|⟨c11,h⟩
  ·obtain rfl:=lf h
   have z:=p12<|sg 0 c11<|en (aI (rP (.int .i64 3))<|trivial)
   exact cW As call25 func25 (c:=D0) rfl (aI trivial trivial) z<|by kernel_rfl
  ·obtain⟨o24,bo24,h⟩:=aJ h
   rcases o24 with o24|o24
   ·obtain rfl:=lf h
    have z:=p12<|sg 0 c11<|iw (e:=.ret) (s1:=eb (.inl o24)) (mG r2.2.1 r2.2.2 bo24)<|en (aI (rP (.int .i64 3))<|trivial)
    exact cW As call25 func25 (c:=D0) rfl (aI trivial trivial) z<|by kernel_rfl
   ·obtain rfl:=lf h
    have z:=p12<|sg 0 c11<|iw (e:=.exit 0) (s1:=eb (.inr o24)) (mG r2.2.1 r2.2.2 bo24)<|en (aI (rP (.int .i64 0))<|trivial)
    exact cW As call25 func25 (c:=D0) rfl (aI trivial trivial) z<|by kernel_rfl
noncomputable def G0:Code:=f26.body.getD .skip
def GQ:List Nat:=[]
def e5(n:Int):Option Bool:=
 if(decide (n>=0))=true then
  some (decide (n<6))
 else
  some false
theorem kb{n:Int}{r:Bool}(h:e5 n=some r):CC Pg GE 26 [.int .i64 n] (.bool r) []:=by
 rcases bG h with⟨c1,h⟩|⟨c1,h⟩
 ·obtain rfl:=lf h
  have z:=sg 3 c1<|en (aI (rP (.bool (decide (n<6))))<|trivial)
  exact cW GQ call26 func26 (c:=G0) rfl (aI trivial trivial) z<|by kernel_rfl
 ·obtain rfl:=lf h
  have z:=sg 3 c1<|en (aI (rP (.bool false))<|trivial)
  exact cW GQ call26 func26 (c:=G0) rfl (aI trivial trivial) z<|by kernel_rfl
noncomputable def Gv:Code:=f27.body.getD .skip
def Gn:List Nat:=[]
def fV(a:ag)(a2:ag):Option Bool:=
 if(decide (a.From<a2.From))=true then
  some true
 else
  if(a.From==a2.From)=true then
   some (decide (a.To<a2.To))
  else
   some false
theorem px{a:ag}{a2:ag}{r:Bool}(h:fV a a2=some r):CC Pg GE 27 [.agg (am a),.agg (am a2)] (.bool r) []:=by
 have p2:=fun{sc F} (r:PS sc F)=>se (rI a)<|se (rI a2)<|sv (fb a)<|sv (gf a)<|sv (fb a2)<|sv (gf a2)<|r
 rcases bG h with⟨c1,h⟩|⟨c1,h⟩
 ·obtain rfl:=lf h
  have z:=p2<|sg 6 c1<|en (aI (rP (.bool true))<|trivial)
  exact cW Gn call27 func27 (c:=Gv) rfl (aI (aA a) (aI (aA a2) trivial)) z<|by kernel_rfl
 ·have p4:=fun{sc F} (r:PS sc F)=>p2<|sg 6 c1<|sv (fb a)<|sv (gf a)<|sv (fb a2)<|sv (gf a2)<|r
  rcases bG h with⟨c3,h⟩|⟨c3,h⟩
  ·obtain rfl:=lf h
   have z:=p4<|sg 12 c3<|sv (iN a)<|sv (jS a)<|sv (iN a2)<|sv (jS a2)<|en (aI (rP (.bool (decide (a.To<a2.To))))<|trivial)
   exact cW Gn call27 func27 (c:=Gv) rfl (aI (aA a) (aI (aA a2) trivial)) z<|by kernel_rfl
  ·obtain rfl:=lf h
   have z:=p4<|sg 12 c3<|en (aI (rP (.bool false))<|trivial)
   exact cW Gn call27 func27 (c:=Gv) rfl (aI (aA a) (aI (aA a2) trivial)) z<|by kernel_rfl
end Go.Proofs.YtoficachfgggjaaDoor
