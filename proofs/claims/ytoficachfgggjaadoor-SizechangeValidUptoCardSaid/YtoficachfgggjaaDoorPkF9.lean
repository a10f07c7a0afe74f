/- PROVED: a part of the proof. Conditions: none. -/
import Derived.Test.YtoficachfgggjaaDoorPkF8
import Derived.Test.YtoficachfgggjaaDoorPkF7
import Derived.Shelf.Strconv.Itoa3
noncomputable section
namespace Go.Proofs.YtoficachfgggjaaDoor
open Go Go.Shelf Go.RowKit Go.Lib Go.Sort
set_option linter.unusedSimpArgs false
set_option linter.unusedVariables false
def kH(n t nb i:Nat)(p:PVal)(e:TypeId):aj:=⟨(List.replicate n .undef).set t (.bptr i 0),(List.replicate nb .dead).set i (.cells [p] [(0,e)]),[]⟩
theorem Cf{n t nb i j:Nat}{p q:PVal}{e:TypeId}(h:(kH n t nb i p e).tmps[j]? =some q):q=.undef\/(j=t/\q=.bptr i 0):=by
 unfold kH at h
 simp only at h
 rw[vbm]at h
 split at h
 ·rename_i hti
  split at h
  ·cases h;exact .inr ⟨hti.symm,rfl⟩
  ·cases h
 ·rw[vaN]at h
  split at h
  ·cases h;exact .inl rfl
  ·cases h
theorem zI{n t nb i j:Nat}{p:PVal}{e:TypeId}{B:ah}(h:(kH n t nb i p e).boxes[j]? =some B):(j=i/\B=.cells [p] [(0,e)])\/(j≠i/\B=.dead):=by
 unfold kH at h
 simp only at h
 rw[vbm]at h
 split at h
 ·rename_i hti
  split at h
  ·cases h;exact .inl ⟨hti.symm,rfl⟩
  ·cases h
 ·rename_i hti
  rw[vaN]at h
  split at h
  ·cases h;exact .inr ⟨fun e=>hti e.symm,rfl⟩
  ·cases h
section
variable{P:Program}{GE:List (Nat×List PVal)}{α:Type}[DecidableEq α]{c:α->List PVal}{ord:α->α->Option Int}
theorem za{T e:TypeId}{K:List Nat}{fs fo rid n t nb i d1 d2:Nat}{o1 o2:Oper}{tys:Array TypeId}{l r:List α}(s:uW P T e c)(hS:zm P fs (P.cellsOf e))(hsc:(P.underlying T).any om=true)
  (hcc:∀x y r,ord x y=some r->CC P GE fo [.agg (c x),.agg (c y)] (.int .i64 r) []) (hof:∀vs w,(callFunc fo vs).run P w=.ok (.enter fo vs) w)
  (hfl:∀x,∀q∈c x,xN K q/\q.kd∈K/\q.kd≠0) (h1:o1.op=.load T (.tmp t)) (h1d:o1.dst=some d1) (h1g:o1.guard=none)
  (h2:o2.op=.call {callee:=.value (.func fs),args:=#[.tmp d1,.func fo],argTypes:=tys}) (h2d:o2.dst=some d2) (h2g:o2.guard=none)
  (hn:t<n/\d1<n/\d2<n/\t≠d1/\t≠d2) (hi:i<nb) (hs:sj ord l=some r):
  aE P GE 0 (.region rid #[o1,o2] false) (EX .normal (kH n t nb i (sl c r) e)) (kH n t nb i (sl c l) e):=by
 obtain⟨n1,n2,n3,n4,n5⟩:=hn
 intro ro E bs0 a w hE hb0 hR
 have hb0:bs0=[]:=van hb0
 subst hb0
 refine tS (by simp[du,h1,h2]) (by rintro⟨_,_,_,_,_,h,_⟩;cases h) ?_
 show wpOps P #[o1,o2] _ [0,1] a w
 obtain⟨Γ,bs,ow,h,hk⟩:=hR
 have hsz:a.tmps.size=n:=by rw[h.sz];simp[kH]
 obtain⟨u,hu⟩:∃u,a.tmps[t]? =some u:=⟨a.tmps[t]'(by omega),vaD (by omega)⟩
 have hpt:=h.tm t (.bptr i 0) u (by simp[kH,n1]) hu
 cases hpt with
 |bptr _ _ b0 hib=>
 have hBi:(kH n t nb i (sl c l) e).boxes[i]? =some (.cells [sl c l] [(0,e)]):=by simp[kH,hi]
 obtain⟨hg0,hlt0,cc,tt,hheap0,hlen0,hvr0⟩:=h.bx i b0 _ hib hBi
 obtain⟨v,hcell,hown,howb⟩:=h.ob i 0 e _ _ b0 hBi (by simp) hib
 have hcc0:cc[0]? =some v:=by rw[<-hcell,cell_of_row w b0 0 cc tt _ hheap0]
 have hvr:VR Γ bs w (sl c l) v:=hvr0 0 _ v rfl hcc0
 have hload:(Instr.loadAt T (.pointer (some ⟨b0,0,none⟩))).run P w=.ok v w:=by
  obtain⟨v',hr,hv'⟩:=dQ (P:=P) (w:=w) (Γ:=Γ) (bs:=bs) (b:=b0) (off:=0) (cs:=[.val v]) (vals:=fun _=>v) (mO hsc _ _)
   (fun k q hq=>by
    have hk0:k=0:=by have:=aa hq;simp at this;exact this
    subst hk0;exact hcell)
   (fun k q hq=>by
    have hk0:k=0:=by have:=aa hq;simp at this;exact this
    subst hk0;simp at hq;subst hq;exact .val v)
  cases hv'
  simp[Instr.loadAt,Instr.sureAddr,hr]
 have hu0:a.eval (.tmp t)=.pointer (some ⟨b0,0,none⟩):=f7 hu
 rw[wpOps_cons]
 unfold wpOp
 rw[show(#[o1,o2]:Array Oper)[0]? =some o1 from rfl]
 simp only
 rw[vas (by simp[Region.wanted,h1g])]
 refine .inl ?_
 unfold Oper.wp
 rw[show(execOp a.eval o1).run P w=.ok (.value v) w by simp[execOp,h1,hu0,hload],Oper.upon_value]
 rw[wpOps_cons]
 unfold wpOp
 rw[show(#[o1,o2]:Array Oper)[1]? =some o2 from rfl]
 simp only
 rw[vas (by simp[Region.wanted,h2g])]
 refine .inl ?_
 unfold Oper.wp
 have hu1:(a.put o1.dst v).eval (.tmp d1)=v:=by
  refine f7 ?_
  rw[h1d]
  show(a.tmps.setIfInBounds d1 v)[d1]? =some v
  simp[hsz,n2]
 rw[show(execOp (a.put o1.dst v).eval o2).run P w=.ok (.enter fs #[v,.func (.func fo) #[] #[]]) w by
  simp only[execOp,h2]
  simp[resolve,Act.eval,Deferred.ofValue,invoke,hS.1]
  have hu2:(a.put o1.dst v).tmps.getD d1 undef=v:=hu1
  rw[vat]at hu2
  exact hu2,Oper.upon_enter]
 have hget:∀q:Value,(((a.put o1.dst v).put o2.dst q).tmps)[t]? =some (.pointer (some ⟨b0,0,none⟩))/\(((a.put o1.dst v).put o2.dst q).tmps).size=n:=by
  intro q
  rw[h1d,h2d]
  show((a.tmps.setIfInBounds d1 v).setIfInBounds d2 q)[t]? =_/\((a.tmps.setIfInBounds d1 v).setIfInBounds d2 q).size=n
  refine⟨?_,by simp[hsz]⟩
  rw[vaG n5.symm,vaG n4.symm];exact hu
 have hdef:∀q:Value,((a.put o1.dst v).put o2.dst q).defers=a.defers:=fun q=>(aT _ _ _).trans (aT _ _ _)
 obtain⟨hokS,hrl⟩:=BJ hs
 obtain⟨happ,hord,hO⟩:=x6 hokS
 have htm:∀{bs:aB} {Γ:ax} {w:World} {p:PVal} (q:Value),bs[i]? =some (some b0)->∀(j:Nat) x y,(kH n t nb i p e).tmps[j]? =some x->(((a.put o1.dst v).put o2.dst q).tmps)[j]? =some y->VR Γ bs w x y:=by
  intro bs Γ w p q hb j x y hx hy
  rcases Cf hx with rfl|⟨rfl,rfl⟩
  ·exact .undef y
  ·rw[(hget q).1]at hy;cases hy;exact .bptr _ _ _ hb
 have hempty:l=[]->∀q,wpOps P #[o1,o2] (tk P E [] a.defers (EX .normal (kH n t nb i (sl c r) e))) [] ((a.put o1.dst v).put o2.dst q) w:=by
  intro hl q
  subst hl
  have hr:r=[]:=van hrl
  subst hr
  refine⟨hdef q,_,⟨Γ,bs,ow,{h with sz:=by rw[(hget q).2];simp[kH],tm:=htm q hib,ot:=fun t k e he=>by simp[kH]at he},hk⟩,rfl,rfl⟩
 unfold sl at hvr
 generalize hes:l.map c=es at hvr
 cases hvr with
 | sliceNil =>
  have hl:l=[]:=by cases l with
   |nil=>rfl
   |cons x l=>simp at hes
  refine(hS.2.2 none 0 _ w).mono fun q w' hr=>?_
  obtain⟨rfl,rfl⟩:=hr
  exact hempty hl _
 | sliceE x cap =>
  have hl:l=[]:=by cases l with
   |nil=>rfl
   |cons x l=>simp at hes
  refine(hS.2.2 (some x) cap _ w).mono fun q w' hr=>?_
  obtain⟨rfl,rfl⟩:=hr
  exact hempty hl _
 | slice _ b off cap m sz vals hz0 hcap hg hm hszs hc hv =>
  obtain⟨kk,xs,⟨hx1,hx2⟩,hx3⟩:=hown
  rcases hx2 with⟨hx2,_⟩|⟨g',cap',cur,hx2,_,hheap,hkc,hcm,hcs,htake⟩
  ·cases hx2
  cases hx2
  subst hes
  by_cases hl0:l=[]
  ·subst hl0
   refine(hS.2.2 (some ⟨b,0,none⟩) cap _ w).mono fun q w' hr=>?_
   obtain⟨rfl,rfl⟩:=hr
   exact hempty rfl _
  have hN:0<l.length:=vb0.2 hl0
  have hlen:(l.map c).length=l.length:=vbw _
  have hget':∀j,(hj:j<l.length)->(l.map c)[j]? =some (c l[j]):=fun j hj=>by rw[vaw,vaa hj];rfl
  have hsk:sz=P.cellsOf e:=by rw[<-hszs 0 _ (hget' 0 hN),s.hc]
  subst hsk
  have hΓg:Γ b=some (l.length * P.cellsOf e):=by rw[hx3 b rfl,hlen]
  generalize hkk:P.cellsOf e=k at *
  let cl:Nat->Nat:=fun x=>if x<l.length then x else 0
  have hcl:∀x,cl x<l.length:=fun x=>by show(if x<l.length then x else 0)<_;split<;>omega
  have hcl0:∀x,x<l.length->cl x=x:=fun x hx=>by show(if x<l.length then x else 0)=_;rw[vas hx]
  let el:Nat->α:=fun x=>l[cl x]'(hcl x)
  have hel:∀x,el x∈l:=fun x=>vbr (hcl x)
  let enc:Nat->List Value:=fun x=>(List.range k).map fun j=>vals (cl x) j
  have henc:∀(x j:Nat) uu,(enc x)[j]? =some uu->j<k/\uu=vals (cl x) j:=fun x j uu hh=>by
   have hh:((List.range k).map fun j=>vals (cl x) j)[j]? =some uu:=hh
   rw[vaw]at hh
   by_cases hj:j<k
   ·rw[vaV hj]at hh;cases hh;exact⟨hj,rfl⟩
   ·rw[vaz (by simp;omega)]at hh;cases hh
  have hencl:∀x,(enc x).length=k:=fun x=>by show((List.range k).map _).length=k;simp
  have hencg:∀(x j:Nat),j<k->(enc x)[j]! =vals (cl x) j:=fun x j hj=>by
   rw[List.getElem!_eq_getElem?_getD]
   have:(enc x)[j]? =some (vals (cl x) j):=by
    show((List.range k).map fun j=>vals (cl x) j)[j]? =_
    rw[vaw,vaV hj];rfl
   rw[this];rfl
  have hqe:∀(x j:Nat),j<k->∃q,(c (el x))[j]? =some q/\q∈c (el x)/\VR Γ bs w q (vals (cl x) j):=fun x j hj=>by
   have hjl:j<(c (el x)).length:=by rw[s.hc];omega
   exact⟨_,vaa hjl,vbr hjl,hv (cl x) _ j _ (hget' _ (hcl x)) (vaa hjl)⟩
  have hvre:∀(x j:Nat) q uu,(c (el x))[j]? =some q->(enc x)[j]? =some uu->VR Γ bs w q uu:=fun x j q uu hq huu=>by
   obtain⟨hj,rfl⟩:=henc x j uu huu
   exact hv (cl x) _ j q (hget' _ (hcl x)) hq
  have hone:∀x,∀uu∈enc x,uu.oneCell'=true:=fun x uu huu=>by
   obtain⟨j,hj⟩:=List.getElem?_of_mem huu
   obtain⟨hjk,rfl⟩:=henc x j uu hj
   obtain⟨q,_,hqm,hqv⟩:=hqe x j hjk
   exact hqv.one (s.ho _ q hqm)
  have hcelli:∀(x j:Nat),x<l.length->j<k->w.cell? ⟨b,0+(x * k+j),none⟩=some (vals x j):=fun x j hx hj=>by
   have hjl:j<(c l[x]).length:=by rw[s.hc];omega
   have:=hc x _ j _ (hget' x hx) (vaa hjl)
   rw[<-this];congr 2;omega
  have hkpos:0<k:=hz0
  have hdm:∀o,o<l.length * k->o / k<l.length/\o % k<k/\o=o / k * k+o % k:=fun o ho=>⟨Nat.div_lt_of_lt_mul (by rw[vcl];exact ho),Nat.mod_lt _ hkpos,(Nat.div_add_mod' o k).symm⟩
  have hrow:∀o,o<l.length * k->∃uu,w.cell? ⟨b,o,none⟩=some uu/\Es uu∈K:=fun o ho=>by
   obtain⟨a1,a2,a3⟩:=hdm o ho
   have:=hcelli (o / k) (o % k) a1 a2
   rw[vaB,<-a3]at this
   obtain⟨q,_,hqm,hqv⟩:=hqe (o / k) (o % k) a2
   rw[hcl0 _ a1]at hqv
   obtain⟨_,k1,k2⟩:=hfl _ q hqm
   exact⟨_,this,by rw[VR.kd_eq hqv k2];exact k1⟩
  let cf:Nat->Nat->Int:=fun x y=>(ord (el x) (el y)).getD 0
  have hcf:∀x y,ord (el x) (el y)=some (cf x y):=fun x y=>by
   obtain⟨z,hz⟩:=hord _ (hel x) _ (hel y)
   show _=some ((ord (el x) (el y)).getD 0)
   rw[hz];rfl
  have hlt:∀x y,ltOf cf x y=zE ord (el x) (el y):=fun x y=>by
   unfold ltOf zE
   rw[hcf x y]
  have hswo:SWO (ltOf cf):=⟨fun x=>by rw[hlt];exact hO.irr _ (hel x),fun x y z p q=>by rw[hlt]at *;exact hO.trans _ _ _ (hel x) (hel y) (hel z) p q,fun x y z p q=>by rw[hlt]at *;exact hO.ntrans _ _ _ (hel x) (hel y) (hel z) p q⟩
  have hlo:=h.on b _ (howb b rfl)
  have hge:E.w.heap.size<=b:=hlo.2.resolve_left (hE.nt rfl b)
  have hd0:(Array.range l.length).size=l.length:=by simp
  have hHold:HoldsK enc k w b 0 (Array.range l.length):=by
   intro j hj
   rw[size_flatK,hd0]at hj
   obtain⟨a1,a2,a3⟩:=hdm j hj
   refine⟨?_,frozen_of_row w b _ cur e hheap⟩
   rw[get_flatK _ _ _ _ (by rw[hd0];exact hj)]
   have e1:(Array.range l.length)[j / k]! =j / k:=by rw[getElem!_pos _ _ (by rw[hd0];exact a1)];simp
   rw[e1,hencg _ _ a2,hcl0 _ a1]
   have:=hcelli (j / k) (j % k) a1 a2
   rw[<-a3]at this
   exact this
  have hcmp:=AU (k:=k) (N:=(Array.range l.length).size) h hE (K:=K) hΓg hge hrow hcc (fun x q hq=>(hfl x q hq).1) (enc:=enc) (el:=el) (fun x=>by rw[hencl,s.hc];exact hkk.symm) hvre hcf
  have happ2:l.length<4611686018427387904:=by unfold dB at happ;omega
  have hcall:=hS.2.1 enc cf fo b cap (Array.range l.length) w hencl hone hswo hof hcmp hHold hlo.1 (by rw[hd0];exact happ2)
  rw[hd0]at hcall
  have hcall2:Calls P fs #[.slice (some ⟨b,0,none⟩) (l.map c).length cap,.func (.func fo) #[] #[]] w fun e w'=>e=.returned (.tuple #[])/\∃d' n os,PermIn 0 l.length (Array.range l.length) d'/\SortedIn (ltOf cf) 0 l.length d'/\w'=sortWorldK enc k w b 0 n d' os:=by
   rw[hlen];exact hcall
  refine hcall2.mono fun q w' hr=>?_
  obtain⟨rfl,d',n',os,hperm,hsorted,rfl⟩:=hr
  have hd'0:d'.size=l.length:=hperm.1.trans hd0
  generalize hWe:sortWorldK enc k w b 0 n' d' os=W
  have hkeep:∀x,x<w.heap.size->x≠b->W.heap[x]? =w.heap[x]?:=fun x hx hxb=>by rw[<-hWe];exact uQ hx hxb
  have hszW:w.heap.size<=W.heap.size:=by rw[<-hWe];exact uR
  have hrowW:W.heap[b]? =some (.cells (putCells id 0 (flatK enc k d') cur) e (0,0)):=by rw[<-hWe];exact Aw hheap
  have hholdW:HoldsK enc k W b 0 d':=by rw[<-hWe];exact holdsK_sortWorldK_c enc k w b 0 _ d' n' os hHold hlo.1 hperm.1
  have hcsW:(putCells id 0 (flatK enc k d') cur).size=cap * k:=by rw[<-hcs];simp[putCells]
  have hst1:W.os=w.os:=by rw[<-hWe];rfl
  have hst2:W.tape=w.tape:=by rw[<-hWe];rfl
  have hst3:W.output=w.output:=by rw[<-hWe];rfl
  have hst4:w.drawn<=W.drawn:=by rw[<-hWe];exact vbO _ _
  have hnk:l.length * k<=cap * k:=vaE k (by rw[<-hlen];exact hcap)
  have hrd:d'.toList.map el=r:=by
   refine xk hs ?_ ?_
   ·have hp:=hperm.2.2
    have e1:d'.extract 0 l.length=d':=by rw[<-hd'0];exact vcz
    have e2:(Array.range l.length).extract 0 l.length=Array.range l.length:=by
     have:(Array.range l.length).extract 0 (Array.range l.length).size=Array.range l.length:=vcz
     rwa[hd0]at this
    rw[e1,e2]at hp
    have h3:(Array.range l.length).toList.map el=l:=by
     rw[Array.toList_range]
     refine va7 fun j=>?_
     by_cases hj:j<l.length
     ·rw[vaw,vaV hj,vaa hj]
      show some (l[cl j]'(hcl j))=some l[j]
      congr 1
      simp only[hcl0 j hj]
     ·rw[vaz (by simp;omega),vaz (by omega)]
    rw[<-h3]
    exact hp.map el
   ·unfold vb
    rw[List.pairwise_map,List.pairwise_iff_getElem]
    intro x y hx hy hxy
    have hx':x<d'.size:=by simpa using hx
    have hy':y<d'.size:=by simpa using hy
    have:=hsorted x y (vaF _) hxy (by rw[<-hd'0];exact hy')
    rw[getElem!_pos d' x hx',getElem!_pos d' y hy',hlt]at this
    simpa using this
  have hrlen:(r.map c).length=(l.map c).length:=by rw[vbw,vbw,hrl]
  have hri:∀x,(hx:x<l.length)->(r.map c)[x]? =some (c (el d'[x]!)):=fun x hx=>by
   rw[<-hrd,List.map_map,vaw]
   have hxd:x<d'.size:=by rw[hd'0];exact hx
   rw[vaT,vaD hxd,getElem!_pos d' x hxd]
   rfl
  have hvrW:VR Γ bs W (sl c r) (.slice (some ⟨b,0,none⟩) (l.map c).length cap):=by
   unfold sl
   rw[<-hrlen]
   refine .slice _ b 0 cap (l.length * k) k (fun x j=>vals (cl d'[x]!) j) hkpos (by rw[hrlen];exact hcap) hΓg (by rw[hrlen,hlen];omega) (fun x y hx=>?_) (fun x y j p hx hp=>?_) (fun x y j p hx hp=>?_)
   ·have hxl:x<l.length:=by have:=aa hx;rw[hrlen,hlen]at this;exact this
    rw[hri x hxl]at hx;cases hx;rw[s.hc];exact hkk
   ·have hxl:x<l.length:=by have:=aa hx;rw[hrlen,hlen]at this;exact this
    rw[hri x hxl]at hx;cases hx
    have hjk:j<k:=by have:=aa hp;rw[s.hc,hkk]at this;exact this
    have:=(hholdW.cell (i:=x) (c:=j) (by rw[hd'0];exact hxl) hjk).1
    rw[hencg _ _ hjk]at this
    exact this
   ·have hxl:x<l.length:=by have:=aa hx;rw[hrlen,hlen]at this;exact this
    rw[hri x hxl]at hx;cases hx
    refine(hv (cl d'[x]!) _ j p (hget' _ (hcl _)) hp).off_row hΓg hrow (fun x m hx hm=>⟨hm,fun o=>aC (hkeep x (h.lt_of_ghost hm) hx) o⟩) (hfl _ p (var hp)).1
  have hle:E.Γ.Le E.w Γ W:=fun x m hx hm0=>by
   obtain⟨m',k1,k2,k3⟩:=h.step.le x m hx hm0
   have hne:x≠b:=fun hxb=>by have:=hE.low x m hx;omega
   exact⟨m',k1,k2,fun o ho=>(aC (hkeep x (h.lt_of_ghost k1) hne) o).trans (k3 o ho)⟩
  have hne0:b0≠b:=fun hx=>by rw[hx,hΓg]at hg0;cases hg0
  refine⟨hdef _,_,⟨Γ,bs,ow,{
   wi:=fun x m hx=>by
    by_cases hxg:x=b
    ·subst hxg
     rw[hΓg]at hx;cases hx
     exact⟨_,_,_,hrowW,by rw[hcsW];exact hnk⟩
    ·obtain⟨c2,t2,fr,k1,k2⟩:=h.wi x m hx
     exact⟨c2,t2,fr,(hkeep x (h.lt_of_ghost hx) hxg).trans k1,k2⟩
   sz:=by rw[(hget _).2];simp[kH]
   tm:=htm _ hib
   bl:=by rw[h.bl];simp[kH]
   bx:=fun j b' B hb' hB=>by
    rcases zI hB with⟨rfl,rfl⟩|⟨hj,rfl⟩
    ·rw[hib]at hb';cases hb'
     refine⟨hg0,vaA hlt0 hszW,cc,tt,(hkeep b0 hlt0 hne0).trans hheap0,hlen0,fun jj p vv hp hvv=>?_⟩
     have hj0:jj=0:=by have:=aa hp;simp at this;exact this
     subst hj0
     simp at hp;subst hp
     rw[hcc0]at hvv;cases hvv
     exact hvrW
    ·have hold:(kH n t nb i (sl c l) e).boxes[j]? =some .dead:=by
      have hjn:j<nb:=by have:=aa hB;simpa[kH]using this
      unfold kH
      simp only
      rw[vak (fun e=>hj e.symm),vaN,vas hjn]
     obtain⟨k1,k2,_⟩:=h.bx j b' _ hb' hold
     exact⟨k1,vaA k2 hszW,trivial⟩
   inj:=h.inj
   bn:=h.bn
   on:=fun b' L hL=>⟨vaA (h.on b' L hL).1 hszW,(h.on b' L hL).2⟩
   ot:=fun t k e he=>by simp[kH]at he
   ob:=fun j jj e' cs own b' hB hj hb'=>by
    rcases zI hB with⟨rfl,hBB⟩|⟨_,hBB⟩
    ·cases hBB
     rw[hib]at hb';cases hb'
     have:jj=0/\e'=e:=by simpa using hj
     obtain⟨rfl,rfl⟩:=this
     refine⟨_,(aC (hkeep b0 hlt0 hne0) 0).trans hcell,⟨(l.map c).length,(putCells id 0 (flatK enc k d') cur).toList.take (l.length * k),⟨?_,.inr ⟨b,cap,_,rfl,vaF _,hrowW,hcap,hcm,by rw[hcsW,hkk],by rw[hlen,hkk]⟩⟩,fun x hx=>?_⟩,howb⟩
     ·have hL:(putCells id 0 (flatK enc k d') cur).toList.length=cap * k:=by rw[<-hcsW];exact Array.length_toList
      rw[va4,hL,hlen,hkk];omega
     ·simp[Value.ownBlock]at hx;subst hx;rw[hΓg,hlen,hkk]
    ·cases hBB
   gl:=fun g cs hg=>(hE.gl g cs (by rw[<-hE.ge];exact hg)).mono hle (fun i b hb=>by simp at hb)
   gc:=h.gc
   gx:=h.gx
   step:={
    os:=hst1.trans h.step.os
    tape:=hst2.trans h.step.tape
    output:=hst3.trans h.step.output
    size:=vaS h.step.size hszW
    drawn:=vaS h.step.drawn hst4
    keep:=fun x hx hT=>by
     obtain⟨k1,k2⟩:=h.step.keep x hx hT
     exact⟨(hkeep x (vaA hx h.step.size) (by omega)).trans k1,k2⟩
    le:=hle}},hk⟩,rfl,rfl⟩
theorem Eb{T e:TypeId}{K:List Nat}{fs fo rid n t nb i d1 d2:Nat}{o1 o2:Oper}{tys:Array TypeId}{l r:List α}{cd:Code}{st0 st1:aj}(s:uW P T e c)(hS:zm P fs (P.cellsOf e))(hsc:(P.underlying T).any om=true)
  (hcc:∀x y r,ord x y=some r->CC P GE fo [.agg (c x),.agg (c y)] (.int .i64 r) []) (hof:∀vs w,(callFunc fo vs).run P w=.ok (.enter fo vs) w)
  (hfl:∀x,∀q∈c x,xN K q/\q.kd∈K/\q.kd≠0) (hcd:cd=.region rid #[o1,o2] false) (h1:o1.op=.load T (.tmp t)) (h1d:o1.dst=some d1) (h1g:o1.guard=none)
  (h2:o2.op=.call {callee:=.value (.func fs),args:=#[.tmp d1,.func fo],argTypes:=tys}) (h2d:o2.dst=some d2) (h2g:o2.guard=none)
  (hn:decide (t<n)&&(decide (d1<n)&&(decide (d2<n)&&(decide (t≠d1)&&(decide (t≠d2)&&decide (i<nb)))))=true) (h0:st0=kH n t nb i (sl c l) e) (h00:st1=kH n t nb i (sl c r) e) (hs:sj ord l=some r):
  aE P GE 0 cd (EX .normal st1) st0:=by
 simp only[vac,vah]at hn
 obtain⟨a1,a2,a3,a4,a5,a6⟩:=hn
 subst hcd;subst h0;subst h00
 exact za s hS hsc hcc hof hfl h1 h1d h1g h2 h2d h2g ⟨a1,a2,a3,a4,a5⟩ a6 hs
end
section
variable{P:Program}{ρ:Ren}
theorem BI(L:SlLaysF0.n6 P ρ){fs e:Nat}(hf:ρ.f 6=fs)(he:ρ.t 24=e)(ha:(P.underlying e).any BV=true)(hi:(P.info? e).isSome=true)(hcall:∀vs w,(callFunc fs vs).run P w=.ok (.enter fs vs) w):zm P fs (P.cellsOf e):=by
 subst hf;subst he
 obtain⟨i0,hi0⟩:=vax.1 hi
 have hagg:∀w,(Go.isAgg (ρ.t 24)).run P w=.ok true w:=fun w=>by
  cases hd:P.underlying (ρ.t 24)with
  |none=>rw[hd]at ha;cases ha
  |some d=>
   rw[hd]at ha
   cases d<;>simp[BV]at ha<;>simp[Go.isAgg,run_underlying hd]
 refine⟨hcall,fun enc cf g blk cap d w hk h1 hO eg hcmp hH hb hs=>?_,fun p cap fv w=>AnyF.slices_SortFunc_none L p cap fv w⟩
 exact AnyQ.slices_SortFunc L (P.cellsOf (ρ.t 24)) hagg (fun w=>run_sizeOf w hi0) enc hk h1 cf hO g #[] blk 0 cap d w eg hcmp hH hb hs
end
open Go Go.Proofs.Tryd
set_option maxRecDepth 100000
theorem Ac(x:ae):∀q∈ac x,xN [3,4] q/\q.kd∈[3,4]/\q.kd≠0:=by
 intro q hq
 rw[cb]at hq
 simp only[vaI,vbU,or_false]at hq
 rcases hq with rfl|rfl|rfl
 ·exact⟨trivial,by simp[PVal.kd],by simp[PVal.kd]⟩
 ·exact⟨trivial,by simp[PVal.kd],by simp[PVal.kd]⟩
 ·refine⟨fun e he q hq=>?_,by simp[PVal.kd,sl],by simp[PVal.kd,sl]⟩
  obtain⟨y,_,rfl⟩:=vap.1 he
  rw[oM]at hq
  simp only[vaI,vbU,or_false]at hq
  rcases hq with rfl|rfl|rfl
  all_goals exact⟨by simp[PVal.kd],by simp[PVal.kd]⟩
theorem Cm:zm Pg 38 (Pg.cellsOf 24):=BI Tryd.sf38 rfl rfl (by kernel_rfl) (by kernel_rfl) call38
theorem zX:j6 Pg 37 43:=zY Tryd.lc37 rfl rfl (by kernel_rfl) call37
theorem yF{l r:List am}(h:tQ l=some r):CC Pg GE 37 [sl ak l] (sl ak r) [(0,43)]:=cW.cloneCC zX h
def xT(n:Int):Option af:=if(decide (-9223372036854775808<=n)&&decide (n<=9223372036854775807))=true then some (Lib.itoa n)else none
theorem By:eh=Lib.pow10Tab:=by kernel_rfl
theorem zC{n:Int}{r:af}(h:xT n=some r):CC Pg GE 31 [.int .i64 n] (.str r) []:=by
 rcases aM h with⟨b,h⟩|⟨b,h⟩
 ·obtain rfl:=lf h
  simp only[vac,vah]at b
  refine CC.grownIS call31 fun E Γ bs ow w a st hE hS=>?_
  have htab:Lib.TabIs Pg w "internal/strconv.uint64pow10" .u64 Lib.pow10Tab:=C6 hS (g:=1) (by rw[hE,←By];simp[GE]) (by kernel_rfl)
  refine(Any.strconv_Itoa Tryd.laysM171 n b.1 b.2 w htab).mono fun e w' he=>?_
  obtain⟨rfl,k,os,rfl⟩:=he
  exact⟨rfl,.of_grow _ _ _⟩
 ·cases h
noncomputable def b9:Code:=Tryd.f9.body.getD .skip
def A9:List Nat:=[]
section
variable(n:Int)(v:waB)(t8:Int)(t9:Int)
def g6:aj:=a7 22 [(0,.int .i64 n),(1,sl ac v),(7,sl ac v),(8,.int .i64 t8),(9,.int .i64 t9)] [] []
def g7(o:Unit⊕(Unit)):Exit:=match o with
 |(.inl _)=>.ret
 |(.inr _)=>.exit 0
def fC(o:Unit⊕(Unit)):aj:=match o with
 |(.inl o)=>a7 22 [(4,.bool false)] [] []
 |(.inr o)=>a7 22 [(0,.int .i64 n),(1,sl ac v)] [] []
def mA:Option (Int⊕(Unit⊕(Unit))):=
 if(decide (t9<t8))=true then
  (gk v t9).bind fun x2=>
  if(decide ((x2.Arcs.length:Int)>40))=true then
   some (.inr (.inl ()))
  else
   some (.inl (cD (t9+1)))
 else
  some (.inr (.inr ()))
def pz:Option (Unit⊕(Unit)):=loop (fun(zz:Int)=>mA v t8 zz) t9
theorem tO{y:Int⊕(Unit⊕(Unit))}(h:mA v t8 t9=some y):aE Pg GE 0 (cA b9 55) (LQ (fun(zz:Int)=>g6 n v t8 zz) g7 (fC n v) y) (g6 n v t8 t9):=by
 rcases aM h with⟨c1,h⟩|⟨c1,h⟩
 ·obtain⟨x2,bx2,h⟩:=au h
  have p4:=fun{sc F} (r:PS sc F)=>sg 0 c1<|sv (gd.ia (k:=.i64) bx2)<|sv (aN x2)<|sx vQ<|sx (iK x2)<|ss<|eG (cW.ln x2.Arcs)<|r
  rcases aM h with⟨c3,h⟩|⟨c3,h⟩
  ·obtain rfl:=lf h
   have z:=p4<|sg 0 c3<|rK 0 (g7 (.inl ())) (fC n v (.inl ())) rfl (dL (aI trivial trivial)) trivial
   exact jt (A:=A9) mixed (by intro hx;cases hx) z<|by kernel_rfl
  ·obtain rfl:=lf h
   have z:=p4<|sg 0 c3<|rK 0 .normal (g6 n v t8 (cD (t9+1))) rfl (dL (aI trivial (aI (up (aK ag v)) (aI (up (aK ag v)) (aI trivial (aI trivial trivial)))))) trivial
   exact h9 (A:=A9) mixed z<|by kernel_rfl
 ·obtain rfl:=lf h
  have z:=sg 0 c1<|eF (g7 (.inr ())) (fC n v (.inr ()))
  exact j5 A9 (by intro hx;cases hx) z<|by kernel_rfl
theorem o4{x:Unit⊕(Unit)}(h:pz v t8 t9=some x):aE Pg GE 0 (.loop (cA b9 55)) (EX (g7 x) (fC n v x)) (g6 n v t8 t9):=
 aE.loop (S:=fun(zz:Int)=>g6 n v t8 zz) (ex:=g7) (s:=t9) h fun zz y hy=>tO n v t8 zz hy
end
def ta(n:Int)(a:waB):Option Bool:=
 (pz a (a.length:Int) 0).bind fun o5=>match o5 with
 |(.inl o5)=>
  some false
 |(.inr o5)=>
  some (decide ((a.length:Int)<=n))
theorem yC{n:Int}{a:waB}{r:Bool}(h:ta n a=some r):CC Pg GE 9 [.int .i64 n,sl ac a] (.bool r) []:=by
 obtain⟨o5,bo5,h⟩:=au h
 rcases o5 with o5|o5
 ·obtain rfl:=lf h
  have z:=eG (gd.ln a)<|dz (e:=.ret) (s1:=fC n a (.inl o5)) (o4 n a (a.length:Int) 0 bo5)<|en (aI (rP (.bool false))<|trivial)
  exact bv A9 call9 func9 (c:=b9) rfl (aI trivial (aI (aK ag a) trivial)) z<|by kernel_rfl
 ·obtain rfl:=lf h
  have z:=eG (gd.ln a)<|dz (e:=.exit 0) (s1:=fC n a (.inr o5)) (o4 n a (a.length:Int) 0 bo5)<|eG (gd.ln a)<|en (aI (rP (.bool (decide ((a.length:Int)<=n))))<|trivial)
  exact bv A9 call9 func9 (c:=b9) rfl (aI trivial (aI (aK ag a) trivial)) z<|by kernel_rfl
noncomputable def ED:Code:=f33.body.getD .skip
def Ew:List Nat:=[20]
section
variable(t13:(List jp))(t14:Int)(m:waA)(m2:af)(m3:af)(t15:Int)(m4:waA)
def ff:aj:=a7 34 [(6,.bptr 0 0),(7,.bptr 1 0),(13,sl g8 t13),(14,.int .i64 t14),(15,.int .i64 t15)] [.cells [.str ([]:af),.str ([]:af),sl ak m] [(2,43)],.cells [.str m2,.str m3,sl ak m4] [(2,43)]] []
def ke(o:waA):aj:=a7 34 [(6,.bptr 0 0),(7,.bptr 1 0)] [.cells [.str ([]:af),.str ([]:af),sl ak m] [(2,43)],.cells [.str m2,.str m3,sl ak o] [(2,43)]] []
def nL:Option ((Int×waA)⊕(waA)):=
 if(decide (t15<t14))=true then
  (gk t13 t15).bind fun x2=>
  (po 3 0).bind fun i3=>
  (po 3 1).bind fun i4=>
  (po 3 2).bind fun i5=>
  (app m4 ([(⟨x2 (0+i3 * 1),x2 (0+i4 * 1),(x2 (0+i5 * 1))==1⟩:am)]:List am)).bind fun l6=>
  some (.inl (cD (t15+1),l6))
 else
  some (.inr m4)
def pY:Option waA:=loop (fun(zz:Int×waA)=>nL t13 t14 zz.1 zz.2) (t15,m4)
theorem qU{y:(Int×waA)⊕(waA)}(h:nL t13 t14 t15 m4=some y):aE Pg GE 0 (cA ED 119) (LQ (fun(zz:Int×waA)=>ff t13 t14 m m2 m3 zz.1 zz.2) (fun _=>.exit 0) (ke m m2 m3) y) (ff t13 t14 m m2 m3 t15 m4):=by
 rcases aM h with⟨c1,h⟩|⟨c1,h⟩
 ·obtain⟨x2,bx2,h⟩:=au h
  obtain⟨i3,bi3,h⟩:=au h
  obtain⟨i4,bi4,h⟩:=au h
  obtain⟨i5,bi5,h⟩:=au h
  obtain⟨l6,bl6,h⟩:=au h
  obtain rfl:=lf h
  have z:=sg 0 c1<|sv (xh.ia (k:=.i64) bx2)<|sv (Ca x2)<|sx ET<|sx (jl x2)<|sv (CL (b:=2) (off:=0) (k:=.i64) bi3)<|sv (CM (x:=x2) (EM bi3))<|sv (CL (b:=2) (off:=0) (k:=.i64) bi4)<|sv (CM (x:=x2) (EM bi4))<|sv (CL (b:=2) (off:=0) (k:=.i64) bi5)<|sv (CM (x:=x2) (EM bi5))<|sv (pe (x2 (0+i3 * 1)) (x2 (0+i4 * 1)) ((x2 (0+i5 * 1))==1))<|sv (cW.mk' (v:=zb) yd ([(⟨x2 (0+i3 * 1),x2 (0+i4 * 1),(x2 (0+i5 * 1))==1⟩:am)]:List am) 1 (by kernel_rfl))<|sv (cW.ap bl6)<|rK 0 .normal (ff t13 t14 m m2 m3 (cD (t15+1)) l6) rfl (dL (aI (lc rfl) (aI (lc rfl) (aI (up (aK wJ t13)) (aI trivial (aI trivial trivial)))))) (aI (aI trivial (aI trivial (aI (up (aK aA m)) trivial))) (aI (aI trivial (aI trivial (aI (up (aK aA l6)) trivial))) trivial))
  exact h9 (A:=Ew) mixed z<|by kernel_rfl
 ·obtain rfl:=lf h
  have z:=sg 0 c1<|eF (.exit 0) (ke m m2 m3 m4)
  exact j5 Ew (by intro hx;cases hx) z<|by kernel_rfl
theorem sS{x:waA}(h:pY t13 t14 t15 m4=some x):aE Pg GE 0 (.loop (cA ED 119)) (EX (.exit 0) (ke m m2 m3 x)) (ff t13 t14 m m2 m3 t15 m4):=
 aE.loop (S:=fun(zz:Int×waA)=>ff t13 t14 m m2 m3 zz.1 zz.2) (ex:=(fun _=>.exit 0)) (s:=(t15,m4)) h fun zz y hy=>qU t13 t14 m m2 m3 zz.1 zz.2 hy
end
def gF(a:af)(to:af)(arcs:(List jp)):Option ae:=
 (pY arcs (arcs.length:Int) 0 ([]:List am)).bind fun o7=>
 some (⟨a,to,o7⟩:ae)
theorem d8{a:af}{to:af}{arcs:(List jp)}{r:ae}(h:gF a to arcs=some r):CC Pg GE 33 [.str a,.str to,sl g8 arcs] (.agg (ac r)) [(2,43)]:=by
 obtain⟨o7,bo7,h⟩:=au h
 obtain rfl:=lf h
 have z:=sx vQ<|sb (pf a to) (pb a to)<|sx vQ<|sy (cb (⟨a,to,([]:List am)⟩:ae))<|eG (xh.ln arcs)<|dz (sS arcs (arcs.length:Int) ([]:List am) a to 0 ([]:List am) bo7)<|sz (cx (⟨a,to,o7⟩:ae) [])<|sy (cb (⟨a,to,o7⟩:ae))<|en (aI (iL (⟨a,to,o7⟩:ae))<|aI (ag (⟨a,to,o7⟩:ae))<|rT)
 exact bv Ew call33 func33 (c:=ED) rfl (aI trivial (aI trivial (aI (aK wJ arcs) trivial))) z<|by kernel_rfl
noncomputable def Eh:Code:=f44.body.getD .skip
def Do:List Nat:=[23]
section
variable(s:af)(i:Int)
def fj:aj:=a7 24 [(0,.str s),(5,.int .i64 i)] [] []
def fl(o:(af×af)⊕(Unit)):Exit:=match o with
 |(.inl _)=>.ret
 |(.inr _)=>.exit 0
def dN(o:(af×af)⊕(Unit)):aj:=match o with
 |(.inl o)=>a7 24 [(2,.str o.1),(3,.str o.2),(4,.bool true)] [] []
 |(.inr o)=>a7 24 [(0,.str s)] [] []
def fk:Option (Int⊕((af×af)⊕(Unit))):=
 if(decide (i<(s.length:Int)))=true then
  (fL s i).bind fun c2=>
  if(c2==46)=true then
   (yt s none (some i)).bind fun s5=>
   (yt s (some (cD (i+1))) none).bind fun s6=>
   some (.inr (.inl (s5,s6)))
  else
   some (.inl (cD (i+1)))
 else
  some (.inr (.inr ()))
def mH:Option ((af×af)⊕(Unit)):=loop (fun(zz:Int)=>fk s zz) i
theorem ri{y:Int⊕((af×af)⊕(Unit))}(h:fk s i=some y):aE Pg GE 0 (cA Eh 55) (LQ (fun(zz:Int)=>fj s zz) fl (dN s) y) (fj s i):=by
 rcases aM h with⟨c1,h⟩|⟨c1,h⟩
 ·obtain⟨c2,bc2,h⟩:=au h
  have p4:=fun{sc F} (r:PS sc F)=>eG (dg underlying9 s)<|sg 0 c1<|sv (dD (k:=.i64) underlying9 bc2)<|r
  rcases aM h with⟨c3,h⟩|⟨c3,h⟩
  ·obtain⟨s5,bs5,h⟩:=au h
   obtain⟨s6,bs6,h⟩:=au h
   obtain rfl:=lf h
   have z:=p4<|sg 0 c3<|xi [0,0,3,0,0,16,56,7,255,511]<|sv (zO underlying9 bs5)<|sv (zO underlying9 bs6)<|eF (fl (.inl (s5,s6))) (dN s (.inl (s5,s6)))
   exact j5 Do (by intro hx;cases hx) z<|by kernel_rfl
  ·obtain rfl:=lf h
   exact qO Do (p4<|sg 0 c3<|eF .normal (fj s (cD (i+1))))<|by kernel_rfl
 ·obtain rfl:=lf h
  have z:=eG (dg underlying9 s)<|sg 0 c1<|eF (fl (.inr ())) (dN s (.inr ()))
  exact j5 Do (by intro hx;cases hx) z<|by kernel_rfl
theorem nf{x:(af×af)⊕(Unit)}(h:mH s i=some x):aE Pg GE 0 (.loop (cA Eh 55)) (EX (fl x) (dN s x)) (fj s i):=
 aE.loop (S:=fun(zz:Int)=>fj s zz) (ex:=fl) (s:=i) h fun zz y hy=>ri s zz hy
end
def l8(s:af):Option (af×af×Bool):=
 (mH s 0).bind fun o7=>match o7 with
 |(.inl o7)=>
  some (o7.1,o7.2,true)
 |(.inr o7)=>
  some (s,([]:af),false)
theorem qv{s:af}{r:af×af×Bool}(h:l8 s=some r):CC Pg GE 44 [.str s] (.tuple [.str r.1,.str r.2.1,.bool r.2.2]) []:=by
 obtain⟨o7,bo7,h⟩:=au h
 rcases o7 with o7|o7
 ·obtain rfl:=lf h
  have z:=dz (e:=.ret) (s1:=dN s (.inl o7)) (nf s 0 bo7)<|en (aI (rP (.tuple [.str o7.1,.str o7.2,.bool true]))<|(aI trivial (aI trivial (aI trivial trivial))))
  exact bv Do call44 func44 (c:=Eh) rfl (aI trivial trivial) z<|by kernel_rfl
 ·obtain rfl:=lf h
  have z:=dz (e:=.exit 0) (s1:=dN s (.inr o7)) (nf s 0 bo7)<|en (aI (rP (.tuple [.str s,.str ([]:af),.bool false]))<|(aI trivial (aI trivial (aI trivial trivial))))
  exact bv Do call44 func44 (c:=Eh) rfl (aI trivial trivial) z<|by kernel_rfl
noncomputable def Fg:Code:=f47.body.getD .skip
def E3:List Nat:=[]
def gI(s:af):Option Bool:=
 if(decide ((s.length:Int)>=1))=true then
  some (decide ((s.length:Int)<=24))
 else
  some false
theorem dO{s:af}{r:Bool}(h:gI s=some r):CC Pg GE 47 [.str s] (.bool r) []:=by
 rcases aM h with⟨c1,h⟩|⟨c1,h⟩
 ·obtain rfl:=lf h
  have z:=eG (dg underlying9 s)<|sg 4 c1<|eG (dg underlying9 s)<|en (aI (rP (.bool (decide ((s.length:Int)<=24))))<|trivial)
  exact bv E3 call47 func47 (c:=Fg) rfl (aI trivial trivial) z<|by kernel_rfl
 ·obtain rfl:=lf h
  have z:=eG (dg underlying9 s)<|sg 4 c1<|en (aI (rP (.bool false))<|trivial)
  exact bv E3 call47 func47 (c:=Fg) rfl (aI trivial trivial) z<|by kernel_rfl
noncomputable def Fi:Code:=f66.body.getD .skip
def E5:List Nat:=[]
def fm(c:Int):Option Bool:=
 if(decide (97<=c))=true then
  some (decide (c<=122))
 else
  some false
theorem hY{c:Int}{r:Bool}(h:fm c=some r):CC Pg GE 66 [.int .u8 c] (.bool r) []:=by
 rcases aM h with⟨c1,h⟩|⟨c1,h⟩
 ·obtain rfl:=lf h
  have z:=sg 3 c1<|en (aI (rP (.bool (decide (c<=122))))<|trivial)
  exact bv E5 call66 func66 (c:=Fi) rfl (aI trivial trivial) z<|by kernel_rfl
 ·obtain rfl:=lf h
  have z:=sg 3 c1<|en (aI (rP (.bool false))<|trivial)
  exact bv E5 call66 func66 (c:=Fi) rfl (aI trivial trivial) z<|by kernel_rfl
noncomputable def Ek:Code:=f67.body.getD .skip
def Dr:List Nat:=[]
section
variable(s:af)(t6:Int)
def cP:aj:=a7 13 [(0,.str s),(5,.agg (aS.map PVal.str)),(6,.int .i64 t6)] [] []
def cR(o:Unit⊕(Unit)):Exit:=match o with
 |(.inl _)=>.ret
 |(.inr _)=>.exit 0
def ce(o:Unit⊕(Unit)):aj:=match o with
 |(.inl o)=>a7 13 [(2,.bool true)] [] []
 |(.inr o)=>a7 13 [] [] []
def cQ:Option (Int⊕(Unit⊕(Unit))):=
 if(decide (t6<42))=true then
  (gk aS t6).bind fun x2=>
  if(x2==s)=true then
   some (.inr (.inl ()))
  else
   some (.inl (cD (t6+1)))
 else
  some (.inr (.inr ()))
def iJ:Option (Unit⊕(Unit)):=loop (fun(zz:Int)=>cQ s zz) t6
theorem nZ{y:Int⊕(Unit⊕(Unit))}(h:cQ s t6=some y):aE Pg GE 0 (cA Ek 55) (LQ (fun(zz:Int)=>cP s zz) cR ce y) (cP s t6):=by
 rcases aM h with⟨c1,h⟩|⟨c1,h⟩
 ·obtain⟨x2,bx2,h⟩:=au h
  have p4:=fun{sc F} (r:PS sc F)=>sg 0 c1<|sv (qw (k:=.i64) bx2)<|r
  rcases aM h with⟨c3,h⟩|⟨c3,h⟩
  ·obtain rfl:=lf h
   have z:=p4<|sg 0 c3<|eF (cR (.inl ())) (ce (.inl ()))
   exact j5 Dr (by intro hx;cases hx) z<|by kernel_rfl
  ·obtain rfl:=lf h
   exact qO Dr (p4<|sg 0 c3<|eF .normal (cP s (cD (t6+1))))<|by kernel_rfl
 ·obtain rfl:=lf h
  have z:=sg 0 c1<|eF (cR (.inr ())) (ce (.inr ()))
  exact j5 Dr (by intro hx;cases hx) z<|by kernel_rfl
theorem jz{x:Unit⊕(Unit)}(h:iJ s t6=some x):aE Pg GE 0 (.loop (cA Ek 55)) (EX (cR x) (ce x)) (cP s t6):=
 aE.loop (S:=fun(zz:Int)=>cP s zz) (ex:=cR) (s:=t6) h fun zz y hy=>nZ s zz hy
end
def iV(s:af):Option Bool:=
 (iJ s 0).bind fun o5=>match o5 with
 |(.inl o5)=>
  some true
 |(.inr o5)=>
  some false
theorem rh{s:af}{r:Bool}(h:iV s=some r):CC Pg GE 67 [.str s] (.bool r) []:=by
 obtain⟨o5,bo5,h⟩:=au h
 rcases o5 with o5|o5
 ·obtain rfl:=lf h
  have z:=sv lh<|dz (e:=.ret) (s1:=ce (.inl o5)) (jz s 0 bo5)<|en (aI (rP (.bool true))<|trivial)
  exact bv Dr call67 func67 (c:=Ek) rfl (aI trivial trivial) z<|by kernel_rfl
 ·obtain rfl:=lf h
  have z:=sv lh<|dz (e:=.exit 0) (s1:=ce (.inr o5)) (jz s 0 bo5)<|en (aI (rP (.bool false))<|trivial)
  exact bv Dr call67 func67 (c:=Ek) rfl (aI trivial trivial) z<|by kernel_rfl
noncomputable def Fj:Code:=f68.body.getD .skip
def E6:List Nat:=[]
def gH(c:Int):Option Bool:=
 if(decide (48<=c))=true then
  some (decide (c<=57))
 else
  some false
theorem ko{c:Int}{r:Bool}(h:gH c=some r):CC Pg GE 68 [.int .u8 c] (.bool r) []:=by
 rcases aM h with⟨c1,h⟩|⟨c1,h⟩
 ·obtain rfl:=lf h
  have z:=sg 3 c1<|en (aI (rP (.bool (decide (c<=57))))<|trivial)
  exact bv E6 call68 func68 (c:=Fj) rfl (aI trivial trivial) z<|by kernel_rfl
 ·obtain rfl:=lf h
  have z:=sg 3 c1<|en (aI (rP (.bool false))<|trivial)
  exact bv E6 call68 func68 (c:=Fj) rfl (aI trivial trivial) z<|by kernel_rfl
noncomputable def CO:Code:=f45.body.getD .skip
def AC:List Nat:=[]
section
variable(s:af)
def sW:aj:=a7 41 [(0,.str s)] [] []
def gp(o:Bool):aj:=a7 41 [(0,.str s),(16,.bool o)] [] []
def iW:Option Bool:=
 (gI s).bind fun r1=>
 if(!r1)=true then
  some true
 else
  (fL s 0).bind fun c3=>
  (fm c3).bind fun r4=>
  if(!r4)=true then
   some true
  else
   (iV s).bind fun r7=>
   some r7
theorem rl{x:Bool}(h:iW s=some x):aE Pg GE 0 (cA CO 12) (EX .normal (gp s x)) (sW s):=by
 obtain⟨r1,br1,h⟩:=au h
 rcases aM h with⟨c2,h⟩|⟨c2,h⟩
 ·obtain rfl:=lf h
  exact di AC (bY (dO br1)<|sg 4 c2<|eF .normal (gp s true))<|by kernel_rfl
 ·obtain⟨c3,bc3,h⟩:=au h
  obtain⟨r4,br4,h⟩:=au h
  have p6:=fun{sc F} (r:PS sc F)=>bY (dO br1)<|sg 4 c2<|sv (dD (k:=.i64) underlying9 bc3)<|bY (hY br4)<|r
  rcases aM h with⟨c5,h⟩|⟨c5,h⟩
  ·obtain rfl:=lf h
   exact di AC (p6<|sg 10 c5<|eF .normal (gp s true))<|by kernel_rfl
  ·obtain⟨r7,br7,h⟩:=au h
   obtain rfl:=lf h
   exact di AC (p6<|sg 10 c5<|bY (rh br7)<|eF .normal (gp s r7))<|by kernel_rfl
end
section
variable(s:af)(i:Int)
def sX:aj:=a7 41 [(0,.str s),(3,.int .i64 i)] [] []
def gq(o:Bool):aj:=a7 41 [(0,.str s),(3,.int .i64 i),(40,.bool o)] [] []
def iX:Option Bool:=
 (fL s i).bind fun c12=>
 (fm c12).bind fun r13=>
 if(!r13)=true then
  (fL s i).bind fun c16=>
  (gH c16).bind fun r17=>
  if(!r17)=true then
   (fL s i).bind fun c20=>
   some (c20 !=95)
  else
   some false
 else
  some false
theorem rn{x:Bool}(h:iX s i=some x):aE Pg GE 0 (cA CO 1914) (EX .normal (gq s i x)) (sX s i):=by
 obtain⟨c12,bc12,h⟩:=au h
 obtain⟨r13,br13,h⟩:=au h
 have p15:=fun{sc F} (r:PS sc F)=>sv (dD (k:=.i64) underlying9 bc12)<|bY (hY br13)<|r
 rcases aM h with⟨c14,h⟩|⟨c14,h⟩
 ·obtain⟨c16,bc16,h⟩:=au h
  obtain⟨r17,br17,h⟩:=au h
  have p19:=fun{sc F} (r:PS sc F)=>p15<|sg 6 c14<|sv (dD (k:=.i64) underlying9 bc16)<|bY (ko br17)<|r
  rcases aM h with⟨c18,h⟩|⟨c18,h⟩
  ·obtain⟨c20,bc20,h⟩:=au h
   obtain rfl:=lf h
   exact di AC (p19<|sg 13 c18<|sv (dD (k:=.i64) underlying9 bc20)<|eF .normal (gq s i (c20 !=95)))<|by kernel_rfl
  ·obtain rfl:=lf h
   exact di AC (p19<|sg 13 c18<|eF .normal (gq s i false))<|by kernel_rfl
 ·obtain rfl:=lf h
  exact di AC (p15<|sg 6 c14<|eF .normal (gq s i false))<|by kernel_rfl
end
section
variable(s:af)(i:Int)
def eo:aj:=a7 41 [(0,.str s),(3,.int .i64 i)] [] []
def ep(o:Unit⊕(Unit)):Exit:=match o with
 |(.inl _)=>.ret
 |(.inr _)=>.exit 0
def dn(o:Unit⊕(Unit)):aj:=match o with
 |(.inl o)=>a7 41 [(2,.bool false)] [] []
 |(.inr o)=>a7 41 [] [] []
def gr:Option (Int⊕(Unit⊕(Unit))):=
 if(decide (i<(s.length:Int)))=true then
  (iX s i).bind fun o21=>
  if o21=true then
   some (.inr (.inl ()))
  else
   some (.inl (cD (i+1)))
 else
  some (.inr (.inr ()))
def iY:Option (Unit⊕(Unit)):=loop (fun(zz:Int)=>gr s zz) i
theorem qx{y:Int⊕(Unit⊕(Unit))}(h:gr s i=some y):aE Pg GE 0 (cA CO 119) (LQ (fun(zz:Int)=>eo s zz) ep dn y) (eo s i):=by
 rcases aM h with⟨c11,h⟩|⟨c11,h⟩
 ·obtain⟨o21,bo21,h⟩:=au h
  have p23:=fun{sc F} (r:PS sc F)=>eG (dg underlying9 s)<|sg 0 c11<|oX 1<|dz (rn s i bo21)<|r
  rcases aM h with⟨c22,h⟩|⟨c22,h⟩
  ·obtain rfl:=lf h
   have z:=p23<|sg 0 c22<|eF (ep (.inl ())) (dn (.inl ()))
   exact j5 AC (by intro hx;cases hx) z<|by kernel_rfl
  ·obtain rfl:=lf h
   exact qO AC (p23<|sg 0 c22<|eF .normal (eo s (cD (i+1))))<|by kernel_rfl
 ·obtain rfl:=lf h
  have z:=eG (dg underlying9 s)<|sg 0 c11<|eF (ep (.inr ())) (dn (.inr ()))
  exact j5 AC (by intro hx;cases hx) z<|by kernel_rfl
theorem ma{x:Unit⊕(Unit)}(h:iY s i=some x):aE Pg GE 0 (.loop (cA CO 119)) (EX (ep x) (dn x)) (eo s i):=
 aE.loop (S:=fun(zz:Int)=>eo s zz) (ex:=ep) (s:=i) h fun zz y hy=>qx s zz hy
end
def mI(s:af):Option Bool:=
 (iW s).bind fun o8=>
 if o8=true then
  some false
 else
  (iY s 1).bind fun o24=>match o24 with
  |(.inl o24)=>
   some false
  |(.inr o24)=>
   some true
theorem pu{s:af}{r:Bool}(h:mI s=some r):CC Pg GE 45 [.str s] (.bool r) []:=by
 obtain⟨o8,bo8,h⟩:=au h
 have p10:=fun{sc F} (r:PS sc F)=>oX 2<|dz (rl s bo8)<|r
 rcases aM h with⟨c9,h⟩|⟨c9,h⟩
 ·obtain rfl:=lf h
  have z:=p10<|sg 0 c9<|en (aI (rP (.bool false))<|trivial)
  exact bv AC call45 func45 (c:=CO) rfl (aI trivial trivial) z<|by kernel_rfl
 ·obtain⟨o24,bo24,h⟩:=au h
  rcases o24 with o24|o24
  ·obtain rfl:=lf h
   have z:=p10<|sg 0 c9<|dz (e:=.ret) (s1:=dn (.inl o24)) (ma s 1 bo24)<|en (aI (rP (.bool false))<|trivial)
   exact bv AC call45 func45 (c:=CO) rfl (aI trivial trivial) z<|by kernel_rfl
  ·obtain rfl:=lf h
   have z:=p10<|sg 0 c9<|dz (e:=.exit 0) (s1:=dn (.inr o24)) (ma s 1 bo24)<|en (aI (rP (.bool true))<|trivial)
   exact bv AC call45 func45 (c:=CO) rfl (aI trivial trivial) z<|by kernel_rfl
noncomputable def Fk:Code:=f69.body.getD .skip
def E7:List Nat:=[]
def gb(c:Int):Option Bool:=
 if(decide (65<=c))=true then
  some (decide (c<=90))
 else
  some false
theorem l7{c:Int}{r:Bool}(h:gb c=some r):CC Pg GE 69 [.int .u8 c] (.bool r) []:=by
 rcases aM h with⟨c1,h⟩|⟨c1,h⟩
 ·obtain rfl:=lf h
  have z:=sg 3 c1<|en (aI (rP (.bool (decide (c<=90))))<|trivial)
  exact bv E7 call69 func69 (c:=Fk) rfl (aI trivial trivial) z<|by kernel_rfl
 ·obtain rfl:=lf h
  have z:=sg 3 c1<|en (aI (rP (.bool false))<|trivial)
  exact bv E7 call69 func69 (c:=Fk) rfl (aI trivial trivial) z<|by kernel_rfl
noncomputable def DG:Code:=f48.body.getD .skip
def Cq:List Nat:=[]
section
variable(s:af)(i:Int)
def lY:aj:=a7 29 [(0,.str s),(3,.int .i64 i)] [] []
def ct(o:Bool):aj:=a7 29 [(0,.str s),(3,.int .i64 i),(28,.bool o)] [] []
def db:Option Bool:=
 (fL s i).bind fun c2=>
 (fm c2).bind fun r3=>
 if(!r3)=true then
  (fL s i).bind fun c6=>
  (gb c6).bind fun r7=>
  if(!r7)=true then
   (fL s i).bind fun c10=>
   (gH c10).bind fun r11=>
   some (!r11)
  else
   some false
 else
  some false
theorem lD{x:Bool}(h:db s i=some x):aE Pg GE 0 (cA DG 890) (EX .normal (ct s i x)) (lY s i):=by
 obtain⟨c2,bc2,h⟩:=au h
 obtain⟨r3,br3,h⟩:=au h
 have p5:=fun{sc F} (r:PS sc F)=>sv (dD (k:=.i64) underlying9 bc2)<|bY (hY br3)<|r
 rcases aM h with⟨c4,h⟩|⟨c4,h⟩
 ·obtain⟨c6,bc6,h⟩:=au h
  obtain⟨r7,br7,h⟩:=au h
  have p9:=fun{sc F} (r:PS sc F)=>p5<|sg 6 c4<|sv (dD (k:=.i64) underlying9 bc6)<|bY (l7 br7)<|r
  rcases aM h with⟨c8,h⟩|⟨c8,h⟩
  ·obtain⟨c10,bc10,h⟩:=au h
   obtain⟨r11,br11,h⟩:=au h
   obtain rfl:=lf h
   exact di Cq (p9<|sg 13 c8<|sv (dD (k:=.i64) underlying9 bc10)<|bY (ko br11)<|eF .normal (ct s i (!r11)))<|by kernel_rfl
  ·obtain rfl:=lf h
   exact di Cq (p9<|sg 13 c8<|eF .normal (ct s i false))<|by kernel_rfl
 ·obtain rfl:=lf h
  exact di Cq (p5<|sg 6 c4<|eF .normal (ct s i false))<|by kernel_rfl
end
section
variable(s:af)(i:Int)
def bH:aj:=a7 29 [(0,.str s),(3,.int .i64 i)] [] []
def bJ(o:Unit⊕(Unit)):Exit:=match o with
 |(.inl _)=>.ret
 |(.inr _)=>.exit 0
def bj(o:Unit⊕(Unit)):aj:=match o with
 |(.inl o)=>a7 29 [(2,.bool false)] [] []
 |(.inr o)=>a7 29 [] [] []
def bI:Option (Int⊕(Unit⊕(Unit))):=
 if(decide (i<(s.length:Int)))=true then
  (db s i).bind fun o12=>
  if o12=true then
   some (.inr (.inl ()))
  else
   some (.inl (cD (i+1)))
 else
  some (.inr (.inr ()))
def eJ:Option (Unit⊕(Unit)):=loop (fun(zz:Int)=>bI s zz) i
theorem kG{y:Int⊕(Unit⊕(Unit))}(h:bI s i=some y):aE Pg GE 0 (cA DG 55) (LQ (fun(zz:Int)=>bH s zz) bJ bj y) (bH s i):=by
 rcases aM h with⟨c1,h⟩|⟨c1,h⟩
 ·obtain⟨o12,bo12,h⟩:=au h
  have p14:=fun{sc F} (r:PS sc F)=>eG (dg underlying9 s)<|sg 0 c1<|oX 1<|dz (lD s i bo12)<|r
  rcases aM h with⟨c13,h⟩|⟨c13,h⟩
  ·obtain rfl:=lf h
   have z:=p14<|sg 0 c13<|eF (bJ (.inl ())) (bj (.inl ()))
   exact j5 Cq (by intro hx;cases hx) z<|by kernel_rfl
  ·obtain rfl:=lf h
   exact qO Cq (p14<|sg 0 c13<|eF .normal (bH s (cD (i+1))))<|by kernel_rfl
 ·obtain rfl:=lf h
  have z:=eG (dg underlying9 s)<|sg 0 c1<|eF (bJ (.inr ())) (bj (.inr ()))
  exact j5 Cq (by intro hx;cases hx) z<|by kernel_rfl
theorem ga{x:Unit⊕(Unit)}(h:eJ s i=some x):aE Pg GE 0 (.loop (cA DG 55)) (EX (bJ x) (bj x)) (bH s i):=
 aE.loop (S:=fun(zz:Int)=>bH s zz) (ex:=bJ) (s:=i) h fun zz y hy=>kG s zz hy
end
def cT(s:af):Option Bool:=
 (eJ s 0).bind fun o15=>match o15 with
 |(.inl o15)=>
  some false
 |(.inr o15)=>
  some true
theorem im{s:af}{r:Bool}(h:cT s=some r):CC Pg GE 48 [.str s] (.bool r) []:=by
 obtain⟨o15,bo15,h⟩:=au h
 rcases o15 with o15|o15
 ·obtain rfl:=lf h
  have z:=dz (e:=.ret) (s1:=bj (.inl o15)) (ga s 0 bo15)<|en (aI (rP (.bool false))<|trivial)
  exact bv Cq call48 func48 (c:=DG) rfl (aI trivial trivial) z<|by kernel_rfl
 ·obtain rfl:=lf h
  have z:=dz (e:=.exit 0) (s1:=bj (.inr o15)) (ga s 0 bo15)<|en (aI (rP (.bool true))<|trivial)
  exact bv Cq call48 func48 (c:=DG) rfl (aI trivial trivial) z<|by kernel_rfl
noncomputable def Dk:Code:=f46.body.getD .skip
def Cp:List Nat:=[]
section
variable(s:af)
def rq:aj:=a7 31 [(0,.str s)] [] []
def fF(o:Bool):aj:=a7 31 [(0,.str s),(16,.bool o)] [] []
def hZ:Option Bool:=
 (gI s).bind fun r1=>
 if(!r1)=true then
  some true
 else
  (fL s 0).bind fun c3=>
  (gb c3).bind fun r4=>
  if(!r4)=true then
   some true
  else
   (cT s).bind fun r7=>
   some (!r7)
theorem qz{x:Bool}(h:hZ s=some x):aE Pg GE 0 (cA Dk 12) (EX .normal (fF s x)) (rq s):=by
 obtain⟨r1,br1,h⟩:=au h
 rcases aM h with⟨c2,h⟩|⟨c2,h⟩
 ·obtain rfl:=lf h
  exact di Cp (bY (dO br1)<|sg 4 c2<|eF .normal (fF s true))<|by kernel_rfl
 ·obtain⟨c3,bc3,h⟩:=au h
  obtain⟨r4,br4,h⟩:=au h
  have p6:=fun{sc F} (r:PS sc F)=>bY (dO br1)<|sg 4 c2<|sv (dD (k:=.i64) underlying9 bc3)<|bY (l7 br4)<|r
  rcases aM h with⟨c5,h⟩|⟨c5,h⟩
  ·obtain rfl:=lf h
   exact di Cp (p6<|sg 10 c5<|eF .normal (fF s true))<|by kernel_rfl
  ·obtain⟨r7,br7,h⟩:=au h
   obtain rfl:=lf h
   exact di Cp (p6<|sg 10 c5<|bY (im br7)<|eF .normal (fF s (!r7)))<|by kernel_rfl
end
def li(s:af):Option Bool:=
 (hZ s).bind fun o8=>
 if o8=true then
  some false
 else
  if (!(s == ([73,110,116]:af))) = true then
   if(!(s==([66,111,111,108]:af)))=true then
    if(!(s==([67,101,108,108]:af)))=true then
     some (!(s==([70,117,110]:af)))
    else
     some false
   else
    some false
  else
   some false
theorem ur{s:af}{r:Bool}(h:li s=some r):CC Pg GE 46 [.str s] (.bool r) []:=by
 obtain⟨o8,bo8,h⟩:=au h
 have p10:=fun{sc F} (r:PS sc F)=>oX 2<|dz (qz s bo8)<|r
 rcases aM h with⟨c9,h⟩|⟨c9,h⟩
 ·obtain rfl:=lf h
  have z:=p10<|sg 0 c9<|en (aI (rP (.bool false))<|trivial)
  exact bv Cp call46 func46 (c:=Dk) rfl (aI trivial trivial) z<|by kernel_rfl
 ·have p12:=fun{sc F} (r:PS sc F)=>p10<|sg 0 c9<|r
  rcases aM h with⟨c11,h⟩|⟨c11,h⟩
  ·have p14:=fun{sc F} (r:PS sc F)=>p12<|sg 3 c11<|r
   rcases aM h with⟨c13,h⟩|⟨c13,h⟩
   ·have p16:=fun{sc F} (r:PS sc F)=>p14<|sg 7 c13<|r
    rcases aM h with⟨c15,h⟩|⟨c15,h⟩
    ·obtain rfl:=lf h
     have z:=p16<|sg 11 c15<|en (aI (rP (.bool (!(s==([70,117,110]:af)))))<|trivial)
     exact bv Cp call46 func46 (c:=Dk) rfl (aI trivial trivial) z<|by kernel_rfl
    ·obtain rfl:=lf h
     have z:=p16<|sg 11 c15<|en (aI (rP (.bool false))<|trivial)
     exact bv Cp call46 func46 (c:=Dk) rfl (aI trivial trivial) z<|by kernel_rfl
   ·obtain rfl:=lf h
    have z:=p14<|sg 7 c13<|en (aI (rP (.bool false))<|trivial)
    exact bv Cp call46 func46 (c:=Dk) rfl (aI trivial trivial) z<|by kernel_rfl
  ·obtain rfl:=lf h
   have z:=p12<|sg 3 c11<|en (aI (rP (.bool false))<|trivial)
   exact bv Cp call46 func46 (c:=Dk) rfl (aI trivial trivial) z<|by kernel_rfl
noncomputable def DH:Code:=f49.body.getD .skip
def BO:List Nat:=[]
section
variable(s:af)(i:Int)
def sY:aj:=a7 32 [(0,.str s),(3,.int .i64 i)] [] []
def er(o:Bool):aj:=a7 32 [(0,.str s),(3,.int .i64 i),(31,.bool o)] [] []
def iZ:Option Bool:=
 (fL s i).bind fun c2=>
 (fm c2).bind fun r3=>
 if (!r3) = true then
  if(i==0)=true then
   some true
  else
   (fL s i).bind fun c8=>
   (gH c8).bind fun r9=>
   if(!r9)=true then
    (fL s i).bind fun c12=>
    some (c12 !=95)
   else
    some false
 else
  some false
theorem rt{x:Bool}(h:iZ s i=some x):aE Pg GE 0 (cA DH 890) (EX .normal (er s i x)) (sY s i):=by
 obtain⟨c2,bc2,h⟩:=au h
 obtain⟨r3,br3,h⟩:=au h
 have p5:=fun{sc F} (r:PS sc F)=>sv (dD (k:=.i64) underlying9 bc2)<|bY (hY br3)<|r
 rcases aM h with⟨c4,h⟩|⟨c4,h⟩
 ·have p7:=fun{sc F} (r:PS sc F)=>p5<|sg 6 c4<|r
  rcases aM h with⟨c6,h⟩|⟨c6,h⟩
  ·obtain rfl:=lf h
   exact di BO (p7<|sg 9 c6<|eF .normal (er s i true))<|by kernel_rfl
  ·obtain⟨c8,bc8,h⟩:=au h
   obtain⟨r9,br9,h⟩:=au h
   have p11:=fun{sc F} (r:PS sc F)=>p7<|sg 9 c6<|sv (dD (k:=.i64) underlying9 bc8)<|bY (ko br9)<|r
   rcases aM h with⟨c10,h⟩|⟨c10,h⟩
   ·obtain⟨c12,bc12,h⟩:=au h
    obtain rfl:=lf h
    exact di BO (p11<|sg 15 c10<|sv (dD (k:=.i64) underlying9 bc12)<|eF .normal (er s i (c12 !=95)))<|by kernel_rfl
   ·obtain rfl:=lf h
    exact di BO (p11<|sg 15 c10<|eF .normal (er s i false))<|by kernel_rfl
 ·obtain rfl:=lf h
  exact di BO (p5<|sg 6 c4<|eF .normal (er s i false))<|by kernel_rfl
end
section
variable(s:af)(i:Int)
def eu:aj:=a7 32 [(0,.str s),(3,.int .i64 i)] [] []
def ey(o:Unit⊕(Unit)):Exit:=match o with
 |(.inl _)=>.ret
 |(.inr _)=>.exit 0
def dp(o:Unit⊕(Unit)):aj:=match o with
 |(.inl o)=>a7 32 [(2,.bool false)] [] []
 |(.inr o)=>a7 32 [] [] []
def ew:Option (Int⊕(Unit⊕(Unit))):=
 if(decide (i<(s.length:Int)))=true then
  (iZ s i).bind fun o13=>
  if o13=true then
   some (.inr (.inl ()))
  else
   some (.inl (cD (i+1)))
 else
  some (.inr (.inr ()))
def lE:Option (Unit⊕(Unit)):=loop (fun(zz:Int)=>ew s zz) i
theorem qA{y:Int⊕(Unit⊕(Unit))}(h:ew s i=some y):aE Pg GE 0 (cA DH 55) (LQ (fun(zz:Int)=>eu s zz) ey dp y) (eu s i):=by
 rcases aM h with⟨c1,h⟩|⟨c1,h⟩
 ·obtain⟨o13,bo13,h⟩:=au h
  have p15:=fun{sc F} (r:PS sc F)=>eG (dg underlying9 s)<|sg 0 c1<|oX 1<|dz (rt s i bo13)<|r
  rcases aM h with⟨c14,h⟩|⟨c14,h⟩
  ·obtain rfl:=lf h
   have z:=p15<|sg 0 c14<|eF (ey (.inl ())) (dp (.inl ()))
   exact j5 BO (by intro hx;cases hx) z<|by kernel_rfl
  ·obtain rfl:=lf h
   exact qO BO (p15<|sg 0 c14<|eF .normal (eu s (cD (i+1))))<|by kernel_rfl
 ·obtain rfl:=lf h
  have z:=eG (dg underlying9 s)<|sg 0 c1<|eF (ey (.inr ())) (dp (.inr ()))
  exact j5 BO (by intro hx;cases hx) z<|by kernel_rfl
theorem mb{x:Unit⊕(Unit)}(h:lE s i=some x):aE Pg GE 0 (.loop (cA DH 55)) (EX (ey x) (dp x)) (eu s i):=
 aE.loop (S:=fun(zz:Int)=>eu s zz) (ex:=ey) (s:=i) h fun zz y hy=>qA s zz hy
end
def mJ(s:af):Option Bool:=
 (lE s 0).bind fun o16=>match o16 with
 |(.inl o16)=>
  some false
 |(.inr o16)=>
  some true
theorem vK{s:af}{r:Bool}(h:mJ s=some r):CC Pg GE 49 [.str s] (.bool r) []:=by
 obtain⟨o16,bo16,h⟩:=au h
 rcases o16 with o16|o16
 ·obtain rfl:=lf h
  have z:=dz (e:=.ret) (s1:=dp (.inl o16)) (mb s 0 bo16)<|en (aI (rP (.bool false))<|trivial)
  exact bv BO call49 func49 (c:=DH) rfl (aI trivial trivial) z<|by kernel_rfl
 ·obtain rfl:=lf h
  have z:=dz (e:=.exit 0) (s1:=dp (.inr o16)) (mb s 0 bo16)<|en (aI (rP (.bool true))<|trivial)
  exact bv BO call49 func49 (c:=DH) rfl (aI trivial trivial) z<|by kernel_rfl
noncomputable def Cs:Code:=f25.body.getD .skip
def zg:List Nat:=[]
section
variable(first:af)(rest:af)(more:Bool)
def sU:aj:=a7 52 [(3,.str first),(4,.str rest),(5,.bool more)] [] []
def ei(o:Bool):aj:=a7 52 [(4,.str rest),(5,.bool more),(31,.bool o)] [] []
def iT:Option Bool:=
 (mI first).bind fun r3=>
 if (!r3) = true then
  (li first).bind fun r5=>
  if(!r5)=true then
   if(!(first==([118]:af)))=true then
    some true
   else
    some (!more)
  else
   some false
 else
  some false
theorem q7{x:Bool}(h:iT first more=some x):aE Pg GE 0 (cA Cs 60) (EX .normal (ei rest more x)) (sU first rest more):=by
 obtain⟨r3,br3,h⟩:=au h
 rcases aM h with⟨c4,h⟩|⟨c4,h⟩
 ·obtain⟨r5,br5,h⟩:=au h
  have p7:=fun{sc F} (r:PS sc F)=>bY (pu br3)<|sg 4 c4<|bY (ur br5)<|r
  rcases aM h with⟨c6,h⟩|⟨c6,h⟩
  ·have p9:=fun{sc F} (r:PS sc F)=>p7<|sg 9 c6<|r
   rcases aM h with⟨c8,h⟩|⟨c8,h⟩
   ·obtain rfl:=lf h
    exact di zg (p9<|sg 12 c8<|eF .normal (ei rest more true))<|by kernel_rfl
   ·obtain rfl:=lf h
    exact di zg (p9<|sg 12 c8<|eF .normal (ei rest more (!more)))<|by kernel_rfl
  ·obtain rfl:=lf h
   exact di zg (p7<|sg 9 c6<|eF .normal (ei rest more false))<|by kernel_rfl
 ·obtain rfl:=lf h
  exact di zg (bY (pu br3)<|sg 4 c4<|eF .normal (ei rest more false))<|by kernel_rfl
end
section
variable(rest:af)(more:Bool)(part:af)
def sV:aj:=a7 52 [(4,.str rest),(5,.bool more),(6,.str part)] [] []
def gn(o:Bool):aj:=a7 52 [(4,.str rest),(5,.bool more),(51,.bool o)] [] []
def iU:Option Bool:=
 (gI part).bind fun r15=>
 if(!r15)=true then
  some true
 else
  (cT part).bind fun r17=>
  if(!r17)=true then
   (mJ part).bind fun r20=>
   some (!r20)
  else
   some false
theorem ra{x:Bool}(h:iU part=some x):aE Pg GE 0 (cA Cs 8062) (EX .normal (gn rest more x)) (sV rest more part):=by
 obtain⟨r15,br15,h⟩:=au h
 rcases aM h with⟨c16,h⟩|⟨c16,h⟩
 ·obtain rfl:=lf h
  exact di zg (bY (dO br15)<|sg 4 c16<|eF .normal (gn rest more true))<|by kernel_rfl
 ·obtain⟨r17,br17,h⟩:=au h
  have p19:=fun{sc F} (r:PS sc F)=>bY (dO br15)<|sg 4 c16<|bY (im br17)<|r
  rcases aM h with⟨c18,h⟩|⟨c18,h⟩
  ·obtain⟨r20,br20,h⟩:=au h
   obtain rfl:=lf h
   exact di zg (p19<|sg 8 c18<|bY (vK br20)<|eF .normal (gn rest more (!r20)))<|by kernel_rfl
  ·obtain rfl:=lf h
   exact di zg (p19<|sg 8 c18<|eF .normal (gn rest more false))<|by kernel_rfl
end
section
variable(rest:af)(more:Bool)
def ej:aj:=a7 52 [(4,.str rest),(5,.bool more)] [] []
def ek(o:Unit⊕(Unit)):Exit:=match o with
 |(.inl _)=>.ret
 |(.inr _)=>.exit 0
def dm(o:Unit⊕(Unit)):aj:=match o with
 |(.inl o)=>a7 52 [(2,.int .i64 3)] [] []
 |(.inr o)=>a7 52 [] [] []
def dl:Option ((af×Bool)⊕(Unit⊕(Unit))):=
 if more=true then
  (l8 rest).bind fun r14=>
  (iU r14.1).bind fun o21=>
  if o21=true then
   some (.inr (.inl ()))
  else
   some (.inl (r14.2.1,r14.2.2))
 else
  some (.inr (.inr ()))
def cH:Option (Unit⊕(Unit)):=loop (fun(zz:af×Bool)=>dl zz.1 zz.2) (rest,more)
theorem qr{y:(af×Bool)⊕(Unit⊕(Unit))}(h:dl rest more=some y):aE Pg GE 0 (cA Cs 251) (LQ (fun(zz:af×Bool)=>ej zz.1 zz.2) ek dm y) (ej rest more):=by
 rcases aM h with⟨c13,h⟩|⟨c13,h⟩
 ·obtain⟨r14,br14,h⟩:=au h
  obtain⟨o21,bo21,h⟩:=au h
  have p23:=fun{sc F} (r:PS sc F)=>sg 0 c13<|bY (qv br14)<|oX 0<|dz (ra r14.2.1 r14.2.2 r14.1 bo21)<|r
  rcases aM h with⟨c22,h⟩|⟨c22,h⟩
  ·obtain rfl:=lf h
   have z:=p23<|sg 0 c22<|eF (ek (.inl ())) (dm (.inl ()))
   exact j5 zg (by intro hx;cases hx) z<|by kernel_rfl
  ·obtain rfl:=lf h
   exact qO zg (p23<|sg 0 c22<|eF .normal (ej r14.2.1 r14.2.2))<|by kernel_rfl
 ·obtain rfl:=lf h
  have z:=sg 0 c13<|eF (ek (.inr ())) (dm (.inr ()))
  exact j5 zg (by intro hx;cases hx) z<|by kernel_rfl
theorem lX{x:Unit⊕(Unit)}(h:cH rest more=some x):aE Pg GE 0 (.loop (cA Cs 251)) (EX (ek x) (dm x)) (ej rest more):=
 aE.loop (S:=fun(zz:af×Bool)=>ej zz.1 zz.2) (ex:=ek) (s:=(rest,more)) h fun zz y hy=>qr zz.1 zz.2 hy
end
def kl(s:af):Option Int:=
 if(decide ((s.length:Int)>120))=true then
  some 3
 else
  (l8 s).bind fun r2=>
  (iT r2.1 r2.2.2).bind fun o10=>
  if o10=true then
   some 3
  else
   (cH r2.2.1 r2.2.2).bind fun o24=>match o24 with
   |(.inl o24)=>
    some 3
   |(.inr o24)=>
    some 0
theorem pr{s:af}{r:Int}(h:kl s=some r):CC Pg GE 25 [.str s] (.int .i64 r) []:=by
 rcases aM h with⟨c1,h⟩|⟨c1,h⟩
 ·obtain rfl:=lf h
  have z:=eG (dg underlying9 s)<|sg 0 c1<|en (aI (rP (.int .i64 3))<|trivial)
  exact bv zg call25 func25 (c:=Cs) rfl (aI trivial trivial) z<|by kernel_rfl
 ·obtain⟨r2,br2,h⟩:=au h
  obtain⟨o10,bo10,h⟩:=au h
  have p12:=fun{sc F} (r:PS sc F)=>eG (dg underlying9 s)<|sg 0 c1<|bY (qv br2)<|oX 1<|dz (q7 r2.1 r2.2.1 r2.2.2 bo10)<|r
  rcases aM h with⟨c11,h⟩|⟨c11,h⟩
  ·obtain rfl:=lf h
   have z:=p12<|sg 0 c11<|en (aI (rP (.int .i64 3))<|trivial)
   exact bv zg call25 func25 (c:=Cs) rfl (aI trivial trivial) z<|by kernel_rfl
  ·obtain⟨o24,bo24,h⟩:=au h
   rcases o24 with o24|o24
   ·obtain rfl:=lf h
    have z:=p12<|sg 0 c11<|dz (e:=.ret) (s1:=dm (.inl o24)) (lX r2.2.1 r2.2.2 bo24)<|en (aI (rP (.int .i64 3))<|trivial)
    exact bv zg call25 func25 (c:=Cs) rfl (aI trivial trivial) z<|by kernel_rfl
   ·obtain rfl:=lf h
    have z:=p12<|sg 0 c11<|dz (e:=.exit 0) (s1:=dm (.inr o24)) (lX r2.2.1 r2.2.2 bo24)<|en (aI (rP (.int .i64 0))<|trivial)
    exact bv zg call25 func25 (c:=Cs) rfl (aI trivial trivial) z<|by kernel_rfl
noncomputable def Fc:Code:=f26.body.getD .skip
def EZ:List Nat:=[]
def d6(n:Int):Option Bool:=
 if(decide (n>=0))=true then
  some (decide (n<6))
 else
  some false
theorem jA{n:Int}{r:Bool}(h:d6 n=some r):CC Pg GE 26 [.int .i64 n] (.bool r) []:=by
 rcases aM h with⟨c1,h⟩|⟨c1,h⟩
 ·obtain rfl:=lf h
  have z:=sg 3 c1<|en (aI (rP (.bool (decide (n<6))))<|trivial)
  exact bv EZ call26 func26 (c:=Fc) rfl (aI trivial trivial) z<|by kernel_rfl
 ·obtain rfl:=lf h
  have z:=sg 3 c1<|en (aI (rP (.bool false))<|trivial)
  exact bv EZ call26 func26 (c:=Fc) rfl (aI trivial trivial) z<|by kernel_rfl
noncomputable def EB:Code:=f27.body.getD .skip
def Eu:List Nat:=[]
def eU(a:am)(a2:am):Option Bool:=
 if(decide (a.From<a2.From))=true then
  some true
 else
  if(a.From==a2.From)=true then
   some (decide (a.To<a2.To))
  else
   some false
theorem oA{a:am}{a2:am}{r:Bool}(h:eU a a2=some r):CC Pg GE 27 [.agg (ak a),.agg (ak a2)] (.bool r) []:=by
 have p2:=fun{sc F} (r:PS sc F)=>se (mM a)<|se (mM a2)<|sv (bS a)<|sv (co a)<|sv (bS a2)<|sv (co a2)<|r
 rcases aM h with⟨c1,h⟩|⟨c1,h⟩
 ·obtain rfl:=lf h
  have z:=p2<|sg 6 c1<|en (aI (rP (.bool true))<|trivial)
  exact bv Eu call27 func27 (c:=EB) rfl (aI (aA a) (aI (aA a2) trivial)) z<|by kernel_rfl
 ·have p4:=fun{sc F} (r:PS sc F)=>p2<|sg 6 c1<|sv (bS a)<|sv (co a)<|sv (bS a2)<|sv (co a2)<|r
  rcases aM h with⟨c3,h⟩|⟨c3,h⟩
  ·obtain rfl:=lf h
   have z:=p4<|sg 12 c3<|sv (d9 a)<|sv (fi a)<|sv (d9 a2)<|sv (fi a2)<|en (aI (rP (.bool (decide (a.To<a2.To))))<|trivial)
   exact bv Eu call27 func27 (c:=EB) rfl (aI (aA a) (aI (aA a2) trivial)) z<|by kernel_rfl
  ·obtain rfl:=lf h
   have z:=p4<|sg 12 c3<|en (aI (rP (.bool false))<|trivial)
   exact bv Eu call27 func27 (c:=EB) rfl (aI (aA a) (aI (aA a2) trivial)) z<|by kernel_rfl
end Go.Proofs.YtoficachfgggjaaDoor
