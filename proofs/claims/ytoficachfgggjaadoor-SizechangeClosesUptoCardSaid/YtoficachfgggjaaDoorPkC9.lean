/- PROVED: a part of the proof. Conditions: none. -/
import Derived.Test.YtoficachfgggjaaDoorPkC8
import Derived.Test.YtoficachfgggjaaDoorPkC7
import Derived.Shelf.Strconv.Itoa3
noncomputable section
namespace Go.Proofs.YtoficachfgggjaaDoor
open Go Go.Shelf Go.RowKit Go.Lib Go.Sort
set_option linter.unusedSimpArgs false
set_option linter.unusedVariables false
def mY(n t nb i:Nat)(p:PVal)(e:TypeId):ak:=⟨(List.replicate n .undef).set t (.bptr i 0),(List.replicate nb .dead).set i (.cells [p] [(0,e)]),[]⟩
theorem Gz{n t nb i j:Nat}{p q:PVal}{e:TypeId}(h:(mY n t nb i p e).tmps[j]? =some q):q=.undef\/(j=t/\q=.bptr i 0):=by
 unfold mY at h
 simp only at h
 rw[vbu]at h
 split at h
 ·rename_i hti
  split at h
  ·cases h;exact .inr ⟨hti.symm,rfl⟩
  ·cases h
 ·rw[vaS]at h
  split at h
  ·cases h;exact .inl rfl
  ·cases h
theorem DL{n t nb i j:Nat}{p:PVal}{e:TypeId}{B:aj}(h:(mY n t nb i p e).boxes[j]? =some B):(j=i/\B=.cells [p] [(0,e)])\/(j≠i/\B=.dead):=by
 unfold mY at h
 simp only at h
 rw[vbu]at h
 split at h
 ·rename_i hti
  split at h
  ·cases h;exact .inl ⟨hti.symm,rfl⟩
  ·cases h
 ·rename_i hti
  rw[vaS]at h
  split at h
  ·cases h;exact .inr ⟨fun e=>hti e.symm,rfl⟩
  ·cases h
section
variable{P:Program}{GE:List (Nat×List PVal)}{α:Type}[DecidableEq α]{c:α->List PVal}{ord:α->α->Option Int}
theorem De{T e:TypeId}{K:List Nat}{fs fo rid n t nb i d1 d2:Nat}{o1 o2:Oper}{tys:Array TypeId}{l r:List α}(s:y2 P T e c)(hS:Dm P fs (P.cellsOf e))(hsc:(P.underlying T).any rm=true)
  (hcc:∀x y r,ord x y=some r->CC P GE fo [.agg (c x),.agg (c y)] (.int .i64 r) []) (hof:∀vs w,(callFunc fo vs).run P w=.ok (.enter fo vs) w)
  (hfl:∀x,∀q∈c x,BL K q/\q.kd∈K/\q.kd≠0) (h1:o1.op=.load T (.tmp t)) (h1d:o1.dst=some d1) (h1g:o1.guard=none)
  (h2:o2.op=.call {callee:=.value (.func fs),args:=#[.tmp d1,.func fo],argTypes:=tys}) (h2d:o2.dst=some d2) (h2g:o2.guard=none)
  (hn:t<n/\d1<n/\d2<n/\t≠d1/\t≠d2) (hi:i<nb) (hs:sI ord l=some r):
  aA P GE 0 (.region rid #[o1,o2] false) (EX .normal (mY n t nb i (sl c r) e)) (mY n t nb i (sl c l) e):=by
 obtain⟨n1,n2,n3,n4,n5⟩:=hn
 intro ro E bs0 a w hE hb0 hR
 have hb0:bs0=[]:=vaq hb0
 subst hb0
 refine xD (by simp[eH,h1,h2]) (by rintro⟨_,_,_,_,_,h,_⟩;cases h) ?_
 show wpOps P #[o1,o2] _ [0,1] a w
 obtain⟨Γ,bs,ow,h,hk⟩:=hR
 have hsz:a.tmps.size=n:=by rw[h.sz];simp[mY]
 obtain⟨u,hu⟩:∃u,a.tmps[t]? =some u:=⟨a.tmps[t]'(by omega),vaG (by omega)⟩
 have hpt:=h.tm t (.bptr i 0) u (by simp[mY,n1]) hu
 cases hpt with
 |bptr _ _ b0 hib=>
 have hBi:(mY n t nb i (sl c l) e).boxes[i]? =some (.cells [sl c l] [(0,e)]):=by simp[mY,hi]
 obtain⟨hg0,hlt0,cc,tt,hheap0,hlen0,hvr0⟩:=h.bx i b0 _ hib hBi
 obtain⟨v,hcell,hown,howb⟩:=h.ob i 0 e _ _ b0 hBi (by simp) hib
 have hcc0:cc[0]? =some v:=by rw[<-hcell,cell_of_row w b0 0 cc tt _ hheap0]
 have hvr:VR Γ bs w (sl c l) v:=hvr0 0 _ v rfl hcc0
 have hload:(Instr.loadAt T (.pointer (some ⟨b0,0,none⟩))).run P w=.ok v w:=by
  obtain⟨v',hr,hv'⟩:=fA (P:=P) (w:=w) (Γ:=Γ) (bs:=bs) (b:=b0) (off:=0) (cs:=[.val v]) (vals:=fun _=>v) (pN hsc _ _)
   (fun k q hq=>by
    have hk0:k=0:=by have:=af hq;simp at this;exact this
    subst hk0;exact hcell)
   (fun k q hq=>by
    have hk0:k=0:=by have:=af hq;simp at this;exact this
    subst hk0;simp at hq;subst hq;exact .val v)
  cases hv'
  simp[Instr.loadAt,Instr.sureAddr,hr]
 have hu0:a.eval (.tmp t)=.pointer (some ⟨b0,0,none⟩):=iZ hu
 rw[wpOps_cons]
 unfold wpOp
 rw[show(#[o1,o2]:Array Oper)[0]? =some o1 from rfl]
 simp only
 rw[vaf (by simp[Region.wanted,h1g])]
 refine .inl ?_
 unfold Oper.wp
 rw[show(execOp a.eval o1).run P w=.ok (.value v) w by simp[execOp,h1,hu0,hload],Oper.upon_value]
 rw[wpOps_cons]
 unfold wpOp
 rw[show(#[o1,o2]:Array Oper)[1]? =some o2 from rfl]
 simp only
 rw[vaf (by simp[Region.wanted,h2g])]
 refine .inl ?_
 unfold Oper.wp
 have hu1:(a.put o1.dst v).eval (.tmp d1)=v:=by
  refine iZ ?_
  rw[h1d]
  show(a.tmps.setIfInBounds d1 v)[d1]? =some v
  simp[hsz,n2]
 rw[show(execOp (a.put o1.dst v).eval o2).run P w=.ok (.enter fs #[v,.func (.func fo) #[] #[]]) w by
  simp only[execOp,h2]
  simp[resolve,Act.eval,Deferred.ofValue,invoke,hS.1]
  have hu2:(a.put o1.dst v).tmps.getD d1 undef=v:=hu1
  rw[vav]at hu2
  exact hu2,Oper.upon_enter]
 have hget:∀q:Value,(((a.put o1.dst v).put o2.dst q).tmps)[t]? =some (.pointer (some ⟨b0,0,none⟩))/\(((a.put o1.dst v).put o2.dst q).tmps).size=n:=by
  intro q
  rw[h1d,h2d]
  show((a.tmps.setIfInBounds d1 v).setIfInBounds d2 q)[t]? =_/\((a.tmps.setIfInBounds d1 v).setIfInBounds d2 q).size=n
  refine⟨?_,by simp[hsz]⟩
  rw[vaL n5.symm,vaL n4.symm];exact hu
 have hdef:∀q:Value,((a.put o1.dst v).put o2.dst q).defers=a.defers:=fun q=>(be _ _ _).trans (be _ _ _)
 obtain⟨hokS,hrl⟩:=F2 hs
 obtain⟨happ,hord,hO⟩:=yi hokS
 have htm:∀{bs:aH} {Γ:az} {w:World} {p:PVal} (q:Value),bs[i]? =some (some b0)->∀(j:Nat) x y,(mY n t nb i p e).tmps[j]? =some x->(((a.put o1.dst v).put o2.dst q).tmps)[j]? =some y->VR Γ bs w x y:=by
  intro bs Γ w p q hb j x y hx hy
  rcases Gz hx with rfl|⟨rfl,rfl⟩
  ·exact .undef y
  ·rw[(hget q).1]at hy;cases hy;exact .bptr _ _ _ hb
 have hempty:l=[]->∀q,wpOps P #[o1,o2] (wV P E [] a.defers (EX .normal (mY n t nb i (sl c r) e))) [] ((a.put o1.dst v).put o2.dst q) w:=by
  intro hl q
  subst hl
  have hr:r=[]:=vaq hrl
  subst hr
  refine⟨hdef q,_,⟨Γ,bs,ow,{h with sz:=by rw[(hget q).2];simp[mY],tm:=htm q hib,ot:=fun t k e he=>by simp[mY]at he},hk⟩,rfl,rfl⟩
 unfold sl at hvr
 generalize hes:l.map c=es at hvr
 cases hvr with
 | sliceNil =>
  have hl:l=[]:=by cases l with
   |nil=>rfl
   |cons x l=>simp at hes
  refine(hS.2.2 none 0 _ w).mono fun q w' hr=>?_
  obtain⟨rfl,rfl⟩:=hr
  exact hempty hl _
 | sliceE x cap =>
  have hl:l=[]:=by cases l with
   |nil=>rfl
   |cons x l=>simp at hes
  refine(hS.2.2 (some x) cap _ w).mono fun q w' hr=>?_
  obtain⟨rfl,rfl⟩:=hr
  exact hempty hl _
 | slice _ b off cap m sz vals hz0 hcap hg hm hszs hc hv =>
  obtain⟨kk,xs,⟨hx1,hx2⟩,hx3⟩:=hown
  rcases hx2 with⟨hx2,_⟩|⟨g',cap',cur,hx2,_,hheap,hkc,hcm,hcs,htake⟩
  ·cases hx2
  cases hx2
  subst hes
  by_cases hl0:l=[]
  ·subst hl0
   refine(hS.2.2 (some ⟨b,0,none⟩) cap _ w).mono fun q w' hr=>?_
   obtain⟨rfl,rfl⟩:=hr
   exact hempty rfl _
  have hN:0<l.length:=vbN.2 hl0
  have hlen:(l.map c).length=l.length:=vbJ _
  have hget':∀j,(hj:j<l.length)->(l.map c)[j]? =some (c l[j]):=fun j hj=>by rw[vax,vab hj];rfl
  have hsk:sz=P.cellsOf e:=by rw[<-hszs 0 _ (hget' 0 hN),s.hc]
  subst hsk
  have hΓg:Γ b=some (l.length * P.cellsOf e):=by rw[hx3 b rfl,hlen]
  generalize hkk:P.cellsOf e=k at *
  let cl:Nat->Nat:=fun x=>if x<l.length then x else 0
  have hcl:∀x,cl x<l.length:=fun x=>by show(if x<l.length then x else 0)<_;split<;>omega
  have hcl0:∀x,x<l.length->cl x=x:=fun x hx=>by show(if x<l.length then x else 0)=_;rw[vaf hx]
  let el:Nat->α:=fun x=>l[cl x]'(hcl x)
  have hel:∀x,el x∈l:=fun x=>vaP (hcl x)
  let enc:Nat->List Value:=fun x=>(List.range k).map fun j=>vals (cl x) j
  have henc:∀(x j:Nat) uu,(enc x)[j]? =some uu->j<k/\uu=vals (cl x) j:=fun x j uu hh=>by
   have hh:((List.range k).map fun j=>vals (cl x) j)[j]? =some uu:=hh
   rw[vax]at hh
   by_cases hj:j<k
   ·rw[vaX hj]at hh;cases hh;exact⟨hj,rfl⟩
   ·rw[vaA (by simp;omega)]at hh;cases hh
  have hencl:∀x,(enc x).length=k:=fun x=>by show((List.range k).map _).length=k;simp
  have hencg:∀(x j:Nat),j<k->(enc x)[j]! =vals (cl x) j:=fun x j hj=>by
   rw[List.getElem!_eq_getElem?_getD]
   have:(enc x)[j]? =some (vals (cl x) j):=by
    show((List.range k).map fun j=>vals (cl x) j)[j]? =_
    rw[vax,vaX hj];rfl
   rw[this];rfl
  have hqe:∀(x j:Nat),j<k->∃q,(c (el x))[j]? =some q/\q∈c (el x)/\VR Γ bs w q (vals (cl x) j):=fun x j hj=>by
   have hjl:j<(c (el x)).length:=by rw[s.hc];omega
   exact⟨_,vab hjl,vaP hjl,hv (cl x) _ j _ (hget' _ (hcl x)) (vab hjl)⟩
  have hvre:∀(x j:Nat) q uu,(c (el x))[j]? =some q->(enc x)[j]? =some uu->VR Γ bs w q uu:=fun x j q uu hq huu=>by
   obtain⟨hj,rfl⟩:=henc x j uu huu
   exact hv (cl x) _ j q (hget' _ (hcl x)) hq
  have hone:∀x,∀uu∈enc x,uu.oneCell'=true:=fun x uu huu=>by
   obtain⟨j,hj⟩:=vbt huu
   obtain⟨hjk,rfl⟩:=henc x j uu hj
   obtain⟨q,_,hqm,hqv⟩:=hqe x j hjk
   exact hqv.one (s.ho _ q hqm)
  have hcelli:∀(x j:Nat),x<l.length->j<k->w.cell? ⟨b,0+(x * k+j),none⟩=some (vals x j):=fun x j hx hj=>by
   have hjl:j<(c l[x]).length:=by rw[s.hc];omega
   have:=hc x _ j _ (hget' x hx) (vab hjl)
   rw[<-this];congr 2;omega
  have hkpos:0<k:=hz0
  have hdm:∀o,o<l.length * k->o / k<l.length/\o % k<k/\o=o / k * k+o % k:=fun o ho=>⟨Nat.div_lt_of_lt_mul (by rw[vcp];exact ho),Nat.mod_lt _ hkpos,(Nat.div_add_mod' o k).symm⟩
  have hrow:∀o,o<l.length * k->∃uu,w.cell? ⟨b,o,none⟩=some uu/\Jw uu∈K:=fun o ho=>by
   obtain⟨a1,a2,a3⟩:=hdm o ho
   have:=hcelli (o / k) (o % k) a1 a2
   rw[vaB,<-a3]at this
   obtain⟨q,_,hqm,hqv⟩:=hqe (o / k) (o % k) a2
   rw[hcl0 _ a1]at hqv
   obtain⟨_,k1,k2⟩:=hfl _ q hqm
   exact⟨_,this,by rw[VR.kd_eq hqv k2];exact k1⟩
  let cf:Nat->Nat->Int:=fun x y=>(ord (el x) (el y)).getD 0
  have hcf:∀x y,ord (el x) (el y)=some (cf x y):=fun x y=>by
   obtain⟨z,hz⟩:=hord _ (hel x) _ (hel y)
   show _=some ((ord (el x) (el y)).getD 0)
   rw[hz];rfl
  have hlt:∀x y,ltOf cf x y=A8 ord (el x) (el y):=fun x y=>by
   unfold ltOf A8
   rw[hcf x y]
  have hswo:SWO (ltOf cf):=⟨fun x=>by rw[hlt];exact hO.irr _ (hel x),fun x y z p q=>by rw[hlt]at *;exact hO.trans _ _ _ (hel x) (hel y) (hel z) p q,fun x y z p q=>by rw[hlt]at *;exact hO.ntrans _ _ _ (hel x) (hel y) (hel z) p q⟩
  have hlo:=h.on b _ (howb b rfl)
  have hge:E.w.heap.size<=b:=hlo.2.resolve_left (hE.nt rfl b)
  have hd0:(Array.range l.length).size=l.length:=by simp
  have hHold:HoldsK enc k w b 0 (Array.range l.length):=by
   intro j hj
   rw[size_flatK,hd0]at hj
   obtain⟨a1,a2,a3⟩:=hdm j hj
   refine⟨?_,frozen_of_row w b _ cur e hheap⟩
   rw[get_flatK _ _ _ _ (by rw[hd0];exact hj)]
   have e1:(Array.range l.length)[j / k]! =j / k:=by rw[getElem!_pos _ _ (by rw[hd0];exact a1)];simp
   rw[e1,hencg _ _ a2,hcl0 _ a1]
   have:=hcelli (j / k) (j % k) a1 a2
   rw[<-a3]at this
   exact this
  have hcmp:=E7 (k:=k) (N:=(Array.range l.length).size) h hE (K:=K) hΓg hge hrow hcc (fun x q hq=>(hfl x q hq).1) (enc:=enc) (el:=el) (fun x=>by rw[hencl,s.hc];exact hkk.symm) hvre hcf
  have happ2:l.length<4611686018427387904:=by unfold dW at happ;omega
  have hcall:=hS.2.1 enc cf fo b cap (Array.range l.length) w hencl hone hswo hof hcmp hHold hlo.1 (by rw[hd0];exact happ2)
  rw[hd0]at hcall
  have hcall2:Calls P fs #[.slice (some ⟨b,0,none⟩) (l.map c).length cap,.func (.func fo) #[] #[]] w fun e w'=>e=.returned (.tuple #[])/\∃d' n os,PermIn 0 l.length (Array.range l.length) d'/\SortedIn (ltOf cf) 0 l.length d'/\w'=sortWorldK enc k w b 0 n d' os:=by
   rw[hlen];exact hcall
  refine hcall2.mono fun q w' hr=>?_
  obtain⟨rfl,d',n',os,hperm,hsorted,rfl⟩:=hr
  have hd'0:d'.size=l.length:=hperm.1.trans hd0
  generalize hWe:sortWorldK enc k w b 0 n' d' os=W
  have hkeep:∀x,x<w.heap.size->x≠b->W.heap[x]? =w.heap[x]?:=fun x hx hxb=>by rw[<-hWe];exact yI hx hxb
  have hszW:w.heap.size<=W.heap.size:=by rw[<-hWe];exact yJ
  have hrowW:W.heap[b]? =some (.cells (putCells id 0 (flatK enc k d') cur) e (0,0)):=by rw[<-hWe];exact Ez hheap
  have hholdW:HoldsK enc k W b 0 d':=by rw[<-hWe];exact holdsK_sortWorldK_c enc k w b 0 _ d' n' os hHold hlo.1 hperm.1
  have hcsW:(putCells id 0 (flatK enc k d') cur).size=cap * k:=by rw[<-hcs];simp[putCells]
  have hst1:W.os=w.os:=by rw[<-hWe];rfl
  have hst2:W.tape=w.tape:=by rw[<-hWe];rfl
  have hst3:W.output=w.output:=by rw[<-hWe];rfl
  have hst4:w.drawn<=W.drawn:=by rw[<-hWe];exact vbZ _ _
  have hnk:l.length * k<=cap * k:=vaK k (by rw[<-hlen];exact hcap)
  have hrd:d'.toList.map el=r:=by
   refine AY hs ?_ ?_
   ·have hp:=hperm.2.2
    have e1:d'.extract 0 l.length=d':=by rw[<-hd'0];exact vcG
    have e2:(Array.range l.length).extract 0 l.length=Array.range l.length:=by
     have:(Array.range l.length).extract 0 (Array.range l.length).size=Array.range l.length:=vcG
     rwa[hd0]at this
    rw[e1,e2]at hp
    have h3:(Array.range l.length).toList.map el=l:=by
     rw[Array.toList_range]
     refine vbe fun j=>?_
     by_cases hj:j<l.length
     ·rw[vax,vaX hj,vab hj]
      show some (l[cl j]'(hcl j))=some l[j]
      congr 1
      simp only[hcl0 j hj]
     ·rw[vaA (by simp;omega),vaA (by omega)]
    rw[<-h3]
    exact hp.map el
   ·unfold oA
    rw[List.pairwise_map,List.pairwise_iff_getElem]
    intro x y hx hy hxy
    have hx':x<d'.size:=by simpa using hx
    have hy':y<d'.size:=by simpa using hy
    have:=hsorted x y (vaJ _) hxy (by rw[<-hd'0];exact hy')
    rw[getElem!_pos d' x hx',getElem!_pos d' y hy',hlt]at this
    simpa using this
  have hrlen:(r.map c).length=(l.map c).length:=by rw[vbJ,vbJ,hrl]
  have hri:∀x,(hx:x<l.length)->(r.map c)[x]? =some (c (el d'[x]!)):=fun x hx=>by
   rw[<-hrd,List.map_map,vax]
   have hxd:x<d'.size:=by rw[hd'0];exact hx
   rw[va4,vaG hxd,getElem!_pos d' x hxd]
   rfl
  have hvrW:VR Γ bs W (sl c r) (.slice (some ⟨b,0,none⟩) (l.map c).length cap):=by
   unfold sl
   rw[<-hrlen]
   refine .slice _ b 0 cap (l.length * k) k (fun x j=>vals (cl d'[x]!) j) hkpos (by rw[hrlen];exact hcap) hΓg (by rw[hrlen,hlen];omega) (fun x y hx=>?_) (fun x y j p hx hp=>?_) (fun x y j p hx hp=>?_)
   ·have hxl:x<l.length:=by have:=af hx;rw[hrlen,hlen]at this;exact this
    rw[hri x hxl]at hx;cases hx;rw[s.hc];exact hkk
   ·have hxl:x<l.length:=by have:=af hx;rw[hrlen,hlen]at this;exact this
    rw[hri x hxl]at hx;cases hx
    have hjk:j<k:=by have:=af hp;rw[s.hc,hkk]at this;exact this
    have:=(hholdW.cell (i:=x) (c:=j) (by rw[hd'0];exact hxl) hjk).1
    rw[hencg _ _ hjk]at this
    exact this
   ·have hxl:x<l.length:=by have:=af hx;rw[hrlen,hlen]at this;exact this
    rw[hri x hxl]at hx;cases hx
    refine(hv (cl d'[x]!) _ j p (hget' _ (hcl _)) hp).off_row hΓg hrow (fun x m hx hm=>⟨hm,fun o=>aJ (hkeep x (h.lt_of_ghost hm) hx) o⟩) (hfl _ p (vau hp)).1
  have hle:E.Γ.Le E.w Γ W:=fun x m hx hm0=>by
   obtain⟨m',k1,k2,k3⟩:=h.step.le x m hx hm0
   have hne:x≠b:=fun hxb=>by have:=hE.low x m hx;omega
   exact⟨m',k1,k2,fun o ho=>(aJ (hkeep x (h.lt_of_ghost k1) hne) o).trans (k3 o ho)⟩
  have hne0:b0≠b:=fun hx=>by rw[hx,hΓg]at hg0;cases hg0
  refine⟨hdef _,_,⟨Γ,bs,ow,{
   wi:=fun x m hx=>by
    by_cases hxg:x=b
    ·subst hxg
     rw[hΓg]at hx;cases hx
     exact⟨_,_,_,hrowW,by rw[hcsW];exact hnk⟩
    ·obtain⟨c2,t2,fr,k1,k2⟩:=h.wi x m hx
     exact⟨c2,t2,fr,(hkeep x (h.lt_of_ghost hx) hxg).trans k1,k2⟩
   sz:=by rw[(hget _).2];simp[mY]
   tm:=htm _ hib
   bl:=by rw[h.bl];simp[mY]
   bx:=fun j b' B hb' hB=>by
    rcases DL hB with⟨rfl,rfl⟩|⟨hj,rfl⟩
    ·rw[hib]at hb';cases hb'
     refine⟨hg0,vaC hlt0 hszW,cc,tt,(hkeep b0 hlt0 hne0).trans hheap0,hlen0,fun jj p vv hp hvv=>?_⟩
     have hj0:jj=0:=by have:=af hp;simp at this;exact this
     subst hj0
     simp at hp;subst hp
     rw[hcc0]at hvv;cases hvv
     exact hvrW
    ·have hold:(mY n t nb i (sl c l) e).boxes[j]? =some .dead:=by
      have hjn:j<nb:=by have:=af hB;simpa[mY]using this
      unfold mY
      simp only
      rw[vao (fun e=>hj e.symm),vaS,vaf hjn]
     obtain⟨k1,k2,_⟩:=h.bx j b' _ hb' hold
     exact⟨k1,vaC k2 hszW,trivial⟩
   inj:=h.inj
   bn:=h.bn
   on:=fun b' L hL=>⟨vaC (h.on b' L hL).1 hszW,(h.on b' L hL).2⟩
   ot:=fun t k e he=>by simp[mY]at he
   ob:=fun j jj e' cs own b' hB hj hb'=>by
    rcases DL hB with⟨rfl,hBB⟩|⟨_,hBB⟩
    ·cases hBB
     rw[hib]at hb';cases hb'
     have:jj=0/\e'=e:=by simpa using hj
     obtain⟨rfl,rfl⟩:=this
     refine⟨_,(aJ (hkeep b0 hlt0 hne0) 0).trans hcell,⟨(l.map c).length,(putCells id 0 (flatK enc k d') cur).toList.take (l.length * k),⟨?_,.inr ⟨b,cap,_,rfl,vaJ _,hrowW,hcap,hcm,by rw[hcsW,hkk],by rw[hlen,hkk]⟩⟩,fun x hx=>?_⟩,howb⟩
     ·have hL:(putCells id 0 (flatK enc k d') cur).toList.length=cap * k:=by rw[<-hcsW];exact Array.length_toList
      rw[vbc,hL,hlen,hkk];omega
     ·simp[Value.ownBlock]at hx;subst hx;rw[hΓg,hlen,hkk]
    ·cases hBB
   gl:=fun g cs hg=>(hE.gl g cs (by rw[<-hE.ge];exact hg)).mono hle (fun i b hb=>by simp at hb)
   gc:=h.gc
   gx:=h.gx
   step:={
    os:=hst1.trans h.step.os
    tape:=hst2.trans h.step.tape
    output:=hst3.trans h.step.output
    size:=vaO h.step.size hszW
    drawn:=vaO h.step.drawn hst4
    keep:=fun x hx hT=>by
     obtain⟨k1,k2⟩:=h.step.keep x hx hT
     exact⟨(hkeep x (vaC hx h.step.size) (by omega)).trans k1,k2⟩
    le:=hle}},hk⟩,rfl,rfl⟩
theorem Jj{T e:TypeId}{K:List Nat}{fs fo rid n t nb i d1 d2:Nat}{o1 o2:Oper}{tys:Array TypeId}{l r:List α}{cd:Code}{st0 st1:ak}(s:y2 P T e c)(hS:Dm P fs (P.cellsOf e))(hsc:(P.underlying T).any rm=true)
  (hcc:∀x y r,ord x y=some r->CC P GE fo [.agg (c x),.agg (c y)] (.int .i64 r) []) (hof:∀vs w,(callFunc fo vs).run P w=.ok (.enter fo vs) w)
  (hfl:∀x,∀q∈c x,BL K q/\q.kd∈K/\q.kd≠0) (hcd:cd=.region rid #[o1,o2] false) (h1:o1.op=.load T (.tmp t)) (h1d:o1.dst=some d1) (h1g:o1.guard=none)
  (h2:o2.op=.call {callee:=.value (.func fs),args:=#[.tmp d1,.func fo],argTypes:=tys}) (h2d:o2.dst=some d2) (h2g:o2.guard=none)
  (hn:decide (t<n)&&(decide (d1<n)&&(decide (d2<n)&&(decide (t≠d1)&&(decide (t≠d2)&&decide (i<nb)))))=true) (h0:st0=mY n t nb i (sl c l) e) (h00:st1=mY n t nb i (sl c r) e) (hs:sI ord l=some r):
  aA P GE 0 cd (EX .normal st1) st0:=by
 simp only[vac,vae]at hn
 obtain⟨a1,a2,a3,a4,a5,a6⟩:=hn
 subst hcd;subst h0;subst h00
 exact De s hS hsc hcc hof hfl h1 h1d h1g h2 h2d h2g ⟨a1,a2,a3,a4,a5⟩ a6 hs
end
section
variable{P:Program}{ρ:Ren}
theorem F1(L:SlLaysF0.n6 P ρ){fs e:Nat}(hf:ρ.f 6=fs)(he:ρ.t 24=e)(ha:(P.underlying e).any Gg=true)(hi:(P.info? e).isSome=true)(hcall:∀vs w,(callFunc fs vs).run P w=.ok (.enter fs vs) w):Dm P fs (P.cellsOf e):=by
 subst hf;subst he
 obtain⟨i0,hi0⟩:=vaz.1 hi
 have hagg:∀w,(Go.isAgg (ρ.t 24)).run P w=.ok true w:=fun w=>by
  cases hd:P.underlying (ρ.t 24)with
  |none=>rw[hd]at ha;cases ha
  |some d=>
   rw[hd]at ha
   cases d<;>simp[Gg]at ha<;>simp[Go.isAgg,run_underlying hd]
 refine⟨hcall,fun enc cf g blk cap d w hk h1 hO eg hcmp hH hb hs=>?_,fun p cap fv w=>AnyF.slices_SortFunc_none L p cap fv w⟩
 exact AnyQ.slices_SortFunc L (P.cellsOf (ρ.t 24)) hagg (fun w=>run_sizeOf w hi0) enc hk h1 cf hO g #[] blk 0 cap d w eg hcmp hH hb hs
end
open Go Go.Proofs.Tryd
set_option maxRecDepth 100000
theorem Eb(x:aa):∀q∈ac x,BL [3,4] q/\q.kd∈[3,4]/\q.kd≠0:=by
 intro q hq
 rw[bC]at hq
 simp only[vay,vb3,or_false]at hq
 rcases hq with rfl|rfl|rfl
 ·exact⟨trivial,by simp[PVal.kd],by simp[PVal.kd]⟩
 ·exact⟨trivial,by simp[PVal.kd],by simp[PVal.kd]⟩
 ·refine⟨fun e he q hq=>?_,by simp[PVal.kd,sl],by simp[PVal.kd,sl]⟩
  obtain⟨y,_,rfl⟩:=var.1 he
  rw[pB]at hq
  simp only[vay,vb3,or_false]at hq
  rcases hq with rfl|rfl|rfl
  all_goals exact⟨by simp[PVal.kd],by simp[PVal.kd]⟩
theorem GI:Dm Pg 38 (Pg.cellsOf 24):=F1 Tryd.sf38 rfl rfl (by kernel_rfl) (by kernel_rfl) call38
theorem D3:mh Pg 37 43:=D4 Tryd.lc37 rfl rfl (by kernel_rfl) call37
theorem CE{l r:List ah}(h:sW l=some r):CC Pg GE 37 [sl ai l] (sl ai r) [(0,43)]:=cx.cloneCC D3 h
def DC(n:Int):Option ag:=if(decide (-9223372036854775808<=n)&&decide (n<=9223372036854775807))=true then some (Lib.itoa n)else none
theorem FM:fZ=Lib.pow10Tab:=by kernel_rfl
theorem DD{n:Int}{r:ag}(h:DC n=some r):CC Pg GE 31 [.int .i64 n] (.str r) []:=by
 rcases aG h with⟨b,h⟩|⟨b,h⟩
 ·obtain rfl:=lf h
  simp only[vac,vae]at b
  refine CC.grownIS call31 fun E Γ bs ow w a st hE hS=>?_
  have htab:Lib.TabIs Pg w "internal/strconv.uint64pow10" .u64 Lib.pow10Tab:=HX hS (g:=1) (by rw[hE,←FM];simp[GE]) (by kernel_rfl)
  refine(Any.strconv_Itoa Tryd.laysM171 n b.1 b.2 w htab).mono fun e w' he=>?_
  obtain⟨rfl,k,os,rfl⟩:=he
  exact⟨rfl,.of_grow _ _ _⟩
 ·cases h
noncomputable def b9:Code:=Tryd.f9.body.getD .skip
def A9:List Nat:=[]
section
variable(n:Int)(v:waA)(t8:Int)(t9:Int)
def jY:ak:=aY 22 [(0,.int .i64 n),(1,sl ac v),(7,sl ac v),(8,.int .i64 t8),(9,.int .i64 t9)] [] []
def jZ(o:Unit⊕(Unit)):Exit:=match o with
 |(.inl _)=>.ret
 |(.inr _)=>.exit 0
def iA(o:Unit⊕(Unit)):ak:=match o with
 |(.inl o)=>aY 22 [(4,.bool false)] [] []
 |(.inr o)=>aY 22 [(0,.int .i64 n),(1,sl ac v)] [] []
def pu:Option (Int⊕(Unit⊕(Unit))):=
 if(decide (t9<t8))=true then
  (eQ v t9).bind fun x2=>
  if(decide ((x2.Arcs.length:Int)>40))=true then
   some (.inr (.inl ()))
  else
   some (.inl (bA (t9+1)))
 else
  some (.inr (.inr ()))
def sR:Option (Unit⊕(Unit)):=loop (fun(zz:Int)=>pu v t8 zz) t9
theorem xp{y:Int⊕(Unit⊕(Unit))}(h:pu v t8 t9=some y):aA Pg GE 0 (cA b9 55) (LQ (fun(zz:Int)=>jY n v t8 zz) jZ (iA n v) y) (jY n v t8 t9):=by
 rcases aG h with⟨c1,h⟩|⟨c1,h⟩
 ·obtain⟨x2,bx2,h⟩:=ax h
  have p4:=fun{sc F} (r:PS sc F)=>sg 0 c1<|sv (bQ.ia (k:=.i64) bx2)<|sv (aT x2)<|sx qo<|sx (dA x2)<|ss<|dB (cx.ln x2.Arcs)<|r
  rcases aG h with⟨c3,h⟩|⟨c3,h⟩
  ·obtain rfl:=lf h
   have z:=p4<|sg 0 c3<|mW 0 (jZ (.inl ())) (iA n v (.inl ())) rfl (bN (aI trivial trivial)) trivial
   exact im (A:=A9) mixed (by intro hx;cases hx) z<|by kernel_rfl
  ·obtain rfl:=lf h
   have z:=p4<|sg 0 c3<|mW 0 .normal (jY n v t8 (bA (t9+1))) rfl (bN (aI trivial (aI (up (aq ae v)) (aI (up (aq ae v)) (aI trivial (aI trivial trivial)))))) trivial
   exact cJ (A:=A9) mixed z<|by kernel_rfl
 ·obtain rfl:=lf h
  have z:=sg 0 c1<|eF (jZ (.inr ())) (iA n v (.inr ()))
  exact jI A9 (by intro hx;cases hx) z<|by kernel_rfl
theorem sn{x:Unit⊕(Unit)}(h:sR v t8 t9=some x):aA Pg GE 0 (.loop (cA b9 55)) (EX (jZ x) (iA n v x)) (jY n v t8 t9):=
 aA.loop (S:=fun(zz:Int)=>jY n v t8 zz) (ex:=jZ) (s:=t9) h fun zz y hy=>xp n v t8 zz hy
end
def wK(n:Int)(a:waA):Option Bool:=
 (sR a (a.length:Int) 0).bind fun o5=>match o5 with
 |(.inl o5)=>
  some false
 |(.inr o5)=>
  some (decide ((a.length:Int)<=n))
theorem xq{n:Int}{a:waA}{r:Bool}(h:wK n a=some r):CC Pg GE 9 [.int .i64 n,sl ac a] (.bool r) []:=by
 obtain⟨o5,bo5,h⟩:=ax h
 rcases o5 with o5|o5
 ·obtain rfl:=lf h
  have z:=dB (bQ.ln a)<|da (e:=.ret) (s1:=iA n a (.inl o5)) (sn n a (a.length:Int) 0 bo5)<|en (aI (rP (.bool false))<|trivial)
  exact bm A9 call9 func9 (c:=b9) rfl (aI trivial (aI (aq ae a) trivial)) z<|by kernel_rfl
 ·obtain rfl:=lf h
  have z:=dB (bQ.ln a)<|da (e:=.exit 0) (s1:=iA n a (.inr o5)) (sn n a (a.length:Int) 0 bo5)<|dB (bQ.ln a)<|en (aI (rP (.bool (decide ((a.length:Int)<=n))))<|trivial)
  exact bm A9 call9 func9 (c:=b9) rfl (aI trivial (aI (aq ae a) trivial)) z<|by kernel_rfl
noncomputable def JI:Code:=f33.body.getD .skip
def JA:List Nat:=[20]
section
variable(t13:(List ls))(t14:Int)(m:waB)(m2:ag)(m3:ag)(t15:Int)(m4:waB)
def h9:ak:=aY 34 [(6,.bptr 0 0),(7,.bptr 1 0),(13,sl j1 t13),(14,.int .i64 t14),(15,.int .i64 t15)] [.cells [.str ([]:ag),.str ([]:ag),sl ai m] [(2,43)],.cells [.str m2,.str m3,sl ai m4] [(2,43)]] []
def mA(o:waB):ak:=aY 34 [(6,.bptr 0 0),(7,.bptr 1 0)] [.cells [.str ([]:ag),.str ([]:ag),sl ai m] [(2,43)],.cells [.str m2,.str m3,sl ai o] [(2,43)]] []
def qT:Option ((Int×waB)⊕(waB)):=
 if(decide (t15<t14))=true then
  (eQ t13 t15).bind fun x2=>
  (qA 3 0).bind fun i3=>
  (qA 3 1).bind fun i4=>
  (qA 3 2).bind fun i5=>
  (app m4 ([(⟨x2 (0+i3 * 1),x2 (0+i4 * 1),(x2 (0+i5 * 1))==1⟩:ah)]:List ah)).bind fun l6=>
  some (.inl (bA (t15+1),l6))
 else
  some (.inr m4)
def tM:Option waB:=loop (fun(zz:Int×waB)=>qT t13 t14 zz.1 zz.2) (t15,m4)
theorem uQ{y:(Int×waB)⊕(waB)}(h:qT t13 t14 t15 m4=some y):aA Pg GE 0 (cA JI 119) (LQ (fun(zz:Int×waB)=>h9 t13 t14 m m2 m3 zz.1 zz.2) (fun _=>.exit 0) (mA m m2 m3) y) (h9 t13 t14 m m2 m3 t15 m4):=by
 rcases aG h with⟨c1,h⟩|⟨c1,h⟩
 ·obtain⟨x2,bx2,h⟩:=ax h
  obtain⟨i3,bi3,h⟩:=ax h
  obtain⟨i4,bi4,h⟩:=ax h
  obtain⟨i5,bi5,h⟩:=ax h
  obtain⟨l6,bl6,h⟩:=ax h
  obtain rfl:=lf h
  have z:=sg 0 c1<|sv (AT.ia (k:=.i64) bx2)<|sv (Gu x2)<|sx JY<|sx (ll x2)<|sv (Hj (b:=2) (off:=0) (k:=.i64) bi3)<|sv (Hk (x:=x2) (JR bi3))<|sv (Hj (b:=2) (off:=0) (k:=.i64) bi4)<|sv (Hk (x:=x2) (JR bi4))<|sv (Hj (b:=2) (off:=0) (k:=.i64) bi5)<|sv (Hk (x:=x2) (JR bi5))<|sv (sr (x2 (0+i3 * 1)) (x2 (0+i4 * 1)) ((x2 (0+i5 * 1))==1))<|sv (cx.mk' (v:=A1) ym ([(⟨x2 (0+i3 * 1),x2 (0+i4 * 1),(x2 (0+i5 * 1))==1⟩:ah)]:List ah) 1 (by kernel_rfl))<|sv (cx.ap bl6)<|mW 0 .normal (h9 t13 t14 m m2 m3 (bA (t15+1)) l6) rfl (bN (aI (dj rfl) (aI (dj rfl) (aI (up (aq Al t13)) (aI trivial (aI trivial trivial)))))) (aI (aI trivial (aI trivial (aI (up (aq ay m)) trivial))) (aI (aI trivial (aI trivial (aI (up (aq ay l6)) trivial))) trivial))
  exact cJ (A:=JA) mixed z<|by kernel_rfl
 ·obtain rfl:=lf h
  have z:=sg 0 c1<|eF (.exit 0) (mA m m2 m3 m4)
  exact jI JA (by intro hx;cases hx) z<|by kernel_rfl
theorem wA{x:waB}(h:tM t13 t14 t15 m4=some x):aA Pg GE 0 (.loop (cA JI 119)) (EX (.exit 0) (mA m m2 m3 x)) (h9 t13 t14 m m2 m3 t15 m4):=
 aA.loop (S:=fun(zz:Int×waB)=>h9 t13 t14 m m2 m3 zz.1 zz.2) (ex:=(fun _=>.exit 0)) (s:=(t15,m4)) h fun zz y hy=>uQ t13 t14 m m2 m3 zz.1 zz.2 hy
end
def jx(a:ag)(to:ag)(arcs:(List ls)):Option aa:=
 (tM arcs (arcs.length:Int) 0 ([]:List ah)).bind fun o7=>
 some (⟨a,to,o7⟩:aa)
theorem fR{a:ag}{to:ag}{arcs:(List ls)}{r:aa}(h:jx a to arcs=some r):CC Pg GE 33 [.str a,.str to,sl j1 arcs] (.agg (ac r)) [(2,43)]:=by
 obtain⟨o7,bo7,h⟩:=ax h
 obtain rfl:=lf h
 have z:=sx qo<|sb (nU a to) (nT a to)<|sx qo<|sy (bC (⟨a,to,([]:List ah)⟩:aa))<|dB (AT.ln arcs)<|da (wA arcs (arcs.length:Int) ([]:List ah) a to 0 ([]:List ah) bo7)<|sz (aV (⟨a,to,o7⟩:aa) [])<|sy (bC (⟨a,to,o7⟩:aa))<|en (aI (eR (⟨a,to,o7⟩:aa))<|aI (ae (⟨a,to,o7⟩:aa))<|rT)
 exact bm JA call33 func33 (c:=JI) rfl (aI trivial (aI trivial (aI (aq Al arcs) trivial))) z<|by kernel_rfl
noncomputable def Jo:Code:=f44.body.getD .skip
def Ik:List Nat:=[23]
section
variable(s:ag)(i:Int)
def ii:ak:=aY 24 [(0,.str s),(5,.int .i64 i)] [] []
def ik(o:(ag×ag)⊕(Unit)):Exit:=match o with
 |(.inl _)=>.ret
 |(.inr _)=>.exit 0
def fu(o:(ag×ag)⊕(Unit)):ak:=match o with
 |(.inl o)=>aY 24 [(2,.str o.1),(3,.str o.2),(4,.bool true)] [] []
 |(.inr o)=>aY 24 [(0,.str s)] [] []
def ij:Option (Int⊕((ag×ag)⊕(Unit))):=
 if(decide (i<(s.length:Int)))=true then
  (iJ s i).bind fun c2=>
  if(c2==46)=true then
   (AW s none (some i)).bind fun s5=>
   (AW s (some (bA (i+1))) none).bind fun s6=>
   some (.inr (.inl (s5,s6)))
  else
   some (.inl (bA (i+1)))
 else
  some (.inr (.inr ()))
def pG:Option ((ag×ag)⊕(Unit)):=loop (fun(zz:Int)=>ij s zz) i
theorem u9{y:Int⊕((ag×ag)⊕(Unit))}(h:ij s i=some y):aA Pg GE 0 (cA Jo 55) (LQ (fun(zz:Int)=>ii s zz) ik (fu s) y) (ii s i):=by
 rcases aG h with⟨c1,h⟩|⟨c1,h⟩
 ·obtain⟨c2,bc2,h⟩:=ax h
  have p4:=fun{sc F} (r:PS sc F)=>dB (eu underlying9 s)<|sg 0 c1<|sv (eU (k:=.i64) underlying9 bc2)<|r
  rcases aG h with⟨c3,h⟩|⟨c3,h⟩
  ·obtain⟨s5,bs5,h⟩:=ax h
   obtain⟨s6,bs6,h⟩:=ax h
   obtain rfl:=lf h
   have z:=p4<|sg 0 c3<|zQ [0,0,3,0,0,16,56,7,255,511]<|sv (DT underlying9 bs5)<|sv (DT underlying9 bs6)<|eF (ik (.inl (s5,s6))) (fu s (.inl (s5,s6)))
   exact jI Ik (by intro hx;cases hx) z<|by kernel_rfl
  ·obtain rfl:=lf h
   exact tg Ik (p4<|sg 0 c3<|eF .normal (ii s (bA (i+1))))<|by kernel_rfl
 ·obtain rfl:=lf h
  have z:=dB (eu underlying9 s)<|sg 0 c1<|eF (ik (.inr ())) (fu s (.inr ()))
  exact jI Ik (by intro hx;cases hx) z<|by kernel_rfl
theorem qg{x:(ag×ag)⊕(Unit)}(h:pG s i=some x):aA Pg GE 0 (.loop (cA Jo 55)) (EX (ik x) (fu s x)) (ii s i):=
 aA.loop (S:=fun(zz:Int)=>ii s zz) (ex:=ik) (s:=i) h fun zz y hy=>u9 s zz hy
end
def oO(s:ag):Option (ag×ag×Bool):=
 (pG s 0).bind fun o7=>match o7 with
 |(.inl o7)=>
  some (o7.1,o7.2,true)
 |(.inr o7)=>
  some (s,([]:ag),false)
theorem ui{s:ag}{r:ag×ag×Bool}(h:oO s=some r):CC Pg GE 44 [.str s] (.tuple [.str r.1,.str r.2.1,.bool r.2.2]) []:=by
 obtain⟨o7,bo7,h⟩:=ax h
 rcases o7 with o7|o7
 ·obtain rfl:=lf h
  have z:=da (e:=.ret) (s1:=fu s (.inl o7)) (qg s 0 bo7)<|en (aI (rP (.tuple [.str o7.1,.str o7.2,.bool true]))<|(aI trivial (aI trivial (aI trivial trivial))))
  exact bm Ik call44 func44 (c:=Jo) rfl (aI trivial trivial) z<|by kernel_rfl
 ·obtain rfl:=lf h
  have z:=da (e:=.exit 0) (s1:=fu s (.inr o7)) (qg s 0 bo7)<|en (aI (rP (.tuple [.str s,.str ([]:ag),.bool false]))<|(aI trivial (aI trivial (aI trivial trivial))))
  exact bm Ik call44 func44 (c:=Jo) rfl (aI trivial trivial) z<|by kernel_rfl
noncomputable def Kk:Code:=f47.body.getD .skip
def J7:List Nat:=[]
def jD(s:ag):Option Bool:=
 if(decide ((s.length:Int)>=1))=true then
  some (decide ((s.length:Int)<=24))
 else
  some false
theorem fw{s:ag}{r:Bool}(h:jD s=some r):CC Pg GE 47 [.str s] (.bool r) []:=by
 rcases aG h with⟨c1,h⟩|⟨c1,h⟩
 ·obtain rfl:=lf h
  have z:=dB (eu underlying9 s)<|sg 4 c1<|dB (eu underlying9 s)<|en (aI (rP (.bool (decide ((s.length:Int)<=24))))<|trivial)
  exact bm J7 call47 func47 (c:=Kk) rfl (aI trivial trivial) z<|by kernel_rfl
 ·obtain rfl:=lf h
  have z:=dB (eu underlying9 s)<|sg 4 c1<|en (aI (rP (.bool false))<|trivial)
  exact bm J7 call47 func47 (c:=Kk) rfl (aI trivial trivial) z<|by kernel_rfl
noncomputable def Km:Code:=f66.body.getD .skip
def J9:List Nat:=[]
def il(c:Int):Option Bool:=
 if(decide (97<=c))=true then
  some (decide (c<=122))
 else
  some false
theorem j9{c:Int}{r:Bool}(h:il c=some r):CC Pg GE 66 [.int .u8 c] (.bool r) []:=by
 rcases aG h with⟨c1,h⟩|⟨c1,h⟩
 ·obtain rfl:=lf h
  have z:=sg 3 c1<|en (aI (rP (.bool (decide (c<=122))))<|trivial)
  exact bm J9 call66 func66 (c:=Km) rfl (aI trivial trivial) z<|by kernel_rfl
 ·obtain rfl:=lf h
  have z:=sg 3 c1<|en (aI (rP (.bool false))<|trivial)
  exact bm J9 call66 func66 (c:=Km) rfl (aI trivial trivial) z<|by kernel_rfl
noncomputable def Jr:Code:=f67.body.getD .skip
def Io:List Nat:=[]
section
variable(s:ag)(t6:Int)
def dZ:ak:=aY 13 [(0,.str s),(5,.agg (a8.map PVal.str)),(6,.int .i64 t6)] [] []
def d5(o:Unit⊕(Unit)):Exit:=match o with
 |(.inl _)=>.ret
 |(.inr _)=>.exit 0
def cX(o:Unit⊕(Unit)):ak:=match o with
 |(.inl o)=>aY 13 [(2,.bool true)] [] []
 |(.inr o)=>aY 13 [] [] []
def d4:Option (Int⊕(Unit⊕(Unit))):=
 if(decide (t6<42))=true then
  (eQ a8 t6).bind fun x2=>
  if(x2==s)=true then
   some (.inr (.inl ()))
  else
   some (.inl (bA (t6+1)))
 else
  some (.inr (.inr ()))
def kC:Option (Unit⊕(Unit)):=loop (fun(zz:Int)=>d4 s zz) t6
theorem q9{y:Int⊕(Unit⊕(Unit))}(h:d4 s t6=some y):aA Pg GE 0 (cA Jr 55) (LQ (fun(zz:Int)=>dZ s zz) d5 cX y) (dZ s t6):=by
 rcases aG h with⟨c1,h⟩|⟨c1,h⟩
 ·obtain⟨x2,bx2,h⟩:=ax h
  have p4:=fun{sc F} (r:PS sc F)=>sg 0 c1<|sv (uj (k:=.i64) bx2)<|r
  rcases aG h with⟨c3,h⟩|⟨c3,h⟩
  ·obtain rfl:=lf h
   have z:=p4<|sg 0 c3<|eF (d5 (.inl ())) (cX (.inl ()))
   exact jI Io (by intro hx;cases hx) z<|by kernel_rfl
  ·obtain rfl:=lf h
   exact tg Io (p4<|sg 0 c3<|eF .normal (dZ s (bA (t6+1))))<|by kernel_rfl
 ·obtain rfl:=lf h
  have z:=sg 0 c1<|eF (d5 (.inr ())) (cX (.inr ()))
  exact jI Io (by intro hx;cases hx) z<|by kernel_rfl
theorem lD{x:Unit⊕(Unit)}(h:kC s t6=some x):aA Pg GE 0 (.loop (cA Jr 55)) (EX (d5 x) (cX x)) (dZ s t6):=
 aA.loop (S:=fun(zz:Int)=>dZ s zz) (ex:=d5) (s:=t6) h fun zz y hy=>q9 s zz hy
end
def kN(s:ag):Option Bool:=
 (kC s 0).bind fun o5=>match o5 with
 |(.inl o5)=>
  some true
 |(.inr o5)=>
  some false
theorem u7{s:ag}{r:Bool}(h:kN s=some r):CC Pg GE 67 [.str s] (.bool r) []:=by
 obtain⟨o5,bo5,h⟩:=ax h
 rcases o5 with o5|o5
 ·obtain rfl:=lf h
  have z:=sv nF<|da (e:=.ret) (s1:=cX (.inl o5)) (lD s 0 bo5)<|en (aI (rP (.bool true))<|trivial)
  exact bm Io call67 func67 (c:=Jr) rfl (aI trivial trivial) z<|by kernel_rfl
 ·obtain rfl:=lf h
  have z:=sv nF<|da (e:=.exit 0) (s1:=cX (.inr o5)) (lD s 0 bo5)<|en (aI (rP (.bool false))<|trivial)
  exact bm Io call67 func67 (c:=Jr) rfl (aI trivial trivial) z<|by kernel_rfl
noncomputable def Kn:Code:=f68.body.getD .skip
def Ka:List Nat:=[]
def jC(c:Int):Option Bool:=
 if(decide (48<=c))=true then
  some (decide (c<=57))
 else
  some false
theorem mH{c:Int}{r:Bool}(h:jC c=some r):CC Pg GE 68 [.int .u8 c] (.bool r) []:=by
 rcases aG h with⟨c1,h⟩|⟨c1,h⟩
 ·obtain rfl:=lf h
  have z:=sg 3 c1<|en (aI (rP (.bool (decide (c<=57))))<|trivial)
  exact bm Ka call68 func68 (c:=Kn) rfl (aI trivial trivial) z<|by kernel_rfl
 ·obtain rfl:=lf h
  have z:=sg 3 c1<|en (aI (rP (.bool false))<|trivial)
  exact bm Ka call68 func68 (c:=Kn) rfl (aI trivial trivial) z<|by kernel_rfl
noncomputable def Hn:Code:=f45.body.getD .skip
def EF:List Nat:=[]
section
variable(s:ag)
def wE:ak:=aY 41 [(0,.str s)] [] []
def ji(o:Bool):ak:=aY 41 [(0,.str s),(16,.bool o)] [] []
def kO:Option Bool:=
 (jD s).bind fun r1=>
 if(!r1)=true then
  some true
 else
  (iJ s 0).bind fun c3=>
  (il c3).bind fun r4=>
  if(!r4)=true then
   some true
  else
   (kN s).bind fun r7=>
   some r7
theorem vb{x:Bool}(h:kO s=some x):aA Pg GE 0 (cA Hn 12) (EX .normal (ji s x)) (wE s):=by
 obtain⟨r1,br1,h⟩:=ax h
 rcases aG h with⟨c2,h⟩|⟨c2,h⟩
 ·obtain rfl:=lf h
  exact dz EF (bW (fw br1)<|sg 4 c2<|eF .normal (ji s true))<|by kernel_rfl
 ·obtain⟨c3,bc3,h⟩:=ax h
  obtain⟨r4,br4,h⟩:=ax h
  have p6:=fun{sc F} (r:PS sc F)=>bW (fw br1)<|sg 4 c2<|sv (eU (k:=.i64) underlying9 bc3)<|bW (j9 br4)<|r
  rcases aG h with⟨c5,h⟩|⟨c5,h⟩
  ·obtain rfl:=lf h
   exact dz EF (p6<|sg 10 c5<|eF .normal (ji s true))<|by kernel_rfl
  ·obtain⟨r7,br7,h⟩:=ax h
   obtain rfl:=lf h
   exact dz EF (p6<|sg 10 c5<|bW (u7 br7)<|eF .normal (ji s r7))<|by kernel_rfl
end
section
variable(s:ag)(i:Int)
def wF:ak:=aY 41 [(0,.str s),(3,.int .i64 i)] [] []
def jk(o:Bool):ak:=aY 41 [(0,.str s),(3,.int .i64 i),(40,.bool o)] [] []
def kP:Option Bool:=
 (iJ s i).bind fun c12=>
 (il c12).bind fun r13=>
 if(!r13)=true then
  (iJ s i).bind fun c16=>
  (jC c16).bind fun r17=>
  if(!r17)=true then
   (iJ s i).bind fun c20=>
   some (c20 !=95)
  else
   some false
 else
  some false
theorem vg{x:Bool}(h:kP s i=some x):aA Pg GE 0 (cA Hn 1914) (EX .normal (jk s i x)) (wF s i):=by
 obtain⟨c12,bc12,h⟩:=ax h
 obtain⟨r13,br13,h⟩:=ax h
 have p15:=fun{sc F} (r:PS sc F)=>sv (eU (k:=.i64) underlying9 bc12)<|bW (j9 br13)<|r
 rcases aG h with⟨c14,h⟩|⟨c14,h⟩
 ·obtain⟨c16,bc16,h⟩:=ax h
  obtain⟨r17,br17,h⟩:=ax h
  have p19:=fun{sc F} (r:PS sc F)=>p15<|sg 6 c14<|sv (eU (k:=.i64) underlying9 bc16)<|bW (mH br17)<|r
  rcases aG h with⟨c18,h⟩|⟨c18,h⟩
  ·obtain⟨c20,bc20,h⟩:=ax h
   obtain rfl:=lf h
   exact dz EF (p19<|sg 13 c18<|sv (eU (k:=.i64) underlying9 bc20)<|eF .normal (jk s i (c20 !=95)))<|by kernel_rfl
  ·obtain rfl:=lf h
   exact dz EF (p19<|sg 13 c18<|eF .normal (jk s i false))<|by kernel_rfl
 ·obtain rfl:=lf h
  exact dz EF (p15<|sg 6 c14<|eF .normal (jk s i false))<|by kernel_rfl
end
section
variable(s:ag)(i:Int)
def gb:ak:=aY 41 [(0,.str s),(3,.int .i64 i)] [] []
def gd(o:Unit⊕(Unit)):Exit:=match o with
 |(.inl _)=>.ret
 |(.inr _)=>.exit 0
def eB(o:Unit⊕(Unit)):ak:=match o with
 |(.inl o)=>aY 41 [(2,.bool false)] [] []
 |(.inr o)=>aY 41 [] [] []
def jl:Option (Int⊕(Unit⊕(Unit))):=
 if(decide (i<(s.length:Int)))=true then
  (kP s i).bind fun o21=>
  if o21=true then
   some (.inr (.inl ()))
  else
   some (.inl (bA (i+1)))
 else
  some (.inr (.inr ()))
def kQ:Option (Unit⊕(Unit)):=loop (fun(zz:Int)=>jl s zz) i
theorem uk{y:Int⊕(Unit⊕(Unit))}(h:jl s i=some y):aA Pg GE 0 (cA Hn 119) (LQ (fun(zz:Int)=>gb s zz) gd eB y) (gb s i):=by
 rcases aG h with⟨c11,h⟩|⟨c11,h⟩
 ·obtain⟨o21,bo21,h⟩:=ax h
  have p23:=fun{sc F} (r:PS sc F)=>dB (eu underlying9 s)<|sg 0 c11<|pZ 1<|da (vg s i bo21)<|r
  rcases aG h with⟨c22,h⟩|⟨c22,h⟩
  ·obtain rfl:=lf h
   have z:=p23<|sg 0 c22<|eF (gd (.inl ())) (eB (.inl ()))
   exact jI EF (by intro hx;cases hx) z<|by kernel_rfl
  ·obtain rfl:=lf h
   exact tg EF (p23<|sg 0 c22<|eF .normal (gb s (bA (i+1))))<|by kernel_rfl
 ·obtain rfl:=lf h
  have z:=dB (eu underlying9 s)<|sg 0 c11<|eF (gd (.inr ())) (eB (.inr ()))
  exact jI EF (by intro hx;cases hx) z<|by kernel_rfl
theorem oP{x:Unit⊕(Unit)}(h:kQ s i=some x):aA Pg GE 0 (.loop (cA Hn 119)) (EX (gd x) (eB x)) (gb s i):=
 aA.loop (S:=fun(zz:Int)=>gb s zz) (ex:=gd) (s:=i) h fun zz y hy=>uk s zz hy
end
def pH(s:ag):Option Bool:=
 (kO s).bind fun o8=>
 if o8=true then
  some false
 else
  (kQ s 1).bind fun o24=>match o24 with
  |(.inl o24)=>
   some false
  |(.inr o24)=>
   some true
theorem sG{s:ag}{r:Bool}(h:pH s=some r):CC Pg GE 45 [.str s] (.bool r) []:=by
 obtain⟨o8,bo8,h⟩:=ax h
 have p10:=fun{sc F} (r:PS sc F)=>pZ 2<|da (vb s bo8)<|r
 rcases aG h with⟨c9,h⟩|⟨c9,h⟩
 ·obtain rfl:=lf h
  have z:=p10<|sg 0 c9<|en (aI (rP (.bool false))<|trivial)
  exact bm EF call45 func45 (c:=Hn) rfl (aI trivial trivial) z<|by kernel_rfl
 ·obtain⟨o24,bo24,h⟩:=ax h
  rcases o24 with o24|o24
  ·obtain rfl:=lf h
   have z:=p10<|sg 0 c9<|da (e:=.ret) (s1:=eB (.inl o24)) (oP s 1 bo24)<|en (aI (rP (.bool false))<|trivial)
   exact bm EF call45 func45 (c:=Hn) rfl (aI trivial trivial) z<|by kernel_rfl
  ·obtain rfl:=lf h
   have z:=p10<|sg 0 c9<|da (e:=.exit 0) (s1:=eB (.inr o24)) (oP s 1 bo24)<|en (aI (rP (.bool true))<|trivial)
   exact bm EF call45 func45 (c:=Hn) rfl (aI trivial trivial) z<|by kernel_rfl
noncomputable def Ko:Code:=f69.body.getD .skip
def Kb:List Nat:=[]
def jc(c:Int):Option Bool:=
 if(decide (65<=c))=true then
  some (decide (c<=90))
 else
  some false
theorem oN{c:Int}{r:Bool}(h:jc c=some r):CC Pg GE 69 [.int .u8 c] (.bool r) []:=by
 rcases aG h with⟨c1,h⟩|⟨c1,h⟩
 ·obtain rfl:=lf h
  have z:=sg 3 c1<|en (aI (rP (.bool (decide (c<=90))))<|trivial)
  exact bm Kb call69 func69 (c:=Ko) rfl (aI trivial trivial) z<|by kernel_rfl
 ·obtain rfl:=lf h
  have z:=sg 3 c1<|en (aI (rP (.bool false))<|trivial)
  exact bm Kb call69 func69 (c:=Ko) rfl (aI trivial trivial) z<|by kernel_rfl
noncomputable def IL:Code:=f48.body.getD .skip
def GO:List Nat:=[]
section
variable(s:ag)(i:Int)
def oL:ak:=aY 29 [(0,.str s),(3,.int .i64 i)] [] []
def dp(o:Bool):ak:=aY 29 [(0,.str s),(3,.int .i64 i),(28,.bool o)] [] []
def ed:Option Bool:=
 (iJ s i).bind fun c2=>
 (il c2).bind fun r3=>
 if(!r3)=true then
  (iJ s i).bind fun c6=>
  (jc c6).bind fun r7=>
  if(!r7)=true then
   (iJ s i).bind fun c10=>
   (jC c10).bind fun r11=>
   some (!r11)
  else
   some false
 else
  some false
theorem nY{x:Bool}(h:ed s i=some x):aA Pg GE 0 (cA IL 890) (EX .normal (dp s i x)) (oL s i):=by
 obtain⟨c2,bc2,h⟩:=ax h
 obtain⟨r3,br3,h⟩:=ax h
 have p5:=fun{sc F} (r:PS sc F)=>sv (eU (k:=.i64) underlying9 bc2)<|bW (j9 br3)<|r
 rcases aG h with⟨c4,h⟩|⟨c4,h⟩
 ·obtain⟨c6,bc6,h⟩:=ax h
  obtain⟨r7,br7,h⟩:=ax h
  have p9:=fun{sc F} (r:PS sc F)=>p5<|sg 6 c4<|sv (eU (k:=.i64) underlying9 bc6)<|bW (oN br7)<|r
  rcases aG h with⟨c8,h⟩|⟨c8,h⟩
  ·obtain⟨c10,bc10,h⟩:=ax h
   obtain⟨r11,br11,h⟩:=ax h
   obtain rfl:=lf h
   exact dz GO (p9<|sg 13 c8<|sv (eU (k:=.i64) underlying9 bc10)<|bW (mH br11)<|eF .normal (dp s i (!r11)))<|by kernel_rfl
  ·obtain rfl:=lf h
   exact dz GO (p9<|sg 13 c8<|eF .normal (dp s i false))<|by kernel_rfl
 ·obtain rfl:=lf h
  exact dz GO (p5<|sg 6 c4<|eF .normal (dp s i false))<|by kernel_rfl
end
section
variable(s:ag)(i:Int)
def b7:ak:=aY 29 [(0,.str s),(3,.int .i64 i)] [] []
def ca(o:Unit⊕(Unit)):Exit:=match o with
 |(.inl _)=>.ret
 |(.inr _)=>.exit 0
def bD(o:Unit⊕(Unit)):ak:=match o with
 |(.inl o)=>aY 29 [(2,.bool false)] [] []
 |(.inr o)=>aY 29 [] [] []
def b8:Option (Int⊕(Unit⊕(Unit))):=
 if(decide (i<(s.length:Int)))=true then
  (ed s i).bind fun o12=>
  if o12=true then
   some (.inr (.inl ()))
  else
   some (.inl (bA (i+1)))
 else
  some (.inr (.inr ()))
def gA:Option (Unit⊕(Unit)):=loop (fun(zz:Int)=>b8 s zz) i
theorem mX{y:Int⊕(Unit⊕(Unit))}(h:b8 s i=some y):aA Pg GE 0 (cA IL 55) (LQ (fun(zz:Int)=>b7 s zz) ca bD y) (b7 s i):=by
 rcases aG h with⟨c1,h⟩|⟨c1,h⟩
 ·obtain⟨o12,bo12,h⟩:=ax h
  have p14:=fun{sc F} (r:PS sc F)=>dB (eu underlying9 s)<|sg 0 c1<|pZ 1<|da (nY s i bo12)<|r
  rcases aG h with⟨c13,h⟩|⟨c13,h⟩
  ·obtain rfl:=lf h
   have z:=p14<|sg 0 c13<|eF (ca (.inl ())) (bD (.inl ()))
   exact jI GO (by intro hx;cases hx) z<|by kernel_rfl
  ·obtain rfl:=lf h
   exact tg GO (p14<|sg 0 c13<|eF .normal (b7 s (bA (i+1))))<|by kernel_rfl
 ·obtain rfl:=lf h
  have z:=dB (eu underlying9 s)<|sg 0 c1<|eF (ca (.inr ())) (bD (.inr ()))
  exact jI GO (by intro hx;cases hx) z<|by kernel_rfl
theorem jb{x:Unit⊕(Unit)}(h:gA s i=some x):aA Pg GE 0 (.loop (cA IL 55)) (EX (ca x) (bD x)) (b7 s i):=
 aA.loop (S:=fun(zz:Int)=>b7 s zz) (ex:=ca) (s:=i) h fun zz y hy=>mX s zz hy
end
def d6(s:ag):Option Bool:=
 (gA s 0).bind fun o15=>match o15 with
 |(.inl o15)=>
  some false
 |(.inr o15)=>
  some true
theorem km{s:ag}{r:Bool}(h:d6 s=some r):CC Pg GE 48 [.str s] (.bool r) []:=by
 obtain⟨o15,bo15,h⟩:=ax h
 rcases o15 with o15|o15
 ·obtain rfl:=lf h
  have z:=da (e:=.ret) (s1:=bD (.inl o15)) (jb s 0 bo15)<|en (aI (rP (.bool false))<|trivial)
  exact bm GO call48 func48 (c:=IL) rfl (aI trivial trivial) z<|by kernel_rfl
 ·obtain rfl:=lf h
  have z:=da (e:=.exit 0) (s1:=bD (.inr o15)) (jb s 0 bo15)<|en (aI (rP (.bool true))<|trivial)
  exact bm GO call48 func48 (c:=IL) rfl (aI trivial trivial) z<|by kernel_rfl
noncomputable def If:Code:=f46.body.getD .skip
def GN:List Nat:=[]
section
variable(s:ag)
def vo:ak:=aY 31 [(0,.str s)] [] []
def iC(o:Bool):ak:=aY 31 [(0,.str s),(16,.bool o)] [] []
def ka:Option Bool:=
 (jD s).bind fun r1=>
 if(!r1)=true then
  some true
 else
  (iJ s 0).bind fun c3=>
  (jc c3).bind fun r4=>
  if(!r4)=true then
   some true
  else
   (d6 s).bind fun r7=>
   some (!r7)
theorem um{x:Bool}(h:ka s=some x):aA Pg GE 0 (cA If 12) (EX .normal (iC s x)) (vo s):=by
 obtain⟨r1,br1,h⟩:=ax h
 rcases aG h with⟨c2,h⟩|⟨c2,h⟩
 ·obtain rfl:=lf h
  exact dz GN (bW (fw br1)<|sg 4 c2<|eF .normal (iC s true))<|by kernel_rfl
 ·obtain⟨c3,bc3,h⟩:=ax h
  obtain⟨r4,br4,h⟩:=ax h
  have p6:=fun{sc F} (r:PS sc F)=>bW (fw br1)<|sg 4 c2<|sv (eU (k:=.i64) underlying9 bc3)<|bW (oN br4)<|r
  rcases aG h with⟨c5,h⟩|⟨c5,h⟩
  ·obtain rfl:=lf h
   exact dz GN (p6<|sg 10 c5<|eF .normal (iC s true))<|by kernel_rfl
  ·obtain⟨r7,br7,h⟩:=ax h
   obtain rfl:=lf h
   exact dz GN (p6<|sg 10 c5<|bW (km br7)<|eF .normal (iC s (!r7)))<|by kernel_rfl
end
def nG(s:ag):Option Bool:=
 (ka s).bind fun o8=>
 if o8=true then
  some false
 else
  if (!(s == ([73,110,116]:ag))) = true then
   if(!(s==([66,111,111,108]:ag)))=true then
    if(!(s==([67,101,108,108]:ag)))=true then
     some (!(s==([70,117,110]:ag)))
    else
     some false
   else
    some false
  else
   some false
theorem ye{s:ag}{r:Bool}(h:nG s=some r):CC Pg GE 46 [.str s] (.bool r) []:=by
 obtain⟨o8,bo8,h⟩:=ax h
 have p10:=fun{sc F} (r:PS sc F)=>pZ 2<|da (um s bo8)<|r
 rcases aG h with⟨c9,h⟩|⟨c9,h⟩
 ·obtain rfl:=lf h
  have z:=p10<|sg 0 c9<|en (aI (rP (.bool false))<|trivial)
  exact bm GN call46 func46 (c:=If) rfl (aI trivial trivial) z<|by kernel_rfl
 ·have p12:=fun{sc F} (r:PS sc F)=>p10<|sg 0 c9<|r
  rcases aG h with⟨c11,h⟩|⟨c11,h⟩
  ·have p14:=fun{sc F} (r:PS sc F)=>p12<|sg 3 c11<|r
   rcases aG h with⟨c13,h⟩|⟨c13,h⟩
   ·have p16:=fun{sc F} (r:PS sc F)=>p14<|sg 7 c13<|r
    rcases aG h with⟨c15,h⟩|⟨c15,h⟩
    ·obtain rfl:=lf h
     have z:=p16<|sg 11 c15<|en (aI (rP (.bool (!(s==([70,117,110]:ag)))))<|trivial)
     exact bm GN call46 func46 (c:=If) rfl (aI trivial trivial) z<|by kernel_rfl
    ·obtain rfl:=lf h
     have z:=p16<|sg 11 c15<|en (aI (rP (.bool false))<|trivial)
     exact bm GN call46 func46 (c:=If) rfl (aI trivial trivial) z<|by kernel_rfl
   ·obtain rfl:=lf h
    have z:=p14<|sg 7 c13<|en (aI (rP (.bool false))<|trivial)
    exact bm GN call46 func46 (c:=If) rfl (aI trivial trivial) z<|by kernel_rfl
  ·obtain rfl:=lf h
   have z:=p12<|sg 3 c11<|en (aI (rP (.bool false))<|trivial)
   exact bm GN call46 func46 (c:=If) rfl (aI trivial trivial) z<|by kernel_rfl
noncomputable def IM:Code:=f49.body.getD .skip
def F9:List Nat:=[]
section
variable(s:ag)(i:Int)
def wG:ak:=aY 32 [(0,.str s),(3,.int .i64 i)] [] []
def gf(o:Bool):ak:=aY 32 [(0,.str s),(3,.int .i64 i),(31,.bool o)] [] []
def kR:Option Bool:=
 (iJ s i).bind fun c2=>
 (il c2).bind fun r3=>
 if (!r3) = true then
  if(i==0)=true then
   some true
  else
   (iJ s i).bind fun c8=>
   (jC c8).bind fun r9=>
   if(!r9)=true then
    (iJ s i).bind fun c12=>
    some (c12 !=95)
   else
    some false
 else
  some false
theorem vq{x:Bool}(h:kR s i=some x):aA Pg GE 0 (cA IM 890) (EX .normal (gf s i x)) (wG s i):=by
 obtain⟨c2,bc2,h⟩:=ax h
 obtain⟨r3,br3,h⟩:=ax h
 have p5:=fun{sc F} (r:PS sc F)=>sv (eU (k:=.i64) underlying9 bc2)<|bW (j9 br3)<|r
 rcases aG h with⟨c4,h⟩|⟨c4,h⟩
 ·have p7:=fun{sc F} (r:PS sc F)=>p5<|sg 6 c4<|r
  rcases aG h with⟨c6,h⟩|⟨c6,h⟩
  ·obtain rfl:=lf h
   exact dz F9 (p7<|sg 9 c6<|eF .normal (gf s i true))<|by kernel_rfl
  ·obtain⟨c8,bc8,h⟩:=ax h
   obtain⟨r9,br9,h⟩:=ax h
   have p11:=fun{sc F} (r:PS sc F)=>p7<|sg 9 c6<|sv (eU (k:=.i64) underlying9 bc8)<|bW (mH br9)<|r
   rcases aG h with⟨c10,h⟩|⟨c10,h⟩
   ·obtain⟨c12,bc12,h⟩:=ax h
    obtain rfl:=lf h
    exact dz F9 (p11<|sg 15 c10<|sv (eU (k:=.i64) underlying9 bc12)<|eF .normal (gf s i (c12 !=95)))<|by kernel_rfl
   ·obtain rfl:=lf h
    exact dz F9 (p11<|sg 15 c10<|eF .normal (gf s i false))<|by kernel_rfl
 ·obtain rfl:=lf h
  exact dz F9 (p5<|sg 6 c4<|eF .normal (gf s i false))<|by kernel_rfl
end
section
variable(s:ag)(i:Int)
def gg:ak:=aY 32 [(0,.str s),(3,.int .i64 i)] [] []
def gj(o:Unit⊕(Unit)):Exit:=match o with
 |(.inl _)=>.ret
 |(.inr _)=>.exit 0
def eC(o:Unit⊕(Unit)):ak:=match o with
 |(.inl o)=>aY 32 [(2,.bool false)] [] []
 |(.inr o)=>aY 32 [] [] []
def gh:Option (Int⊕(Unit⊕(Unit))):=
 if(decide (i<(s.length:Int)))=true then
  (kR s i).bind fun o13=>
  if o13=true then
   some (.inr (.inl ()))
  else
   some (.inl (bA (i+1)))
 else
  some (.inr (.inr ()))
def nZ:Option (Unit⊕(Unit)):=loop (fun(zz:Int)=>gh s zz) i
theorem uo{y:Int⊕(Unit⊕(Unit))}(h:gh s i=some y):aA Pg GE 0 (cA IM 55) (LQ (fun(zz:Int)=>gg s zz) gj eC y) (gg s i):=by
 rcases aG h with⟨c1,h⟩|⟨c1,h⟩
 ·obtain⟨o13,bo13,h⟩:=ax h
  have p15:=fun{sc F} (r:PS sc F)=>dB (eu underlying9 s)<|sg 0 c1<|pZ 1<|da (vq s i bo13)<|r
  rcases aG h with⟨c14,h⟩|⟨c14,h⟩
  ·obtain rfl:=lf h
   have z:=p15<|sg 0 c14<|eF (gj (.inl ())) (eC (.inl ()))
   exact jI F9 (by intro hx;cases hx) z<|by kernel_rfl
  ·obtain rfl:=lf h
   exact tg F9 (p15<|sg 0 c14<|eF .normal (gg s (bA (i+1))))<|by kernel_rfl
 ·obtain rfl:=lf h
  have z:=dB (eu underlying9 s)<|sg 0 c1<|eF (gj (.inr ())) (eC (.inr ()))
  exact jI F9 (by intro hx;cases hx) z<|by kernel_rfl
theorem oQ{x:Unit⊕(Unit)}(h:nZ s i=some x):aA Pg GE 0 (.loop (cA IM 55)) (EX (gj x) (eC x)) (gg s i):=
 aA.loop (S:=fun(zz:Int)=>gg s zz) (ex:=gj) (s:=i) h fun zz y hy=>uo s zz hy
end
def pI(s:ag):Option Bool:=
 (nZ s 0).bind fun o16=>match o16 with
 |(.inl o16)=>
  some false
 |(.inr o16)=>
  some true
theorem zk{s:ag}{r:Bool}(h:pI s=some r):CC Pg GE 49 [.str s] (.bool r) []:=by
 obtain⟨o16,bo16,h⟩:=ax h
 rcases o16 with o16|o16
 ·obtain rfl:=lf h
  have z:=da (e:=.ret) (s1:=eC (.inl o16)) (oQ s 0 bo16)<|en (aI (rP (.bool false))<|trivial)
  exact bm F9 call49 func49 (c:=IM) rfl (aI trivial trivial) z<|by kernel_rfl
 ·obtain rfl:=lf h
  have z:=da (e:=.exit 0) (s1:=eC (.inr o16)) (oQ s 0 bo16)<|en (aI (rP (.bool true))<|trivial)
  exact bm F9 call49 func49 (c:=IM) rfl (aI trivial trivial) z<|by kernel_rfl
noncomputable def GT:Code:=f25.body.getD .skip
def Dh:List Nat:=[]
section
variable(first:ag)(rest:ag)(more:Bool)
def wC:ak:=aY 52 [(3,.str first),(4,.str rest),(5,.bool more)] [] []
def f7(o:Bool):ak:=aY 52 [(4,.str rest),(5,.bool more),(31,.bool o)] [] []
def kL:Option Bool:=
 (pH first).bind fun r3=>
 if (!r3) = true then
  (nG first).bind fun r5=>
  if(!r5)=true then
   if(!(first==([118]:ag)))=true then
    some true
   else
    some (!more)
  else
   some false
 else
  some false
theorem uZ{x:Bool}(h:kL first more=some x):aA Pg GE 0 (cA GT 60) (EX .normal (f7 rest more x)) (wC first rest more):=by
 obtain⟨r3,br3,h⟩:=ax h
 rcases aG h with⟨c4,h⟩|⟨c4,h⟩
 ·obtain⟨r5,br5,h⟩:=ax h
  have p7:=fun{sc F} (r:PS sc F)=>bW (sG br3)<|sg 4 c4<|bW (ye br5)<|r
  rcases aG h with⟨c6,h⟩|⟨c6,h⟩
  ·have p9:=fun{sc F} (r:PS sc F)=>p7<|sg 9 c6<|r
   rcases aG h with⟨c8,h⟩|⟨c8,h⟩
   ·obtain rfl:=lf h
    exact dz Dh (p9<|sg 12 c8<|eF .normal (f7 rest more true))<|by kernel_rfl
   ·obtain rfl:=lf h
    exact dz Dh (p9<|sg 12 c8<|eF .normal (f7 rest more (!more)))<|by kernel_rfl
  ·obtain rfl:=lf h
   exact dz Dh (p7<|sg 9 c6<|eF .normal (f7 rest more false))<|by kernel_rfl
 ·obtain rfl:=lf h
  exact dz Dh (bW (sG br3)<|sg 4 c4<|eF .normal (f7 rest more false))<|by kernel_rfl
end
section
variable(rest:ag)(more:Bool)(part:ag)
def wD:ak:=aY 52 [(4,.str rest),(5,.bool more),(6,.str part)] [] []
def jh(o:Bool):ak:=aY 52 [(4,.str rest),(5,.bool more),(51,.bool o)] [] []
def kM:Option Bool:=
 (jD part).bind fun r15=>
 if(!r15)=true then
  some true
 else
  (d6 part).bind fun r17=>
  if(!r17)=true then
   (pI part).bind fun r20=>
   some (!r20)
  else
   some false
theorem u4{x:Bool}(h:kM part=some x):aA Pg GE 0 (cA GT 8062) (EX .normal (jh rest more x)) (wD rest more part):=by
 obtain⟨r15,br15,h⟩:=ax h
 rcases aG h with⟨c16,h⟩|⟨c16,h⟩
 ·obtain rfl:=lf h
  exact dz Dh (bW (fw br15)<|sg 4 c16<|eF .normal (jh rest more true))<|by kernel_rfl
 ·obtain⟨r17,br17,h⟩:=ax h
  have p19:=fun{sc F} (r:PS sc F)=>bW (fw br15)<|sg 4 c16<|bW (km br17)<|r
  rcases aG h with⟨c18,h⟩|⟨c18,h⟩
  ·obtain⟨r20,br20,h⟩:=ax h
   obtain rfl:=lf h
   exact dz Dh (p19<|sg 8 c18<|bW (zk br20)<|eF .normal (jh rest more (!r20)))<|by kernel_rfl
  ·obtain rfl:=lf h
   exact dz Dh (p19<|sg 8 c18<|eF .normal (jh rest more false))<|by kernel_rfl
end
section
variable(rest:ag)(more:Bool)
def f8:ak:=aY 52 [(4,.str rest),(5,.bool more)] [] []
def ga(o:Unit⊕(Unit)):Exit:=match o with
 |(.inl _)=>.ret
 |(.inr _)=>.exit 0
def eA(o:Unit⊕(Unit)):ak:=match o with
 |(.inl o)=>aY 52 [(2,.int .i64 3)] [] []
 |(.inr o)=>aY 52 [] [] []
def ez:Option ((ag×Bool)⊕(Unit⊕(Unit))):=
 if more=true then
  (oO rest).bind fun r14=>
  (kM r14.1).bind fun o21=>
  if o21=true then
   some (.inr (.inl ()))
  else
   some (.inl (r14.2.1,r14.2.2))
 else
  some (.inr (.inr ()))
def dO:Option (Unit⊕(Unit)):=loop (fun(zz:ag×Bool)=>ez zz.1 zz.2) (rest,more)
theorem ug{y:(ag×Bool)⊕(Unit⊕(Unit))}(h:ez rest more=some y):aA Pg GE 0 (cA GT 251) (LQ (fun(zz:ag×Bool)=>f8 zz.1 zz.2) ga eA y) (f8 rest more):=by
 rcases aG h with⟨c13,h⟩|⟨c13,h⟩
 ·obtain⟨r14,br14,h⟩:=ax h
  obtain⟨o21,bo21,h⟩:=ax h
  have p23:=fun{sc F} (r:PS sc F)=>sg 0 c13<|bW (ui br14)<|pZ 0<|da (u4 r14.2.1 r14.2.2 r14.1 bo21)<|r
  rcases aG h with⟨c22,h⟩|⟨c22,h⟩
  ·obtain rfl:=lf h
   have z:=p23<|sg 0 c22<|eF (ga (.inl ())) (eA (.inl ()))
   exact jI Dh (by intro hx;cases hx) z<|by kernel_rfl
  ·obtain rfl:=lf h
   exact tg Dh (p23<|sg 0 c22<|eF .normal (f8 r14.2.1 r14.2.2))<|by kernel_rfl
 ·obtain rfl:=lf h
  have z:=sg 0 c13<|eF (ga (.inr ())) (eA (.inr ()))
  exact jI Dh (by intro hx;cases hx) z<|by kernel_rfl
theorem oK{x:Unit⊕(Unit)}(h:dO rest more=some x):aA Pg GE 0 (.loop (cA GT 251)) (EX (ga x) (eA x)) (f8 rest more):=
 aA.loop (S:=fun(zz:ag×Bool)=>f8 zz.1 zz.2) (ex:=ga) (s:=(rest,more)) h fun zz y hy=>ug zz.1 zz.2 hy
end
def mE(s:ag):Option Int:=
 if(decide ((s.length:Int)>120))=true then
  some 3
 else
  (oO s).bind fun r2=>
  (kL r2.1 r2.2.2).bind fun o10=>
  if o10=true then
   some 3
  else
   (dO r2.2.1 r2.2.2).bind fun o24=>match o24 with
   |(.inl o24)=>
    some 3
   |(.inr o24)=>
    some 0
theorem sF{s:ag}{r:Int}(h:mE s=some r):CC Pg GE 25 [.str s] (.int .i64 r) []:=by
 rcases aG h with⟨c1,h⟩|⟨c1,h⟩
 ·obtain rfl:=lf h
  have z:=dB (eu underlying9 s)<|sg 0 c1<|en (aI (rP (.int .i64 3))<|trivial)
  exact bm Dh call25 func25 (c:=GT) rfl (aI trivial trivial) z<|by kernel_rfl
 ·obtain⟨r2,br2,h⟩:=ax h
  obtain⟨o10,bo10,h⟩:=ax h
  have p12:=fun{sc F} (r:PS sc F)=>dB (eu underlying9 s)<|sg 0 c1<|bW (ui br2)<|pZ 1<|da (uZ r2.1 r2.2.1 r2.2.2 bo10)<|r
  rcases aG h with⟨c11,h⟩|⟨c11,h⟩
  ·obtain rfl:=lf h
   have z:=p12<|sg 0 c11<|en (aI (rP (.int .i64 3))<|trivial)
   exact bm Dh call25 func25 (c:=GT) rfl (aI trivial trivial) z<|by kernel_rfl
  ·obtain⟨o24,bo24,h⟩:=ax h
   rcases o24 with o24|o24
   ·obtain rfl:=lf h
    have z:=p12<|sg 0 c11<|da (e:=.ret) (s1:=eA (.inl o24)) (oK r2.2.1 r2.2.2 bo24)<|en (aI (rP (.int .i64 3))<|trivial)
    exact bm Dh call25 func25 (c:=GT) rfl (aI trivial trivial) z<|by kernel_rfl
   ·obtain rfl:=lf h
    have z:=p12<|sg 0 c11<|da (e:=.exit 0) (s1:=eA (.inr o24)) (oK r2.2.1 r2.2.2 bo24)<|en (aI (rP (.int .i64 0))<|trivial)
    exact bm Dh call25 func25 (c:=GT) rfl (aI trivial trivial) z<|by kernel_rfl
noncomputable def Kg:Code:=f26.body.getD .skip
def J3:List Nat:=[]
def fN(n:Int):Option Bool:=
 if(decide (n>=0))=true then
  some (decide (n<6))
 else
  some false
theorem lE{n:Int}{r:Bool}(h:fN n=some r):CC Pg GE 26 [.int .i64 n] (.bool r) []:=by
 rcases aG h with⟨c1,h⟩|⟨c1,h⟩
 ·obtain rfl:=lf h
  have z:=sg 3 c1<|en (aI (rP (.bool (decide (n<6))))<|trivial)
  exact bm J3 call26 func26 (c:=Kg) rfl (aI trivial trivial) z<|by kernel_rfl
 ·obtain rfl:=lf h
  have z:=sg 3 c1<|en (aI (rP (.bool false))<|trivial)
  exact bm J3 call26 func26 (c:=Kg) rfl (aI trivial trivial) z<|by kernel_rfl
noncomputable def JG:Code:=f27.body.getD .skip
def Jy:List Nat:=[]
def gO(a:ah)(a2:ah):Option Bool:=
 if(decide (a.From<a2.From))=true then
  some true
 else
  if(a.From==a2.From)=true then
   some (decide (a.To<a2.To))
  else
   some false
theorem rt{a:ah}{a2:ah}{r:Bool}(h:gO a a2=some r):CC Pg GE 27 [.agg (ai a),.agg (ai a2)] (.bool r) []:=by
 have p2:=fun{sc F} (r:PS sc F)=>se (pL a)<|se (pL a2)<|sv (cC a)<|sv (di a)<|sv (cC a2)<|sv (di a2)<|r
 rcases aG h with⟨c1,h⟩|⟨c1,h⟩
 ·obtain rfl:=lf h
  have z:=p2<|sg 6 c1<|en (aI (rP (.bool true))<|trivial)
  exact bm Jy call27 func27 (c:=JG) rfl (aI (ay a) (aI (ay a2) trivial)) z<|by kernel_rfl
 ·have p4:=fun{sc F} (r:PS sc F)=>p2<|sg 6 c1<|sv (cC a)<|sv (di a)<|sv (cC a2)<|sv (di a2)<|r
  rcases aG h with⟨c3,h⟩|⟨c3,h⟩
  ·obtain rfl:=lf h
   have z:=p4<|sg 12 c3<|sv (fS a)<|sv (ig a)<|sv (fS a2)<|sv (ig a2)<|en (aI (rP (.bool (decide (a.To<a2.To))))<|trivial)
   exact bm Jy call27 func27 (c:=JG) rfl (aI (ay a) (aI (ay a2) trivial)) z<|by kernel_rfl
  ·obtain rfl:=lf h
   have z:=p4<|sg 12 c3<|en (aI (rP (.bool false))<|trivial)
   exact bm Jy call27 func27 (c:=JG) rfl (aI (ay a) (aI (ay a2) trivial)) z<|by kernel_rfl
end Go.Proofs.YtoficachfgggjaaDoor
