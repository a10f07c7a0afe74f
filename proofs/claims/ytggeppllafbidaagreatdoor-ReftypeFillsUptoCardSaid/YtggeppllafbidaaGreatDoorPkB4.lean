/- PROVED: a part of the proof. Conditions: none. -/
import Derived.Test.YtggeppllafbidaaGreatDoorPkB3
import Derived.Below
import Derived.WalkKit
import Derived.RangeFuncNested
import Derived.RangeFuncCalls
import Derived.Sort.LoopGhostIn
import Derived.OrdersIn
noncomputable section
namespace Go.Proofs.YtggeppllafbidaaGreatDoor
open Go
section
variable{P:Program}{E:ma}{Γ:aK}{bs:ba}{ow:Nat->Option iD}{w:World}{a:Array Value}{st:aq}
theorem BR.demote{Γ':aK}{B:aw}{b:Nat}(h:BR Γ bs w B b)(hg:∀b n,Γ b=some n->0<n->Γ' b=some n):BR Γ' bs w B b:=by
 cases B with
 |cells cs own=>
  obtain⟨c,t,h1,h2,h3⟩:=h
  exact⟨c,t,h1,h2,fun j p v hp hv=>(h3 j p v hp hv).demote hg⟩
 |map es=>
  obtain⟨c,t,h1,h2,h3⟩:=h
  exact⟨c,t,h1,h2,fun j k u x hp hv=>⟨(h3 j k u x hp hv).1.demote hg,(h3 j k u x hp hv).2.demote hg⟩⟩
 |dead=>trivial
def aK.cut(Γ:aK)(g:Nat):aK:=fun b=>if b=g then none else Γ b
theorem aK.cut_same(Γ:aK)(g:Nat):Γ.cut g g=none:=by simp[aK.cut]
theorem aK.cut_other(Γ:aK){g b:Nat}(h:b≠g):Γ.cut g b=Γ b:=by simp[aK.cut,h]
theorem SR.demote(h:SR P E Γ bs ow w a st){g:Nat}(hg:Γ g=some 0)(how:ow g=none)(hT:E.T g\/E.w.heap.size<=g):SR P E (Γ.cut g) bs ow w a st:=by
 have hd:∀b n,Γ b=some n->0<n->Γ.cut g b=some n:=fun b n hb hn=>by
  rw[Γ.cut_other]
  ·exact hb
  ·intro e;subst e;rw[hg]at hb;cases hb;omega
 have hown:∀{v:Value} {e:TypeId} {L:iD},fA P Γ w v e->(∀b,v.ownBlock=some b->ow b=some L)->fA P (Γ.cut g) w v e:=fun ho hL=>
  ho.same fun b hb=>⟨rfl,Γ.cut_other fun e=>by subst e;have:=hL b hb;rw[how]at this;cases this⟩
 exact{h with
  wi:=fun b n hb=>by
   by_cases e:b=g
   ·subst e;rw[Γ.cut_same]at hb;cases hb
   ·rw[Γ.cut_other e]at hb;exact h.wi b n hb
  tm:=fun t p v hp hv=>(h.tm t p v hp hv).demote hd
  bx:=fun i b B hb hB=>by
   obtain⟨h1,h2,h3⟩:=h.bx i b B hb hB
   refine⟨?_,h2,h3.demote hd⟩
   by_cases e:b=g
   ·subst e;exact Γ.cut_same _
   ·rw[Γ.cut_other e];exact h1
  ot:=fun t k e he=>by
   obtain⟨u,v,h1,h2,h3,h4⟩:=h.ot t k e he
   exact⟨u,v,h1,h2,hown h3 h4,h4⟩
  ob:=fun i j e cs own b hB hj hb=>by
   obtain⟨v,h1,h2,h3⟩:=h.ob i j e cs own b hB hj hb
   exact⟨v,h1,hown h2 h3,h3⟩
  gl:=fun x cs hx=>(h.gl x cs hx).demote hd
  step:={h.step with
   keep:=fun b hb hb2=>by
    obtain⟨k1,k2⟩:=h.step.keep b hb hb2
    refine⟨k1,?_⟩
    rw[Γ.cut_other]
    ·exact k2
    ·intro e;subst e;rcases hT with hT|hT
     ·exact hb2 hT
     ·omega
   le:=fun b n hb hn=>by
    obtain⟨n',k1,k2,k3⟩:=h.step.le b n hb hn
    exact⟨n',hd b n' k1 (by omega),k2,k3⟩}}
theorem JG{α:Type}{l:List α}{x y:α}{i:Nat}(h:(l++[x])[i]? =some y):l[i]? =some y\/(i=l.length/\x=y):=by
 by_cases hi:i<l.length
 ·rw[vac hi]at h;exact .inl h
 ·rw[vae (by omega)]at h
  by_cases h0:i - l.length=0
  ·rw[h0]at h;simp at h;exact .inr ⟨by omega,h⟩
  ·rw[vax (by simp;omega)]at h;cases h
theorem KX(bs:ba)(x:Option Nat):bs.Sub (bs++[x]):=fun i b hb=>by rw[vac (aj hb)];exact hb
theorem SR.addBox(h:SR P E Γ bs ow w a st)(xb:Option Nat){cs:List PVal}
  (hx:∀b,xb=some b->(∃cur t,w.heap[b]? =some (.cells cur t (0,0))/\cs.length<=cur.size/\∀(j:Nat) p v,cs[j]? =some p->cur[j]? =some v->VR Γ bs w p v)/\Γ b=none/\(E.T b\/E.w.heap.size<=b)/\∀i:Nat,bs[i]? ≠some (some b)):
  SR P E Γ (bs++[xb]) ow w a {st with boxes:=st.boxes++[.cells cs []]}:=by
 have hs:=KX bs xb
 exact{h with
  tm:=fun t p v hp hv=>(h.tm t p v hp hv).mono (.refl _ _) hs
  bl:=by simp[h.bl]
  bx:=fun i b B hb hB=>by
   rcases JG hb with hb'|⟨rfl,hb'⟩
   ·rw[vac (by rw[<-h.bl];exact aj hb')]at hB
    obtain⟨h1,h2,h3⟩:=h.bx i b B hb' hB
    exact⟨h1,h2,h3.mono (.refl _ _) hs rfl⟩
   ·obtain⟨⟨cur,t,k1,k2,k3⟩,k4,k5,k6⟩:=hx b hb'
    rw[h.bl,vae (vaq _),vbC]at hB
    cases hB
    exact⟨k4,(vam.1 k1).1,cur,t,k1,k2,fun j p v hp hv=>(k3 j p v hp hv).mono (.refl _ _) hs⟩
  inj:=fun i j b hi hj=>by
   rcases JG hi with hi'|⟨rfl,hi'⟩<;>rcases JG hj with hj'|⟨rfl,hj'⟩
   ·exact h.inj i j b hi' hj'
   ·exact absurd hi' ((hx b hj').2.2.2 i)
   ·exact absurd hj' ((hx b hi').2.2.2 j)
   ·rfl
  bn:=fun i b hb=>by
   rcases JG hb with hb'|⟨rfl,hb'⟩
   ·exact h.bn i b hb'
   ·exact(hx b hb').2.2.1
  ob:=fun i j e cs' own b hB hj hb=>by
   rcases JG hb with hb'|⟨rfl,hb'⟩
   ·rw[vac (by rw[<-h.bl];exact aj hb')]at hB
    exact h.ob i j e cs' own b hB hj hb'
   ·rw[h.bl,vae (vaq _),vbC]at hB
    cases hB
    simp at hj
  gl:=fun g cs hg=>(h.gl g cs hg).mono (.refl _ _) hs}
theorem BO{ns:List (List PVal)}{x:Value}{sz:Nat}(hx:VR Γ bs w (.slice ns) x)(hsz0:0<sz)(hns1:∀x∈ns,x.length=sz/\∀q∈x,q.one=true):∃news:List Value,((x=.slice none 0 0/\ns.length=0)\/∃a c,x=.slice (some a) ns.length c/\∀(j:Nat) u,news[j]? =some u->w.cell? (a.add j)=some u)/\
   news.length=ns.length * sz/\(∀u∈news,u.oneCell'=true)/\
   ∀(i:Nat) x (k:Nat) q,ns[i]? =some x->x[k]? =some q->∃u,news[i * sz+k]? =some u/\VR Γ bs w q u:=by
 have hnsz:∀(i:Nat) x,ns[i]? =some x->x.length=sz:=fun i x hx=>(hns1 x (vaw hx)).1
 cases hx with
 |sliceNil=>exact⟨[],.inl ⟨rfl,rfl⟩,by simp,by simp,by simp⟩
 |sliceE a cap=>exact⟨[],.inr ⟨a,cap,rfl,by simp⟩,by simp,by simp,by simp⟩
 | slice ns b off cap n' sz' vals hz0 hcap hgg hn hsz hc hvv =>
  have hcell:∀(i:Nat) x (k:Nat) q,ns[i]? =some x->x[k]? =some q->w.cell? ⟨b,off+(i * sz+k),none⟩=some (vals i k):=by
   intro i x k q hx hq
   have hsz':sz'=sz:=by rw[<-hsz i x hx];exact hnsz i x hx
   subst hsz'
   rw[<-vbR];exact hc i x k q hx hq
  have hpos:∀o,o<ns.length * sz->∃x q,ns[o / sz]? =some x/\x[o % sz]? =some q/\o=o / sz * sz+o % sz:=by
   intro o ho
   obtain⟨m1,m2⟩:=zu (q:=o) hsz0
   have hlt:o / sz<ns.length:=(vcf hsz0).2 ho
   have hxl:=hnsz _ _ (vaa hlt)
   exact⟨_,_,vaa hlt,vaa (by rw[hxl];exact m2),m1⟩
  refine⟨(List.range (ns.length * sz)).map fun o=>vals (o / sz) (o % sz),.inr ⟨⟨b,off,none⟩,cap,rfl,fun j u hu=>?_⟩,by simp,fun u hu=>?_,fun i x k q hx hq=>⟨vals i k,?_,hvv i x k q hx hq⟩⟩
  ·rw[vat]at hu
   have hj:j<ns.length * sz:=by
    by_cases hj:j<ns.length * sz
    ·exact hj
    ·rw[vax (by simp;omega)]at hu;cases hu
   rw[vbg hj]at hu
   simp only[vad,vao]at hu
   subst hu
   obtain⟨x,q,k1,k2,k3⟩:=hpos j hj
   have:=hcell _ _ _ _ k1 k2
   rw[<-k3]at this
   rw[Addr.add_lit];exact this
  ·simp only[van,vbj]at hu
   obtain⟨o,ho,rfl⟩:=hu
   obtain⟨x,q,k1,k2,k3⟩:=hpos o ho
   exact VR.one (hvv _ _ _ _ k1 k2) ((hns1 x (vaw k1)).2 q (vaw k2))
  ·have hk:k<sz:=by have:=aj hq;rw[hnsz i x hx]at this;exact this
   have hlt:=Fe (aj hx) hk
   rw[vat,vbg hlt]
   simp only[vad,vao]
   rw[vce i,Nat.mul_add_div hsz0,vb9 hk,Nat.mul_add_mod,vca hk,Nat.add_zero]
theorem Ch{sz:Nat}(hsz:0<sz):∀{ns:List (List PVal)},(∀x∈ns,x.length=sz)->∀{j:Nat} {p:PVal},ns.flatten[j]? =some p->∃x,ns[j / sz]? =some x/\x[j % sz]? =some p
 |[],_,j,p,h=>by simp at h
 | x :: ns,hl,j,p,h => by
  have hx:=hl x (by simp)
  rw[List.flatten_cons]at h
  by_cases hj:j<sz
  ·rw[vac (by omega)]at h
   rw[vb9 hj,vca hj]
   exact⟨x,rfl,h⟩
  ·rw[vae (by omega),hx]at h
   obtain⟨y,h1,h2⟩:=Ch hsz (fun z hz=>hl z (by simp[hz])) h
   have e1:j / sz=(j - sz) / sz+1:=by
    conv=>lhs;rw[show j=(j - sz)+sz by omega]
    rw[Nat.add_div_right _ hsz]
   have e2:j % sz=(j - sz) % sz:=by
    conv=>lhs;rw[show j=(j - sz)+sz by omega]
    rw[Nat.add_mod_right]
   rw[e1,e2]
   exact⟨y,by simpa using h1,h2⟩
theorem flat_len{sz:Nat}:∀{ns:List (List PVal)},(∀x∈ns,x.length=sz)->ns.flatten.length=ns.length * sz
 |[],_=>by simp
 |x::ns,hl=>by
  rw[List.flatten_cons,vaY,hl x (by simp),flat_len (fun z hz=>hl z (by simp[hz])),vaS,vaN,vbi,vch]
theorem uJ{ns:List (List PVal)}{sz:Nat}(hsz0:0<sz)(hl:∀x∈ns,x.length=sz){cur:Array Value}(hc:∀(i:Nat) x (k:Nat) q,ns[i]? =some x->x[k]? =some q->∃u,cur[i * sz+k]? =some u/\VR Γ bs w q u):ns.flatten.length<=cur.size/\∀(j:Nat) p v,ns.flatten[j]? =some p->cur[j]? =some v->VR Γ bs w p v:=by
 have key:∀(j:Nat) p,ns.flatten[j]? =some p->∃u,cur[j]? =some u/\VR Γ bs w p u:=by
  intro j p hp
  obtain⟨x,h1,h2⟩:=Ch hsz0 hl hp
  have:=hc _ _ _ _ h1 h2
  rwa[<-(zu (q:=j) hsz0).1]at this
 refine⟨?_,fun j p v hp hv=>?_⟩
 ·by_cases h0:ns.flatten.length=0
  ·omega
  ·obtain⟨u,hu,_⟩:=key (ns.flatten.length - 1) _ (vaa (by omega))
   have:=(vam.1 hu).1
   omega
 ·obtain⟨u,hu,hv'⟩:=key j p hp
  rw[hu]at hv;cases hv;exact hv'
theorem Fl(h:SR P E Γ bs ow w a st){t ty e:TypeId}{ns:List (List PVal)}{p:PVal}{v x:Value}(ht:P.underlying t=some (.slice e))(hv:VR Γ bs w (.slice []) v)(hx:VR Γ bs w (.slice ns) x)
  (ho:fA P Γ w v e) (hfree:∀b,v.ownBlock=some b->ow b=none/\(E.T b\/E.w.heap.size<=b)) (hp:iz P t [] ns=some p):
  ∃v' w' Γ' xb,(Builtin.append_ #[t,t] ty #[v,x]).run P w=.ok v' w'/\SR P E Γ' (bs++[xb]) ow w' a {st with boxes:=st.boxes++[.cells ns.flatten []]}/\VR Γ' (bs++[xb]) w' (.bsl st.boxes.length 0 ns.length) v':=by
 unfold iz at hp
 rw[ht]at hp
 simp only at hp
 split at hp
 case isFalse=>cases hp
 rename_i hh
 obtain⟨hlen,hby,hsz0,hzl,_,hns1⟩:=hh
 cases hp
 have hz:∃zs,gI P e=some zs/\zs.length=P.cellsOf e:=by simpa using hzl
 obtain⟨zs,hz,hzl⟩:=hz
 obtain⟨z,hr,rfl,i,hi,hz'⟩:=jW (w:=w) hz
 have hisz:i.size=P.cellsOf e:=by simp[Program.cellsOf,hi]
 have hiby:i.bytes=P.bytesOf e:=by simp[Program.bytesOf,hi]
 obtain⟨n,xs,hown,hgh⟩:=ho
 have hn0:n=0:=by
  rcases hown.2 with⟨rfl,rfl⟩|⟨g,cap,cur,rfl,_⟩
  ·rfl
  ·cases hv with
   |sliceE a cap=>rfl
   |slice es b off cap n' sz vals=>rfl
 subst hn0
 have hxs:xs=[]:=vai (by rw[hown.1];simp)
 subst hxs
 simp only[List.length_nil,vaB]at hlen
 have hmax:0+ns.length<=maxLen:=by unfold maxLen;unfold di at hlen;omega
 have hbytes:(0+ns.length) * i.bytes<=140737488355328:=by
  rw[hiby]
  have:(0+ns.length) * P.bytesOf e<=1073741824 * 65536:=vbL (by unfold di at hlen;omega) hby
  omega
 have hnsl:∀x∈ns,x.length=P.cellsOf e:=fun x hx=>(hns1 x hx).1
 obtain⟨Γ0,h0,hx0,hg0⟩:∃Γ0,SR P E Γ0 bs ow w a st/\VR Γ0 bs w (.slice ns) x/\∀b,v.ownBlock=some b->Γ0 b=none/\∀i:Nat,bs[i]? ≠some (some b):=by
  cases hvb:v.ownBlock with
  |none=>exact⟨Γ,h,hx,fun b hb'=>by cases hb'⟩
  | some g =>
   have hgz:Γ g=some 0:=by have:=hgh g hvb;simpa using this
   refine⟨Γ.cut g,h.demote hgz (hfree g hvb).1 (hfree g hvb).2,hx.demote fun b n hb hn=>?_,fun b hb'=>?_⟩
   ·have hne:b≠g:=by intro e;subst e;rw[hgz]at hb;cases hb;omega
    rw[Γ.cut_other hne]
    exact hb
   ·cases hb'
    refine⟨Γ.cut_same _,fun i hi=>?_⟩
    have:=(h.bx i g (st.boxes[i]'(by rw[<-h.bl];exact aj hi)) hi (by simp)).1
    rw[hgz]at this;cases this
 obtain⟨news,hnx,hnl,hn1,hnv⟩:=BO hx0 hsz0 hns1
 obtain⟨v',w',hrun,hcase⟩:=xE (ty:=ty) ht hi hz' hisz (by simpa using hzl) hsz0 hown hnx hnl hn1 hmax hbytes
 rcases hcase with⟨rfl,rfl,hm0⟩|⟨g,cap,cur,rfl,hg,hcs,hcm,htake,hroom,rfl,rfl⟩|⟨cap,rest,g1,g2,g3,rfl,rfl⟩
 ·have hns0:ns=[]:=vai hm0
  subst hns0
  refine⟨v',w',Γ0,none,hrun,h0.addBox none (fun b hb=>by cases hb),?_⟩
  cases hv with
  |sliceNil=>exact .bsl _ _ _ _ _ (vaq _) (fun _=>rfl) (.inl rfl)
  |sliceE a cap=>exact .bsl _ _ _ _ _ (vaL _) (fun h=>by cases h) (.inl rfl)
  |slice es b off cap n' sz vals=>exact .bsl _ _ _ _ _ (vaL _) (fun h=>by cases h) (.inl rfl)
 ·
  simp only[vci,List.take_zero,va7,vaB]at hrun hroom ⊢
  obtain⟨hΓg,hbg⟩:=hg0 g rfl
  have hheap:=pl w g cur (news++cur.toList.drop news.length).toArray e (0,0) hg
  have hne:∀{b m},Γ0 b=some m->b≠g:=fun hb e=>by subst e;rw[hΓg]at hb;cases hb
  have hle:Γ0.Le w Γ0 (w.setRow g (news++cur.toList.drop news.length).toArray):=fun b m hb _=>⟨m,hb,vaq _,fun o _=>bH (setRow_other w g b _ (hne hb)) o⟩
  have hSR:=h0.world (fun b=>b=g) hle (fun b m hb=>by
   obtain⟨c,t',fr,k1,k2⟩:=h0.wi b m hb
   exact⟨c,t',fr,(setRow_other w g b _ (hne hb)).trans k1,k2⟩) rfl rfl rfl (by simp) (fun b _ hbg=>⟨setRow_other w g b _ hbg,rfl⟩) (fun b hb=>by subst hb;exact(hfree b rfl).2)
   (fun i b hb hbg'=>by subst hbg';exact hbg i hb) (fun b L hL hbg'=>by subst hbg';rw[(hfree b rfl).1]at hL;cases hL)
  refine⟨_,_,Γ0,some g,hrun,hSR.addBox (some g) (fun b hb=>?_),?_⟩
  ·cases hb
   refine⟨⟨_,e,hheap,uJ hsz0 hnsl fun i x k q hx hq=>?_⟩,hΓg,(hfree g rfl).2,hbg⟩
   obtain⟨u,k1,k2⟩:=hnv i x k q hx hq
   refine⟨u,?_,k2.mono hle (.refl _)⟩
   simp only[vbc]
   rw[vac (aj k1)];exact k1
  ·refine .bsl _ _ _ _ _ hroom (fun h=>by cases h) (.inr ⟨g,rfl,?_⟩)
   rw[h.bl.symm,vae (vaq _),vbC];rfl
 ·
  simp only[va7,vaB]at hrun g1 ⊢
  have hfr:∀m,Γ0 w.heap.size≠some m:=fun m hm=>absurd (h0.lt_of_ghost hm) (vbD _)
  have hle:Γ0.Le w Γ0 (w.drew.alloc (.cells (news++rest).toArray e)):=fun b m hb _=>⟨m,hb,vaq _,fun o _=>bH (cK w.drew _ (h0.drew.lt_of_ghost hb)) o⟩
  have hheap:(w.drew.alloc (.cells (news++rest).toArray e)).heap[w.heap.size]? =some (.cells (news++rest).toArray e (0,0)):=fw w.drew _
  have hSR:=h0.drew.world (fun _=>False) (Γ':=Γ0) (w':=w.drew.alloc (.cells (news++rest).toArray e)) (fun b m hb _=>⟨m,hb,vaq _,fun o _=>bH (cK w.drew _ (h0.drew.lt_of_ghost hb)) o⟩) (fun b m hb=>by
   obtain⟨c',t',fr,k1,k2⟩:=h0.wi b m hb
   exact⟨c',t',fr,(cK w.drew _ (h0.drew.lt_of_ghost hb)).trans k1,k2⟩) rfl rfl rfl (by simp) (fun b hb _=>⟨cK w.drew _ hb,rfl⟩) (fun _ hx=>hx.elim) (fun _ _ _ hx=>hx) (fun _ _ _ hx=>hx)
  refine⟨_,_,Γ0,some w.heap.size,hrun,hSR.addBox (some w.heap.size) (fun b hb=>?_),?_⟩
  ·cases hb
   refine⟨⟨_,e,hheap,uJ hsz0 hnsl fun i x k q hx hq=>?_⟩,?_,.inr h.step.size,fun i hi=>?_⟩
   ·obtain⟨u,k1,k2⟩:=hnv i x k q hx hq
    refine⟨u,?_,k2.mono hle (.refl _)⟩
    simp only[vbc]
    rw[vac (aj k1)];exact k1
   ·cases hx':Γ0 w.heap.size with
    |none=>rfl
    |some m=>exact absurd hx' (hfr m)
   ·have:=(h.bx i _ (st.boxes[i]'(by rw[<-h.bl];exact aj hi)) hi (by simp)).2.1
    omega
  ·refine .bsl _ _ _ _ _ g1 (fun h=>by cases h) (.inr ⟨w.heap.size,rfl,?_⟩)
   rw[h.bl.symm,vae (vaq _),vbC];rfl
def kT(P:Program)(f:FuncId)(e:TypeId):Prop:=
 (∀vs w,(callFunc f vs).run P w=.ok (.enter f vs) w)/\
 ∀(w:World) (x:Value) (n:Nat) (news:List Value),((x=.slice none 0 0/\n=0)\/∃a c,x=.slice (some a) n c/\∀(j:Nat) u,news[j]? =some u->w.cell? (a.add j)=some u)->news.length=n * P.cellsOf e->(∀u∈news,u.oneCell'=true)->n<=di->
  Calls P f #[x] w fun r w'=>∃v',r=.returned v'/\w'.ownsRow w.heap.size e (P.cellsOf e) v' n news/\RowKit.Below w.heap.size w w'
theorem tA(h:SR P E Γ bs ow w a st){w':World}(hb:RowKit.Below w.heap.size w w'):Γ.Le w Γ w'/\SR P E Γ bs ow w' a st:=by
 have hle:Γ.Le w Γ w':=fun b m hb' _=>⟨m,hb',vaq _,fun o _=>bH (hb.block b (h.lt_of_ghost hb')) o⟩
 refine⟨hle,h.world (fun _=>False) hle (fun b m hb'=>?_) hb.os hb.tape hb.output hb.size (fun b hlt _=>⟨hb.block b hlt,rfl⟩) (fun _ hx=>hx.elim) (fun _ _ _ hx=>hx) (fun _ _ _ hx=>hx)⟩
 obtain⟨c',t',fr,k1,k2⟩:=h.wi b m hb'
 exact⟨c',t',fr,(hb.block b (h.lt_of_ghost hb')).trans k1,k2⟩
theorem Hf(h:SR P E Γ bs ow w a st){f:FuncId}{e:TypeId}{ns:List (List PVal)}{x:Value}(hC:kT P f e)(hx:VR Γ bs w (.slice ns) x)(hsz0:0<P.cellsOf e)(hns1:∀x∈ns,x.length=P.cellsOf e/\∀q∈x,q.one=true)(hlen:ns.length<=di):Calls P f #[x] w fun r w'=>∃v' xb,r=.returned v'/\SR P E Γ (bs++[xb]) ow w' a {st with boxes:=st.boxes++[.cells ns.flatten []]}/\VR Γ (bs++[xb]) w' (.bsl st.boxes.length 0 ns.length) v':=by
 obtain⟨news,hnx,hnl,hn1,hnv⟩:=BO hx hsz0 hns1
 refine(hC.2 w x ns.length news hnx hnl hn1 hlen).mono fun r w' hr=>?_
 obtain⟨v',rfl,hown,hb⟩:=hr
 obtain⟨hle,hS⟩:=tA h hb
 rcases hown.2 with⟨rfl,hn⟩|⟨g,cap,cur,rfl,hge,hheap,hnc,hcm,hcs,htake⟩
 ·have hns0:ns=[]:=vai hn
  subst hns0
  exact⟨_,none,rfl,hS.addBox none (fun b hb=>by cases hb),.bsl _ _ _ _ _ (vaL _) (fun _=>rfl) (.inl rfl)⟩
 ·refine⟨_,some g,rfl,hS.addBox (some g) (fun b hb'=>?_),?_⟩
  ·cases hb'
   refine⟨⟨cur,e,hheap,uJ hsz0 (fun x hx=>(hns1 x hx).1) fun i x k q hx hq=>?_⟩,?_,.inr (vaI h.step.size hge),fun i hi=>?_⟩
   ·obtain⟨u,k1,k2⟩:=hnv i x k q hx hq
    refine⟨u,?_,k2.mono hle (.refl _)⟩
    have hlt:=aj k1
    rw[<-htake,vak (by omega)]at k1
    simpa using k1
   ·cases hg:Γ g with
    |none=>rfl
    |some m=>exact absurd (h.lt_of_ghost hg) (by omega)
   ·have:=(h.bx i g (st.boxes[i]'(by rw[<-h.bl];exact aj hi)) hi (by simp)).2.1
    omega
  ·refine .bsl _ _ _ _ _ hnc (fun h=>by cases h) (.inr ⟨g,rfl,?_⟩)
   rw[h.bl.symm,vae (vaq _),vbC];rfl
theorem CC.clone{f:FuncId}{e:TypeId}{ns:List (List PVal)}{GE:List (Nat×List PVal)}(hC:kT P f e)(hcl:hX 0 [.slice ns])(hsz0:0<P.cellsOf e)(hns1:∀x∈ns,x.length=P.cellsOf e/\∀q∈x,q.one=true)(hlen:ns.length<=di):hX 0 [.slice ns]/\C P GE f [.slice ns] [] [] (.slice ns) [(0,e)] []:=by
 refine⟨hcl,hC.1,fun Γ bs ow w vs hS=>?_⟩
 have h1:vs.size=1:=hS.sz
 obtain⟨x,rfl⟩:∃x,vs=#[x]:=⟨vs[0],Array.ext (by simp[h1]) fun i hi hi2=>by simp at hi2;subst hi2;rfl⟩
 have hx:VR Γ bs w (.slice ns) x:=hS.tm 0 _ _ rfl rfl
 obtain⟨news,hnx,hnl,hn1,hnv⟩:=BO hx hsz0 hns1
 refine(hC.2 w x ns.length news hnx hnl hn1 hlen).mono fun r w' hr=>?_
 obtain⟨v',rfl,hown,hb⟩:=hr
 rcases hown.2 with⟨rfl,hn⟩|⟨g,cap,cur,rfl,hge,hheap,hnc,hcm,hcs,htake⟩
 ·have hns0:ns=[]:=vai hn
  subst hns0
  obtain⟨hle,hS'⟩:=tA hS hb
  have g1:=hS'.set (d:=0) (p:=.slice []) (v:=.slice none 0 0) .sliceNil
  have g2:=g1.addOwn (d:=0) (k:=0) (e:=e) (u:=.slice none 0 0) (v:=.slice none 0 0) (by simp) rfl ⟨0,[],World.ownsRow_nil _ _ _ _,fun b hb=>by simp[Value.ownBlock]at hb⟩ (fun b hb=>by simp[Value.ownBlock]at hb)
  exact⟨_,Γ,_,rfl,g2⟩
 ·have hfr:Γ g=none:=by
   cases hg:Γ g with
   |none=>rfl
   |some m=>exact absurd (hS.lt_of_ghost hg) (by omega)
  have hle:Γ.Le w (Γ.put g (ns.length * P.cellsOf e)) w':=fun b m hb' _=>by
   have hlt:=hS.lt_of_ghost hb'
   exact⟨m,(Γ.put_other (by omega)).trans hb',vaq _,fun o _=>bH (hb.block b hlt) o⟩
  have hS':=hS.world (Γ':=Γ.put g (ns.length * P.cellsOf e)) (w':=w') (fun _=>False) hle (fun b m hb'=>by
   by_cases hbg:b=g
   ·subst hbg
    rw[Γ.put_same]at hb';cases hb'
    exact⟨_,_,_,hheap,by rw[hcs];exact vaG _ hnc⟩
   ·rw[Γ.put_other hbg]at hb'
    obtain⟨c',t',fr,k1,k2⟩:=hS.wi b m hb'
    exact⟨c',t',fr,(hb.block b (hS.lt_of_ghost hb')).trans k1,k2⟩) hb.os hb.tape hb.output hb.size (fun b hlt _=>⟨hb.block b hlt,Γ.put_other (by omega)⟩) (fun _ hx=>hx.elim) (fun _ _ _ hx=>hx) (fun _ _ _ hx=>hx)
  have hvr:VR (Γ.put g (ns.length * P.cellsOf e)) bs w' (.slice ns) (.slice (some ⟨g,0,none⟩) ns.length cap):=by
   refine rQ hheap (Γ.put_same _ _) (vaq _) hsz0 hnc (fun i x hx=>(hns1 x (vaw hx)).1) fun i x k q hx hq=>?_
   obtain⟨u,k1,k2⟩:=hnv i x k q hx hq
   refine⟨u,?_,k2.mono hle (.refl _)⟩
   have hlt:=aj k1
   rw[<-htake,vak (by omega)]at k1
   simpa using k1
  have g1:=hS'.set (d:=0) hvr
  have g2:=g1.addOwn (d:=0) (k:=0) (e:=e) (u:=.slice (some ⟨g,0,none⟩) ns.length cap) (v:=.slice (some ⟨g,0,none⟩) ns.length cap) (by simp) rfl
   ⟨ns.length,news,⟨hnl,.inr ⟨g,cap,cur,rfl,vaL _,hheap,hnc,hcm,hcs,htake⟩⟩,fun b hb'=>by simp[Value.ownBlock]at hb';subst hb';exact Γ.put_same _ _⟩ (fun b hb'=>by
    simp[Value.ownBlock]at hb';subst hb'
    refine⟨?_,.inr hge⟩
    cases hL:ow g with
    |none=>rfl
    |some L=>exact absurd (hS.on _ L hL).1 (by omega))
  exact⟨_,_,_,rfl,g2⟩
end
def HB(P:Program)(GE:List (Nat×List PVal))(o:Oper)(K:aq->Prop)(st:aq):Prop:=
 match o.op,o.dst with
 | .call { callee := .builtin .append,args:=⟨[.tmp t,y]⟩,argTypes:=⟨[T,T']⟩ },some d => ∃ e ns p,T = T'∧P.underlying T = some (.slice e)∧st.tmps.getD t .undef = .slice []∧opv GE st.tmps y = .slice ns∧iz P T [] ns = some p∧((t,0),e) ∈ st.own∧d < st.tmps.length ∧
   K ⟨st.tmps.set d (.bsl st.boxes.length 0 ns.length),st.boxes++[.cells ns.flatten []],bI d (st.own.filter fun x=>x.1 !=(t,0))⟩
 | .call { callee := .value f,args:=⟨[x]⟩,.. },some d => ∃ g e ns,opv GE st.tmps f = .func (.func g) [] []∧kT P g e∧opv GE st.tmps x = .slice ns∧0 < P.cellsOf e∧(∀ x ∈ ns,x.length = P.cellsOf e∧∀ q ∈ x,q.one = true)∧ns.length ≤ di∧d < st.tmps.length ∧
   K ⟨st.tmps.set d (.bsl st.boxes.length 0 ns.length),st.boxes++[.cells ns.flatten []],bI d st.own⟩
 | .store T x (.const v),none => ∃ i off e H cs own,v = .slice none 0 0∧opv GE st.tmps x = .bptr i off∧cH P T (.bptr i off) (opv GE st.tmps (.const v)) st.boxes = some H∧H[i]? = some (.cells cs own) ∧
   K ⟨st.tmps,H.set i (.cells cs ((off,e)::own)),st.own⟩
 |_,_=>False
def EK(P:Program)(E:ma)(bs:ba)(id:Nat)(mk:Bool)(ds:List Deferred)(K:aq->Prop)(a:Act)(w:World):Prop:=
 a.defers=ds/\∃Γ bs' ow st,SR P E Γ bs' ow w a.tmps st/\K st/\(bs'=bs\/(mk=true/\∃b,bs'=bs.set id (some b))\/∃x,bs'=bs++[x])
theorem ew.to3{P:Program}{E:ma}{bs:ba}{id:Nat}{mk:Bool}{ds:List Deferred}{K:aq->Prop}{a:Act}{w:World}(h:ew P E bs id mk ds K a w):EK P E bs id mk ds K a w:=by
 obtain⟨h1,Γ,bs',ow,st,h2,h3,h4⟩:=h
 exact⟨h1,Γ,bs',ow,st,h2,h3,h4.imp_right .inl⟩
section
variable{P:Program}{E:ma}{Γ:aK}{bs:ba}{ow:Nat->Option iD}{w:World}{a:Act}{st:aq}
theorem HC(h:SR P E Γ bs ow w a.tmps st){o:Oper}{id:Nat}{K:aq->Prop}(hp:HB P E.GE o K st)(Q:Exit->Act->World->Prop):o.wp P a w (EK P E bs id (au o.op) a.defers K) Q:=by
 unfold HB at hp
 split at hp
 ·rename_i t y T T' d ho hdst
  obtain⟨e,ns,p,rfl,hT,het,hen,hpa,hmem,hd,hK⟩:=hp
  obtain⟨u,v,h1,h2,h3,h4⟩:=h.ot t 0 e hmem
  have hvt:=BP h h1
  rw[het]at hvt
  have huv:u=v:=Fj h2 (fun vs hx=>by subst hx;cases hvt) (fun vs hx=>by subst hx;cases hvt)
  subst huv
  have hf:=h.freeT t 0
  have hy:VR Γ bs w (opv E.GE st.tmps y) (a.eval y):=h.opv a.defers y
  rw[hen]at hy
  obtain⟨v',w',Γ',xb,r1,r2,r3⟩:=Fl (ty:=o.type) hf hT hvt hy h3 (fun b hb=>⟨by simp[h4 b hb],(h.on b _ (h4 b hb)).2⟩) hpa
  have hrun:(execOp a.eval o).run P w=.ok (.value v') w':=by
   simp[execOp,ho,resolve,invoke,builtin,jd h1,r1]
  unfold Oper.wp
  rw[hrun,Oper.upon_value]
  have g1:=r2.set (d:=d) r3
  have hput:∀v,(a.put o.dst v).tmps=a.tmps.setIfInBounds d v:=fun v=>by rw[hdst];rfl
  rw[<-hput]at g1
  exact⟨ck _ _ _,Γ',_,_,_,g1,hK,.inr (.inr ⟨xb,rfl⟩)⟩
 ·rename_i f x tys d ho hdst
  obtain⟨g,e,ns,hf,hC,hx,h1,h2,h3,hd,hK⟩:=hp
  have hvf:VR Γ bs w (opv E.GE st.tmps f) (a.eval f):=h.opv a.defers f
  have hvx:VR Γ bs w (opv E.GE st.tmps x) (a.eval x):=h.opv a.defers x
  rw[hf]at hvf
  rw[hx]at hvx
  generalize hev:a.eval f=vf at hvf
  cases hvf with
  |func _ _ _ fs cs hl hl' k1 k2=>
  have hfs:fs=#[]:=vaO (by simpa using hl)
  have hcs:cs=#[]:=vaO (by simpa using hl')
  subst hfs;subst hcs
  have hrun:(execOp a.eval o).run P w=.ok (.enter g #[a.eval x]) w:=by
   simp[execOp,ho,resolve,hev,Deferred.ofValue,invoke,hC.1]
  unfold Oper.wp
  rw[hrun,Oper.upon_enter]
  refine(Hf h hC hvx h1 h2 h3).mono fun r w' hr=>?_
  obtain⟨v',xb,rfl,hS,hv'⟩:=hr
  have g1:=hS.set (d:=d) hv'
  have hput:(a.put o.dst v').tmps=a.tmps.setIfInBounds d v':=by rw[hdst];rfl
  rw[<-hput]at g1
  show EK P E bs id (au o.op) a.defers K (a.put o.dst v') w'
  exact⟨ck _ _ _,Γ,_,ow,_,g1,hK,.inr (.inr ⟨xb,rfl⟩)⟩
 ·rename_i T x v ho hdst
  obtain⟨i,off,e,H,cs,own,rfl,hx,hps,hB,hK⟩:=hp
  have hvx:VR Γ bs w (opv E.GE st.tmps x) (a.eval x):=h.opv a.defers x
  have hvv:VR Γ bs w (opv E.GE st.tmps (.const (.slice none 0 0))) (.slice none 0 0):=h.opv a.defers (.const (.slice none 0 0))
  rw[hx]at hvx
  obtain⟨w',r1,r2,_,r4⟩:=tW h hvx hvv hps
  have hrun:(execOp a.eval o).run P w=.ok .skip w':=by
   have:a.eval (.const (.slice none 0 0))=.slice none 0 0:=rfl
   simp[execOp,ho,this,r1]
  unfold Oper.wp
  rw[hrun,Oper.upon_skip]
  generalize a.eval x=vx at hvx
  cases hvx with
  |bptr _ _ b hb=>
  have hc:=(r4 i off b rfl hb).1 0 (.slice none 0 0) rfl
  have g1:=r2.addOwnB (j:=off) (e:=e) hb hB hc ⟨0,[],World.ownsRow_nil _ _ _ _,fun b hb=>by simp[Value.ownBlock]at hb⟩ (fun b hb=>by simp[Value.ownBlock]at hb)
  rw[hdst]
  exact⟨rfl,Γ,bs,_,_,g1,hK,.inl rfl⟩
 ·exact hp.elim
end
structure OA where
 i:Nat
 t:Nat
 k:Nat
 e:TypeId
def dn(ρ:List Nat)(oa:List OA)(Γ:aK)(ow:Nat->Option iD):Nat->Option iD:=fun b=>
 match ow b with
 |some (.box j k)=>if(Γ b).isSome/\j∈ρ then some (.box (ρ.idxOf j) k)else none
 |some (.tmp t k)=>match oa.find? fun y=>y.t==t&&y.k==k with
  |some x=>if(Γ b).isSome then some (.tmp x.i k)else none
  |none=>none
 |_=>none
def ng(ρ:List Nat)(oa:List OA)(d:Nat)(owC ow:Nat->Option iD):Nat->Option iD:=fun b=>
 match owC b with
 |some (.box i k)=>some (.box (ρ.getD i 0) k)
 |some (.tmp _ k)=>some (.tmp d k)
 |none=>match ow b with
  |some (.box j k)=>if j∈ρ then none else some (.box j k)
  |some (.tmp t k)=>if(oa.any fun x=>x.t==t&&x.k==k)=true then none else some (.tmp t k)
  |none=>none
section
variable{P:Program}{E:ma}{Γ:aK}{bs:ba}{ow:Nat->Option iD}{w:World}{a:Array Value}{st:aq}{ρ:List Nat}
theorem JM(h:SR P E Γ bs ow w a st){g:FuncId}{args argsC:List PVal}{r rc:PVal}{ro:List (Nat×TypeId)}{Hc Hc' H':List aw}{vs:Array Value}{d:Nat}{oa:List OA}(hd:d<a.size)
  (hn:ρ.Nodup) (hC:C P E.GE g argsC (oa.map fun x=>((x.i,x.k),x.e)) Hc rc ro Hc') (ho1:∀x∈oa,(vs[x.i]? =some (.slice none 0 0)/\x.k=0)\/(((x.t,x.k),x.e)∈st.own/\vs[x.i]? =a[x.t]?)) (ho3:∀x∈oa,∀y∈oa,x.t=y.t->x.k=y.k->x.i=y.i) (hH:sU ρ st.boxes Hc) (hH':sU ρ H' Hc') (hlen:H'.length=st.boxes.length) (hsame:∀j:Nat,j∉ρ->H'[j]? =st.boxes[j]?)
  (hr:zg ρ r rc) (hal:args.length=argsC.length) (ha:∀(i:Nat) p q,args[i]? =some p->argsC[i]? =some q->zg ρ p q)
  (hl:vs.size=args.length) (hv:∀(i:Nat) p v,args[i]? =some p->vs[i]? =some v->VR Γ bs w p v):
  Calls P g vs w fun e w'=>∃v Γ' ow',e=.returned v/\SR P E Γ' bs ow' w' (a.setIfInBounds d v) {st with tmps:=st.tmps.set d r,boxes:=H',own:=(ro.map fun x=>((d,x.1),x.2))++bI d (st.own.filter fun z=>!oa.any fun x=>z.1==(x.t,x.k))}/\Γ.Le w Γ' w':=by
 let bsC:ba:=ρ.map fun j=>(bs[j]?).getD none
 have hjlt:∀{i j:Nat},ρ[i]? =some j->j<st.boxes.length:=fun{i j} hij=>by
  obtain⟨B,_,hB,_⟩:=hH.box i j hij;exact aj hB
 have hbb:∀(i j:Nat),ρ[i]? =some j->bsC[i]? =bs[j]?:=by
  intro i j hij
  have hj:j<bs.length:=by rw[h.bl];exact hjlt hij
  simp[bsC,hij,vaa hj]
 have hbc:∀{i b:Nat},bsC[i]? =some (some b)->∃j,ρ[i]? =some j/\bs[j]? =some (some b):=by
  intro i b hib
  have hi:i<ρ.length:=by have:=aj hib;simpa[bsC]using this
  have hij:ρ[i]? =some ρ[i]:=vaa hi
  exact⟨_,hij,(hbb i _ hij).symm.trans hib⟩
 have hcow:∀{b L},dn ρ oa Γ ow b=some L->(Γ b).isSome/\((∃j k,ow b=some (.box j k)/\j∈ρ/\L=.box (ρ.idxOf j) k)\/(∃x∈oa,ow b=some (.tmp x.t x.k)/\L=.tmp x.i x.k)):=by
  intro b L hL
  unfold dn at hL
  split at hL
  ·rename_i j k hb
   split at hL
   ·rename_i hc;cases hL;exact⟨hc.1,.inl ⟨j,k,hb,hc.2,rfl⟩⟩
   ·cases hL
  ·rename_i t k hb
   split at hL
   ·rename_i x hx
    split at hL
    ·rename_i hc
     cases hL
     have h1:=vba hx
     have h2:=vbF hx
     simp only[vah,vaP]at h2
     exact⟨hc,.inr ⟨x,h1,by rw[hb,h2.1,h2.2],by rw[h2.2]⟩⟩
    ·cases hL
   ·cases hL
  ·cases hL
 have hpre:SR P ⟨E.GE,Γ,w,bJ bsC (dn ρ oa Γ ow)⟩ Γ bsC (dn ρ oa Γ ow) w vs ⟨argsC,Hc,oa.map fun x=>((x.i,x.k),x.e)⟩:={
  wi:=h.wi
  sz:=by simpa[hal]using hl
  tm:=fun t q v hq hv'=>by
   have ht:=aj hq
   have hp:=vaa (l:=args) (i:=t) (by rw[hal];exact ht)
   exact(ha t _ q hp hq).to hbb (hv t _ v hp hv')
  bl:=by simp[bsC,hH.len]
  bx:=fun i b Bc hib hBc=>by
   obtain⟨j,hij,hjb⟩:=hbc hib
   obtain⟨B,Bc',hB,hBc',hx⟩:=hH.box i j hij
   rw[hBc]at hBc';cases hBc'
   obtain⟨k1,k2,k3⟩:=h.bx j b B hjb hB
   exact⟨k1,k2,hx.to hbb k3⟩
  inj:=fun i j b hi hj=>by
   obtain⟨x,hx,hxb⟩:=hbc hi
   obtain⟨y,hy,hyb⟩:=hbc hj
   have:=h.inj x y b hxb hyb
   subst this
   rw[<-nh hn hx,nh hn hy]
  bn:=fun i b hb=>.inl (.inl ⟨i,hb⟩)
  on:=fun b L hL=>by
   refine⟨?_,.inl (.inr (by rw[hL];simp))⟩
   rcases(hcow hL).2 with⟨j,k,hb,_⟩|⟨x,_,hb,_⟩<;>exact(h.on b _ hb).1
  ot:=fun t k e he=>by
   simp only[van,Prod.mk.injEq]at he
   obtain⟨x,hx,⟨rfl,rfl⟩,rfl⟩:=he
   rcases ho1 x hx with⟨hn1,hn2⟩|⟨ht1,ht2⟩
   ·exact⟨_,.slice none 0 0,hn1,by rw[hn2];rfl,⟨0,[],World.ownsRow_nil _ _ _ _,fun b hb=>by simp[Value.ownBlock]at hb⟩,fun b hb=>by simp[Value.ownBlock]at hb⟩
   obtain⟨u,v',h1,h2,h3,h4⟩:=h.ot _ _ _ ht1
   refine⟨u,v',ht2.trans h1,h2,h3,fun b hb=>?_⟩
   have hg:(Γ b).isSome:=by obtain⟨n,xs,_,o2⟩:=h3;rw[o2 b hb];rfl
   unfold dn
   rw[h4 b hb]
   simp only
   cases hf:oa.find? fun y=>y.t==x.t&&y.k==x.k with
   |none=>
    have:=vcu.1 hf x hx
    simp at this
   |some y=>
    have q1:=vba hf
    have q2:=vbF hf
    simp only[vah,vaP]at q2
    simp only[var hg,ho3 y q1 x hx q2.1 q2.2]
  ob:=fun i k e cs own b hB hk hb=>by
   obtain⟨j,hij,hjb⟩:=hbc hb
   obtain⟨B,Bc',hB',hBc',hx⟩:=hH.box i j hij
   rw[hB]at hBc';cases hBc'
   cases B with
   |cells cs' own'=>
    obtain⟨rfl,_,_⟩:=hx
    obtain⟨v,k1,k2,k3⟩:=h.ob j k e cs' own' b hB' hk hjb
    refine⟨v,k1,k2,fun b' hb'=>?_⟩
    have hg:(Γ b').isSome:=by obtain⟨n,xs,_,o2⟩:=k2;rw[o2 b' hb'];rfl
    simp only[dn,k3 b' hb']
    rw[var ⟨hg,vaw hij⟩,nh hn hij]
   |map es=>simp[g5]at hx
   |dead=>simp[g5]at hx
  gl:=fun g cs hg=>(h.gl g cs hg).restrict (n:=0) (by simp only[PVal.cl];exact h.gc g cs hg) (fun i b hi _=>absurd hi (vaK _))
  gc:=h.gc
  gx:=fun g cs hg=>by
   obtain⟨k1,k2,k3,k4⟩:=h.gnow hg
   refine⟨k1,fun hT=>?_,k4⟩
   rcases hT with⟨i,hi⟩|hT
   ·obtain⟨j,_,hjb⟩:=hbc hi
    exact k2 j g hjb rfl
   ·cases hL:dn ρ oa Γ ow g with
    |none=>exact hT hL
    |some L=>
     rcases(hcow hL).2 with⟨j,k,hk',_⟩|⟨x,_,hk',_⟩<;>(rw[k3]at hk';cases hk')
  step:=.refl _ _ _ _}
 refine(hC.2 Γ bsC _ w vs hpre).mono fun e w' he=>?_
 obtain⟨v,Γ',owC,rfl,hS⟩:=he
 have hle:Γ.Le w Γ' w':=hS.step.le
 have hTE:∀b,bJ bsC (dn ρ oa Γ ow) b->E.T b\/E.w.heap.size<=b:=by
  intro b hb
  rcases hb with⟨i,hi⟩|hb
  ·obtain⟨j,_,hjb⟩:=hbc hi
   exact h.bn j b hjb
  ·cases hL:dn ρ oa Γ ow b with
   |none=>exact absurd hL hb
   |some L=>
    rcases(hcow hL).2 with⟨j,k,hk,_⟩|⟨x,_,hk,_⟩<;>exact(h.on b _ hk).2
 have hkeep:∀b,b<w.heap.size->¬bJ bsC (dn ρ oa Γ ow) b->w'.heap[b]? =w.heap[b]?/\Γ' b=Γ b:=fun b hb hT=>hS.step.keep b hb hT
 have hnotT_own:∀{b L},ow b=some L->(Γ b).isSome->(∀j k,L=.box j k->j∉ρ)->(∀x∈oa,L≠.tmp x.t x.k)->¬bJ bsC (dn ρ oa Γ ow) b:=by
  intro b L hL hg hne hne2 hT
  rcases hT with⟨i,hi⟩|hT
  ·obtain⟨j,hij,hjb⟩:=hbc hi
   obtain⟨B,_,hB,_⟩:=hH.box i j hij
   rw[(h.bx j b B hjb hB).1]at hg;cases hg
  ·cases hL':dn ρ oa Γ ow b with
   |none=>exact hT hL'
   | some L' =>
    rcases(hcow hL').2 with⟨j,k,hk,hj,_⟩|⟨x,hx,hk,_⟩
    ·rw[hL]at hk;cases hk
     exact hne j k rfl hj
    ·rw[hL]at hk;cases hk
     exact hne2 x hx rfl
 have hnotT_box:∀{j b:Nat},bs[j]? =some (some b)->j∉ρ->¬bJ bsC (dn ρ oa Γ ow) b:=by
  intro j b hjb hj hT
  rcases hT with⟨i,hi⟩|hT
  ·obtain⟨j',hij,hjb'⟩:=hbc hi
   have:=h.inj _ _ _ hjb hjb'
   subst this
   exact hj (vaw hij)
  ·cases hL':dn ρ oa Γ ow b with
   |none=>exact hT hL'
   |some L'=>
    have hg:=(hcow hL').1
    have hjl:j<st.boxes.length:=by rw[<-h.bl];exact aj hjb
    rw[(h.bx j b _ hjb (vaa hjl)).1]at hg;cases hg
 have hold:∀{b L},ow b=some L->(Γ b).isSome->(∀j k,L=.box j k->j∉ρ)->(∀x∈oa,L≠.tmp x.t x.k)->ng ρ oa d owC ow b=some L:=by
  intro b L hL hg hne hne2
  have hT:=hnotT_own hL hg hne hne2
  have hnone:owC b=none:=by
   cases hx:owC b with
   |none=>rfl
   | some L' =>
    obtain⟨_,k2⟩:=hS.on b L' hx
    rcases k2 with k2|k2
    ·exact absurd k2 hT
    ·have:=(h.on b L hL).1
     exact absurd k2 (vb3.2 this)
  unfold ng
  rw[hnone]
  simp only[hL]
  cases L with
  |tmp t k=>
   simp only
   rw[vav]
   intro hx
   obtain⟨x,hx1,hx2⟩:=vcx.1 hx
   simp only[vah,vaP]at hx2
   exact hne2 x hx1 (by rw[hx2.1,hx2.2])
  |box j k=>simp only;rw[vav (hne j k rfl)]
 have howned:∀{v:Value} {e:TypeId} {b:Nat},fA P Γ w v e->v.ownBlock=some b->(Γ b).isSome:=by
  intro v e b ho hb
  obtain⟨n,xs,_,o2⟩:=ho
  rw[o2 b hb];rfl
 have hrv:VR Γ' bs w' r v:=hr.from hbb (hS.tm 0 rc v rfl rfl)
 refine⟨v,Γ',ng ρ oa d owC ow,rfl,?_,hle⟩
 exact{
  wi:=hS.wi
  sz:=by simp[h.sz]
  tm:=fun t q u hq hu=>by
   simp only[vbu]at hq
   rw[vbr]at hu
   by_cases hdt:d=t
   ·subst hdt
    simp only[if_true]at hq hu
    split at hu
    ·split at hq
     ·cases hu;cases hq;exact hrv
     ·cases hq
    ·rename_i hnd;exact absurd hd hnd
   ·simp only[hdt,if_false]at hq hu
    exact(h.tm t q u hq hu).mono hle (.refl _)
  bl:=by simp[h.bl,hlen]
  bx:=fun j b B hjb hB=>by
   by_cases hj:j∈ρ
   ·obtain⟨i,hij⟩:=va4.1 hj
    obtain⟨B',Bc,hB',hBc,hx⟩:=hH'.box i j hij
    rw[hB]at hB';cases hB'
    obtain⟨k1,k2,k3⟩:=hS.bx i b Bc ((hbb i j hij).trans hjb) hBc
    exact⟨k1,k2,hx.from hbb k3⟩
   ·have hB0:st.boxes[j]? =some B:=(hsame j hj).symm.trans hB
    obtain⟨k1,k2,k3⟩:=h.bx j b B hjb hB0
    obtain⟨q1,q2⟩:=hkeep b k2 (hnotT_box hjb hj)
    exact⟨q2.trans k1,vay k2 hS.step.size,k3.mono hle (.refl _) q1⟩
  inj:=h.inj
  bn:=h.bn
  on:=fun b L hL=>by
   unfold ng at hL
   split at hL
   ·rename_i i k hb
    obtain⟨k1,k2⟩:=hS.on b _ hb
    exact⟨k1,k2.elim (hTE b) (fun hx=>.inr (vaI h.step.size hx))⟩
   ·rename_i t k hb
    obtain⟨k1,k2⟩:=hS.on b _ hb
    exact⟨k1,k2.elim (hTE b) (fun hx=>.inr (vaI h.step.size hx))⟩
   ·have hsz:=hS.step.size
    cases hb:ow b with
    |none=>rw[hb]at hL;cases hL
    |some L'=>exact⟨vay (h.on b _ hb).1 hsz,(h.on b _ hb).2⟩
  ot:=fun t k e he=>by
   rcases vaR.1 he with he|he
   ·simp only[van,Prod.mk.injEq]at he
    obtain⟨⟨k',e'⟩,hm,⟨rfl,rfl⟩,rfl⟩:=he
    obtain⟨u,v',h1,h2,h3,h4⟩:=hS.ot 0 k' e' (van.2 ⟨(k',e'),hm,rfl⟩)
    simp at h1;subst h1
    refine⟨v,v',by simp[hd],h2,h3,fun b hb=>?_⟩
    simp only[ng,h4 b hb]
   ·obtain⟨he,htd⟩:=cV he
    obtain⟨he,hne0⟩:=bX he
    have hne2:∀x∈oa,iD.tmp t k≠.tmp x.t x.k:=fun x hx e=>by
     cases e
     simp only[vaW,vbw,vaP]at hne0
     exact hne0 x hx rfl
    obtain⟨u,v',h1,h2,h3,h4⟩:=h.ot t k e he
    have hq:∀b,v'.ownBlock=some b->¬bJ bsC (dn ρ oa Γ ow) b:=fun b hb=>hnotT_own (h4 b hb) (howned h3 hb) (fun j k hx=>by cases hx) hne2
    exact⟨u,v',by rw[vaF (fun e=>htd e.symm)];exact h1,h2,h3.same fun b hb=>hkeep b (h3.lt hb) (hq b hb),fun b hb=>hold (h4 b hb) (howned h3 hb) (fun j k hx=>by cases hx) hne2⟩
  ob:=fun j k e cs own b hB hk hjb=>by
   by_cases hj:j∈ρ
   ·obtain⟨i,hij⟩:=va4.1 hj
    obtain⟨B',Bc,hB',hBc,hx⟩:=hH'.box i j hij
    rw[hB]at hB';cases hB'
    cases Bc with
    |cells cs' own'=>
     obtain⟨rfl,_,_⟩:=hx
     obtain⟨v',k1,k2,k3⟩:=hS.ob i k e cs' own b hBc hk ((hbb i j hij).trans hjb)
     refine⟨v',k1,k2,fun b' hb'=>?_⟩
     have hgd:ρ.getD i 0=j:=by rw[vag,hij];rfl
     simp only[ng,k3 b' hb',hgd]
    |map es=>simp[g5]at hx
    |dead=>simp[g5]at hx
   ·have hB0:st.boxes[j]? =some (.cells cs own):=(hsame j hj).symm.trans hB
    obtain⟨v',k1,k2,k3⟩:=h.ob j k e cs own b hB0 hk hjb
    obtain⟨_,hlt,_⟩:=h.bx j b _ hjb hB0
    have hne:∀j' k',iD.box j k=.box j' k'->j'∉ρ:=fun j' k' hx=>by cases hx;exact hj
    have hne2:∀x∈oa,iD.box j k≠.tmp x.t x.k:=fun x _ e=>by cases e
    exact⟨v',(bH (hkeep b hlt (hnotT_box hjb hj)).1 k).trans k1,k2.same fun b' hb'=>hkeep b' (k2.lt hb') (hnotT_own (k3 b' hb') (howned k2 hb') hne hne2),fun b' hb'=>hold (k3 b' hb') (howned k2 hb') hne hne2⟩
  gl:=fun g cs hg=>(h.gl g cs hg).mono hle (.refl _)
  gc:=h.gc
  gx:=h.gx
  step:={
   os:=hS.step.os.trans h.step.os
   tape:=hS.step.tape.trans h.step.tape
   output:=hS.step.output.trans h.step.output
   size:=vaI h.step.size hS.step.size
   keep:=fun b hb hT=>by
    have hlt:b<w.heap.size:=vay hb h.step.size
    have hnT:¬bJ bsC (dn ρ oa Γ ow) b:=fun hx=>(hTE b hx).elim hT (fun hx=>absurd hx (vb3.2 hb))
    obtain⟨k1,k2⟩:=h.step.keep b hb hT
    obtain⟨q1,q2⟩:=hkeep b hlt hnT
    exact⟨q1.trans k1,q2.trans k2⟩
   le:=h.step.le.trans hle}}
end
abbrev lW:Value:=.slice none 0 0
def Ms(v:Value):PVal:=if ii v then .val lW else absC v
def Ky(P:Program)(t:TypeId):Option (List PVal):=((P.info? t).bind (·.zero)).map fun z=>z.cells.toList.map Ms
def Fm(P:Program)(t:TypeId)(parts:List (Nat×PVal)):Option (List PVal):=
 match P.underlying t,Ky P t with
 |some (.struct fs),some zs=>if fs.all (fun f=>(P.info? f.type).isSome)then CL (fun i=>(fs[i]?).map fun f=>(f.offset,P.cellsOf f.type)) zs parts else none
 |_,_=>none
def Hv(cs:List PVal):List (Nat×TypeId)->Prop
 |[]=>True
 |x::r=>cs[x.1]? =some (.val lW)/\Hv cs r
def rB(P:Program)(t:TypeId)(parts:List (Nat×PVal))(L:List (Nat×TypeId)):Prop:=∃cs,Fm P t parts=some cs/\Hv cs L
def ownLe(H0 H:List aw):Prop:=H0.length=H.length/\∀(i:Nat) B,H0[i]? =some B->∃B',H[i]? =some B'/\(B=B'\/∃cs own own',B'=.cells cs own/\B=.cells cs own'/\∀x∈own',x∈own)
structure FJ(P:Program)(GE:List (Nat×List PVal))(f:Operand)(args:List Operand)(st:aq)(r:PVal)(ro:List (Nat×TypeId))(H':List aw)(oa:List OA):Prop where
 ex:∃(g:FuncId) (first cap argsC:List PVal) (ρ:List Nat) (H0 Hc Hc':List aw) (rc:PVal),opv GE st.tmps f=.func (.func g) first cap/\ρ.Nodup/\C P GE g argsC (oa.map fun x=>((x.i,x.k),x.e)) Hc rc ro Hc'/\
  ownLe H0 st.boxes/\sU ρ H0 Hc/\sU ρ H' Hc'/\H'.length=st.boxes.length/\(∀j:Nat,j∉ρ->H'[j]? =H0[j]?)/\zg ρ r rc/\(first++args.map (opv GE st.tmps)++cap).length=argsC.length/\
  (∀(i:Nat) p q,(first++args.map (opv GE st.tmps)++cap)[i]? =some p->argsC[i]? =some q->zg ρ p q)/\
  (∀x∈oa,∃j,x.i=first.length+j/\((args[j]? =some (.const lW)/\x.k=0)\/(((x.t,x.k),x.e)∈st.own/\args[j]? =some (.tmp x.t))))/\(∀x∈oa,∀y∈oa,x.t=y.t->x.k=y.k->x.i=y.i)
def CR(P:Program)(GE:List (Nat×List PVal))(o:Oper)(K:aq->Prop)(st:aq):Prop:=
 match o.op,o.dst with
 | .build T parts,some d => ∃ (p:PVal) (L:List (Nat×TypeId)),dc P T (parts.toList.map fun x => (x.1,opv GE st.tmps x.2)) = some p∧rB P T (parts.toList.map fun x => (x.1,opv GE st.tmps x.2)) L ∧
   d<st.tmps.length/\K {st with tmps:=st.tmps.set d p,own:=(L.map fun x=>((d,x.1),x.2))++bI d st.own}
 | .store T x (.tmp t),none => ∃ (i off:Nat) (H:List aw) (cs:List PVal) (own L:List (Nat×TypeId)) (l:List PVal),opv GE st.tmps x = .bptr i off∧st.tmps.getD t .undef = .agg l∧cH P T (.bptr i off) (.agg l) st.boxes = some H∧H[i]? = some (.cells cs own) ∧
   (∀y∈L,((t,y.1),y.2)∈st.own)/\(L.map (·.1)).Nodup/\
   K ⟨st.tmps,H.set i (.cells cs ((L.map fun y=>(off+y.1,y.2)).reverse++own)),st.own.filter fun x=>!L.any fun y=>x.1==(t,y.1)⟩
 | .load T x,some d => ∃ (i off:Nat) (cs:List PVal) (own L:List (Nat×TypeId)) (l:List PVal),(∃ fs,P.underlying T = some (.struct fs))∧opv GE st.tmps x = .bptr i off∧st.boxes[i]? = some (.cells cs own)∧ch P T (cs.drop off) = some (.agg l) ∧
   (∀y∈L,(off+y.1,y.2)∈own)/\(L.map (·.1)).Nodup/\(∀y∈L,y.1<l.length)/\d<st.tmps.length/\
   K ⟨st.tmps.set d (.agg l),st.boxes.set i (.cells cs (own.filter fun x=>!L.any fun y=>x.1==off+y.1)),(L.map fun y=>((d,y.1),y.2)).reverse++bI d st.own⟩
 |.box _ x,some d=>∃vs:List PVal,bZ (opv GE st.tmps x)=some vs/\d<st.tmps.length/\K {st with tmps:=st.tmps.set d (.eptr vs),own:=bI d st.own}
 | .call { callee := .value f,args,.. },some d => ∃ (r:PVal) (ro:List (Nat×TypeId)) (H':List aw) (oa:List OA),FJ P GE f args.toList st r ro H' oa∧d < st.tmps.length ∧
   K ⟨st.tmps.set d r,H',(ro.map fun x=>((d,x.1),x.2))++bI d (st.own.filter fun z=>!oa.any fun x=>z.1==(x.t,x.k))⟩
 |_,_=>False
def tU(P:Program)(GE:List (Nat×List PVal))(A:List Nat)(o:Oper)(id:Nat)(K:aq->Prop)(st:aq):Prop:=AB P GE A o id K st\/CR P GE o K st\/HB P GE o K st
def cr(P:Program)(GE:List (Nat×List PVal))(A:List Nat)(ops:Array Oper)(K:aq->Prop):List Oper->Nat->aq->Prop
 |[],_,st=>K st
 | o :: rest,id,st =>
  match o.guard with
  |none=>tU P GE A o id (cr P GE A ops K rest (id+if au o.op then 1 else 0)) st
  |some (j,want)=>match nH ops st.tmps j with
   | some x => (x = some want→tU P GE A o id (cr P GE A ops K rest (id + if au o.op then 1 else 0)) st) ∧
     (x≠some want->cr P GE A ops K rest (id+if au o.op then 1 else 0) (pM st o.dst (.val undef) [] st.boxes))
   |none=>False
section
variable{P:Program}{E:ma}{Γ:aK}{bs:ba}{ow:Nat->Option iD}{w:World}
theorem K0{z:Value}(j:Nat)(p:PVal)(v:Value)(hp:(z.cells.toList.map Ms)[j]? =some p)(hv:z.cells[j]? =some v):VR Γ bs w p v:=by
 simp only[vat,vaJ,hv,vad,vao]at hp
 subst hp
 unfold Ms
 split
 ·rename_i hn
  unfold ii at hn
  split at hn
  ·exact .val _
  ·cases hn
 ·exact .absC v
theorem Gs{t:TypeId}{parts:List (Nat×PVal)}{vs:List (Nat×Value)}{cs:List PVal}(hl:parts.length=vs.length)
  (hv:∀(j:Nat) p v,parts[j]? =some p->vs[j]? =some v->p.1=v.1/\VR Γ bs w p.2 v.2) (h:Fm P t parts=some cs):
  ∃ov,(Instr.build t vs.toArray).run P w=.ok (.agg ov) w/\ov.size=cs.length/\∀(j:Nat) p v,cs[j]? =some p->ov[j]? =some v->VR Γ bs w p v:=by
 unfold Fm at h
 split at h
 ·rename_i fs zs ht hz
  unfold Ky at hz
  simp only[vaA,va6]at hz
  obtain⟨z,⟨i,hi,hz'⟩,rfl⟩:=hz
  have hr:(zeroValue t).run P w=.ok z w:=by simp[zeroValue,run_typeInfo w hi,hz']
  split at h
  ·rename_i hall
   have hplaces:∀(l:List Field),(∀f∈l,(P.info? f.type).isSome=true)->(l.mapM fun f=>do pure (f.offset,<-sizeOf f.type):Sem (List (Nat×Nat))).run P w=.ok (l.map fun f=>(f.offset,P.cellsOf f.type)) w:=by
    intro l hl
    induction l with
    |nil=>simp
    |cons f l ih=>
     obtain⟨inf,hinf⟩:=vaz.1 (hl f (by simp))
     have:=ih fun g hg=>hl g (by simp[hg])
     simp only[vbK,Sem.run_bind,run_sizeOf w hinf,Result.andThen_ok,this,Sem.run_pure,vaQ]
   have hp:(fs.mapM fun f=>do pure (f.offset,<-sizeOf f.type):Sem (Array (Nat×Nat))).run P w=.ok (fs.map fun f=>(f.offset,P.cellsOf f.type)) w:=by
    rw[vb1]
    simp only[Sem.run_map]
    rw[hplaces fs.toList fun f hf=>by
     have:=vbk.1 hall f (by simpa using hf)
     simpa using this]
    simp only[Result.andThen_ok]
    exact vbe (fun x=>Result.ok x w) (vbv (by simp))
   obtain⟨ov,r1,r2,r3⟩:=uI (place':=((fs.map fun f=>(f.offset,P.cellsOf f.type))[·]?)) (fun i x hx=>by simpa using hx) parts vs _ z.cells hl hv (by simp) (fun j p v hp hv=>K0 j p v hp hv) h
   refine⟨ov,?_,r2,r3⟩
   simp only[Instr.build,Sem.run_bind,hr,Result.andThen_ok,run_underlying ht,hp]
   rw[r1]
   simp
  ·cases h
 ·cases h
theorem CF{cs:List PVal}:∀{L:List (Nat×TypeId)},Hv cs L->∀x∈L,cs[x.1]? =some (.val lW)
 |[],_,x,hx=>by cases hx
 | y :: L,h,x,hx => by
  rcases vaD.1 hx with rfl|hx
  ·exact h.1
  ·exact CF h.2 x hx
section
variable{a:Array Value}{st:aq}
theorem SR.ownNils(h:SR P E Γ bs ow w a st){d:Nat}{u:Value}(hu:a[d]? =some u)(L:List (Nat×TypeId))(hL:∀x∈L,gB u x.1=some lW):SR P E Γ bs ow w a {st with own:=(L.map fun x=>((d,x.1),x.2))++st.own}:=
 { h with
  ot:=fun t k e he=>by
   rcases vaR.1 he with he|he
   ·simp only[van,Prod.mk.injEq]at he
    obtain⟨x,hx,⟨rfl,rfl⟩,rfl⟩:=he
    exact⟨u,lW,hu,hL x hx,⟨0,[],World.ownsRow_nil _ _ _ _,fun b hb=>by simp[Value.ownBlock]at hb⟩,fun b hb=>by simp[Value.ownBlock]at hb⟩
   ·exact h.ot t k e he}
theorem SR.takeOwn(h:SR P E Γ bs ow w a st){i b d k off:Nat}{e:TypeId}{u v:Value}{cs:List PVal}{own:List (Nat×TypeId)}(hi:bs[i]? =some (some b))(hB:st.boxes[i]? =some (.cells cs own))
  (hm:(off,e)∈own) (hu:a[d]? =some u) (hp:gB u k=some v) (hc:w.cell? ⟨b,off,none⟩=some v):
  ∃ow',SR P E Γ bs ow' w a {st with own:=((d,k),e)::st.own,boxes:=st.boxes.set i (.cells cs (own.filter fun x=>x.1 !=off))}:=by
 obtain⟨v',q1,q2,q3⟩:=h.ob i off e cs own b hB hm hi
 rw[hc]at q1
 cases q1
 exact⟨_,(h.freeB (j:=off) hB).addOwn (d:=d) (k:=k) (e:=e) (u:=u) (v:=v) hu hp q2 (fun b' hb'=>⟨by simp[q3 b' hb'],(h.on b' _ (q3 b' hb')).2⟩)⟩
theorem SR.takeOwns{i b d off:Nat}{u:Value}{cs:List PVal}(hi:bs[i]? =some (some b))(hu:a[d]? =some u):∀(L:List (Nat×TypeId)) {ow:Nat->Option iD} {st:aq} {own:List (Nat×TypeId)},SR P E Γ bs ow w a st->st.boxes[i]? =some (.cells cs own)->
  (∀x∈L,(off+x.1,x.2)∈own)->(L.map (·.1)).Nodup->(∀x∈L,∃v,gB u x.1=some v/\w.cell? ⟨b,off+x.1,none⟩=some v)->
  ∃ow',SR P E Γ bs ow' w a ⟨st.tmps,st.boxes.set i (.cells cs (own.filter fun x=>!L.any fun y=>x.1==off+y.1)),(L.map fun y=>((d,y.1),y.2)).reverse++st.own⟩
 | [],ow,st,own,h,hB,_,_,_ => by
  refine⟨ow,?_⟩
  have e2:(own.filter fun x=>!([]:List (Nat×TypeId)).any fun y=>x.1==off+y.1)=own:=by
   apply vcs.2
   intro x _
   rfl
  have e1:st.boxes.set i (.cells cs (own.filter fun x=>!([]:List (Nat×TypeId)).any fun y=>x.1==off+y.1))=st.boxes:=by
   rw[e2]
   apply va5
   intro j
   by_cases hj:i=j
   ·subst hj
    rw[vaf (aj hB),hB]
   ·rw[vaj hj]
  rw[e1]
  exact h
 | x :: L,ow,st,own,h,hB,hm,hn,hc => by
  rw[vaQ,vbU]at hn
  obtain⟨v,hv1,hv2⟩:=hc x (by simp)
  obtain⟨ow1,h1⟩:=h.takeOwn hi hB (hm x (by simp)) hu hv1 hv2
  obtain⟨ow2,h2⟩:=SR.takeOwns (off:=off) hi hu L h1 (vaf (aj hB)) (fun y hy=>by
   refine vaT.2 ⟨hm y (by simp[hy]),?_⟩
   simp only[bne_iff_ne,ne_eq]
   exact fun e=>hn.1 (van.2 ⟨y,hy,by omega⟩)) hn.2 (fun y hy=>hc y (by simp[hy]))
  refine⟨ow2,?_⟩
  simp only[vbN,vct]at h2
  have e1:((x::L).map fun y=>((d,y.1),y.2)).reverse++st.own=(L.map fun y=>((d,y.1),y.2)).reverse++((d,x.1),x.2)::st.own:=by simp
  have e2:(own.filter fun z=>!(x::L).any fun y=>z.1==off+y.1)=own.filter fun z=>(!L.any fun y=>z.1==off+y.1)&&(z.1 !=off+x.1):=by
   congr 1
   funext z
   rw[List.any_cons]
   cases(L.any fun y=>z.1==off+y.1)<;>cases hz:(z.1==off+x.1)<;>simp[bne,hz]
  rw[e1,e2]
  exact h2
theorem Cv(h:SR P E Γ bs ow w a st){T:TypeId}{i off b:Nat}{cs:List PVal}{own:List (Nat×TypeId)}{l:List PVal}(hi:bs[i]? =some (some b))(hB:st.boxes[i]? =some (.cells cs own))(hp:ch P T (cs.drop off)=some (.agg l)):∃v,(loadVar T ⟨b,off,none⟩).run P w=.ok v w/\VR Γ bs w (.agg l) v/\((∃d,P.underlying T=some d/\(match d with|.struct _|.array _ _=>True|_=>False))->∀k,k<l.length->gB v k=w.cell? ⟨b,off+k,none⟩):=by
 obtain⟨c,t',h1,h2,h3,h4⟩:=h.box_cells hi hB
 have hval:∀(k:Nat) q,(cs.drop off)[k]? =some q->w.cell? ⟨b,off+k,none⟩=some (c.getD (off+k) undef)/\VR Γ bs w q (c.getD (off+k) undef):=by
  intro k q hq
  rw[vaX]at hq
  have hlt:off+k<c.size:=vay (aj hq) h2
  have hc:c[off+k]? =some (c.getD (off+k) undef):=by simp[vas,hlt]
  exact⟨(h4 _).trans hc,h3 _ _ _ hq hc⟩
 obtain⟨v,hr,hv⟩:=ir hp (vals:=fun k=>c.getD (off+k) undef) (fun k q hq=>(hval k q hq).1) (fun k q hq=>(hval k q hq).2)
 refine⟨v,hr,hv,fun hagg k hk=>?_⟩
 obtain⟨dd,hd,hm⟩:=hagg
 have hlen:P.cellsOf T<=(cs.drop off).length/\l.length=P.cellsOf T:=by
  unfold ch at hp
  rw[hd]at hp
  have key:(if P.cellsOf T<=(cs.drop off).length then some (PVal.agg ((cs.drop off).take (P.cellsOf T)))else none)=some (.agg l):=by
   cases dd<;>simp only at hm<;>exact hp
  split at key
  ·rename_i hh;cases key;exact⟨hh,by rw[vbf];omega⟩
  ·cases key
 have hp2:ch P T ((List.range (cs.drop off).length).map fun k=>PVal.val (c.getD (off+k) undef))=some (.agg (((List.range (cs.drop off).length).map fun k=>PVal.val (c.getD (off+k) undef)).take (P.cellsOf T))):=by
  unfold ch
  rw[hd]
  cases dd<;>simp at hm<;>simp only<;>rw[var (by simpa using hlen.1)]
 obtain⟨v2,hr2,hv2⟩:=ir (Γ:=Γ) (bs:=bs) hp2 (vals:=fun k=>c.getD (off+k) undef) (fun k q hq=>by
   have hlt:k<(cs.drop off).length:=by have:=aj hq;simpa using this
   exact(hval k _ (vaa hlt)).1) (fun k q hq=>by
   have hlt:k<(cs.drop off).length:=by have:=aj hq;simpa using this
   simp only[vat,vbg hlt,vad,vao]at hq
   subst hq
   exact .val _)
 rw[hr]at hr2
 cases hr2
 have hk2:k<(cs.drop off).length:=by omega
 cases hv2 with
 | agg _ vs hl hvv =>
  have hd1:(cs.drop off).length=cs.length - off:=vbz
  have hkv:k<vs.size:=by rw[hl];simp;omega
  have hq:(((List.range (cs.drop off).length).map fun k=>PVal.val (c.getD (off+k) undef)).take (P.cellsOf T))[k]? =some (.val (c.getD (off+k) undef)):=by
   rw[vak (by omega)]
   simp only[vat,vbg hk2,vad]
  have:=hvv k _ vs[k] hq (by simp[hkv])
  show vs[k]? =_
  rw[(hval k _ (vaa hk2)).1]
  rw[vaV hkv]
  generalize vs[k]=q at this
  generalize c.getD (off+k) undef=q2 at this
  cases this
  rfl
end
variable{a:Act}{st:aq}
theorem tz(h:SR P E Γ bs ow w a.tmps st){o:Oper}{id d:Nat}{T:TypeId}{parts:Array (Nat×Operand)}{p:PVal}{L:List (Nat×TypeId)}{K:aq->Prop}(ho:o.op=.build T parts)(hdst:o.dst=some d)(hd:d<st.tmps.length)
  (hp:dc P T (parts.toList.map fun x=>(x.1,opv E.GE st.tmps x.2))=some p) (hL:rB P T (parts.toList.map fun x=>(x.1,opv E.GE st.tmps x.2)) L)
  (hK:K {st with tmps:=st.tmps.set d p,own:=(L.map fun x=>((d,x.1),x.2))++bI d st.own}) (Q:Exit->Act->World->Prop):
  o.wp P a w (ew P E bs id (au o.op) a.defers K) Q:=by
 have hρ:∀x,VR Γ bs w (opv E.GE st.tmps x) (a.eval x):=fun x=>h.opv a.defers x
 obtain⟨k1,k2⟩:=ql hρ parts.toList
 obtain⟨v,r1,r2⟩:=rx k1 k2 hp
 obtain⟨cs,hcs,hn⟩:=hL
 obtain⟨ov,s1,s2,s3⟩:=Gs k1 k2 hcs
 rw[r1]at s1
 cases s1
 have hrun:(execOp a.eval o).run P w=.ok (.value (.agg ov)) w:=by
  have:(parts.map fun x=>(x.1,a.eval x.2))=(parts.toList.map fun x=>(x.1,a.eval x.2)).toArray:=by apply vbv;simp
  simp only[execOp,ho]
  rw[this]
  simp[r1]
 unfold Oper.wp
 rw[hrun,Oper.upon_value]
 have hds:d<a.tmps.size:=by rw[h.sz];exact hd
 have g1:=h.set (d:=d) r2
 have g2:=g1.ownNils (d:=d) (u:=.agg ov) (by simp[hds]) L fun x hx=>by
  have hq:=CF hn x hx
  have hlt:x.1<ov.size:=by rw[s2];exact aj hq
  have hv:=s3 x.1 _ ov[x.1] hq (by simp[hlt])
  show ov[x.1]? =_
  rw[vaV hlt]
  generalize ov[x.1]=q at hv
  cases hv
  rfl
 have hput:∀v,(a.put o.dst v).tmps=a.tmps.setIfInBounds d v:=fun v=>by rw[hdst];rfl
 rw[<-hput]at g2
 exact⟨ck _ _ _,Γ,bs,_,_,g2,hK,.inl rfl⟩
theorem SR.ownLe(h:SR P E Γ bs ow w a.tmps st){H0:List aw}(hs:ownLe H0 st.boxes):SR P E Γ bs ow w a.tmps {st with boxes:=H0}:=
 { h with
  bl:=h.bl.trans hs.1.symm
  bx:=fun i b B hb hB=>by
   obtain⟨B',hB',hx⟩:=hs.2 i B hB
   obtain⟨k1,k2,k3⟩:=h.bx i b B' hb hB'
   rcases hx with rfl|⟨cs,own,own',rfl,rfl,_⟩
   ·exact⟨k1,k2,k3⟩
   ·exact⟨k1,k2,k3⟩
  ob:=fun i j e cs own b hB hj hb=>by
   obtain⟨B',hB',hx⟩:=hs.2 i _ hB
   rcases hx with rfl|⟨cs1,eR,own2,rfl,e2,hsub⟩
   ·exact h.ob i j e cs own b hB' hj hb
   ·cases e2;exact h.ob i j e _ eR b hB' (hsub _ hj) hb}
theorem Aq(h:SR P E Γ bs ow w a.tmps st){o:Oper}{id d:Nat}{f:Operand}{args:Array Operand}{tys:Array TypeId}{r:PVal}{ro:List (Nat×TypeId)}{H':List aw}{oa:List OA}{K:aq->Prop}(ho:o.op=.call {callee:=.value f,args,argTypes:=tys})(hdst:o.dst=some d)(hd:d<st.tmps.length)
  (hg:FJ P E.GE f args.toList st r ro H' oa) (hK:K ⟨st.tmps.set d r,H',(ro.map fun x=>((d,x.1),x.2))++bI d (st.own.filter fun z=>!oa.any fun x=>z.1==(x.t,x.k))⟩) (Q:Exit->Act->World->Prop):
  o.wp P a w (ew P E bs id (au o.op) a.defers K) Q:=by
 obtain⟨g,first,cap,argsC,ρ,H0,Hc,Hc',rc,hfv,hnd,hC,hle,hH,hH',hlen,hsame,hr,hal,ha,ho1,ho3⟩:=hg.ex
 have hρ:∀x,VR Γ bs w (opv E.GE st.tmps x) (a.eval x):=fun x=>h.opv a.defers x
 have hf:=hρ f
 rw[hfv]at hf
 generalize hvf:a.eval f=vf at hf
 cases hf with
 |func _ _ _ fs cs hl hl' h1 h2=>
 have hargs:(fs++args.map a.eval++cs).size=(first++args.toList.map (opv E.GE st.tmps)++cap).length:=by simp[hl,hl']
 have hvr:∀(i:Nat) p v,(first++args.toList.map (opv E.GE st.tmps)++cap)[i]? =some p->(fs++args.map a.eval++cs)[i]? =some v->VR Γ bs w p v:=by
  refine uu (by simp[hl]) (uu hl h1 fun i p v hp hv=>?_) h2
  exact uA hρ args.toList i p v hp (by simpa using hv)
 have hrun:(execOp a.eval o).run P w=.ok (.enter g (fs++args.map a.eval++cs)) w:=by
  simp[execOp,ho,resolve,hvf,Deferred.ofValue,invoke,hC.1]
 have hds:d<a.tmps.size:=by rw[h.sz];exact hd
 have hw:=h.ownLe hle
 unfold Oper.wp
 rw[hrun,Oper.upon_enter]
 refine(JM hw hds hnd hC (fun x hx=>?_) ho3 hH hH' (hlen.trans hle.1.symm) hsame hr hal ha hargs hvr).mono fun e w' he=>?_
 ·obtain⟨j,hj,hj2⟩:=ho1 x hx
  have hat:∀{y:Operand},args.toList[j]? =some y->(fs++args.map a.eval++cs)[x.i]? =some (a.eval y):=by
   intro y hy
   have hjl:j<args.size:=by have:=aj hy;simpa using this
   have hja:args[j]? =some y:=by simpa using hy
   rw[hj,<-hl,vaE (by simp;omega),vbV (by omega),vb6]
   simp only[Array.getElem?_map,hja,vad]
  rcases hj2 with⟨hj2,hk⟩|⟨ht,hj2⟩
  ·exact .inl ⟨hat hj2,hk⟩
  ·obtain⟨u,v,e1,_⟩:=h.ot _ _ _ ht
   exact .inr ⟨ht,by rw[hat hj2,jd e1];exact e1.symm⟩
 ·obtain⟨v,Γ',ow',rfl,hS,_⟩:=he
  have hput:(a.put o.dst v).tmps=a.tmps.setIfInBounds d v:=by rw[hdst];rfl
  show ew P E bs id (au o.op) a.defers K (a.put o.dst v) w'
  refine⟨ck _ _ _,Γ',bs,ow',_,?_,hK,.inl rfl⟩
  rw[hput];exact hS
theorem wW(h:SR P E Γ bs ow w a.tmps st){o:Oper}{id:Nat}{K:aq->Prop}(hp:CR P E.GE o K st)(Q:Exit->Act->World->Prop):o.wp P a w (ew P E bs id (au o.op) a.defers K) Q:=by
 unfold CR at hp
 split at hp
 ·rename_i T parts d ho hd
  obtain⟨p,L,h1,h2,h3,h4⟩:=hp
  exact tz h ho hd h3 h1 h2 h4 Q
 ·rename_i T x t ho hd
  obtain⟨i,off,H,cs,own,L,l,hx,ht,hst,hB,hm,hn,hK⟩:=hp
  have htl:t<st.tmps.length:=by
   by_cases hlt:t<st.tmps.length
   ·exact hlt
   ·rw[vag,vax (vbP hlt)]at ht;cases ht
  have hta:t<a.tmps.size:=by rw[h.sz];exact htl
  have hu:a.tmps[t]? =some a.tmps[t]:=by simp[hta]
  generalize a.tmps[t]=u at hu
  have hvt:=BP h hu
  rw[ht]at hvt
  have hvx:VR Γ bs w (opv E.GE st.tmps x) (a.eval x):=h.opv a.defers x
  rw[hx]at hvx
  obtain⟨w',r1,r2,_,r4⟩:=tW h hvx hvt hst
  have hrun:(execOp a.eval o).run P w=.ok .skip w':=by simp[execOp,ho,jd hu,r1]
  unfold Oper.wp
  rw[hrun,Oper.upon_skip]
  generalize a.eval x=vx at hvx r1
  cases hvx with
  |bptr _ _ b hb=>
  obtain⟨c1,_⟩:=r4 i off b rfl hb
  obtain⟨ow',g⟩:=SR.moveOwns (off:=off) hb hu L r2 hB hm hn fun y hy=>by
   obtain⟨u',v,e1,e2,_,_⟩:=h.ot t y.1 y.2 (hm y hy)
   rw[hu]at e1
   cases e1
   refine⟨v,e2,?_⟩
   cases hvt with
   |agg _ vs _ _=>exact c1 y.1 v e2
  have hput:a.put o.dst undef=a:=by rw[hd];rfl
  rw[hput]
  exact⟨rfl,Γ,bs,ow',_,g,hK,.inl rfl⟩
 ·rename_i T x d ho hd
  obtain⟨i,off,cs,own,L,l,⟨fs,hfs⟩,hx,hB,hp,hm,hn,hll,hdl,hK⟩:=hp
  have hvx:VR Γ bs w (opv E.GE st.tmps x) (a.eval x):=h.opv a.defers x
  rw[hx]at hvx
  generalize hve:a.eval x=vx at hvx
  cases hvx with
  |bptr _ _ b hb=>
  obtain⟨v,r1,r2,r3⟩:=Cv h hb hB hp
  have hrun:(execOp a.eval o).run P w=.ok (.value v) w:=by simp[execOp,ho,hve,Instr.loadAt,Instr.sureAddr,r1]
  unfold Oper.wp
  rw[hrun,Oper.upon_value]
  have hds:d<a.tmps.size:=by rw[h.sz];exact hdl
  have g1:=h.set (d:=d) r2
  obtain⟨ow',g2⟩:=SR.takeOwns (off:=off) (d:=d) (u:=v) hb (by simp[hds]) L g1 hB hm hn fun y hy=>by
   have:=r3 ⟨_,hfs,trivial⟩ y.1 (hll y hy)
   obtain⟨v',q1,_⟩:=h.ob i (off+y.1) y.2 cs own b hB (hm y hy) hb
   exact⟨v',this.trans q1,q1⟩
  have hput:∀v,(a.put o.dst v).tmps=a.tmps.setIfInBounds d v:=fun v=>by rw[hd];rfl
  rw[<-hput]at g2
  exact⟨ck _ _ _,Γ,bs,ow',_,g2,hK,.inl rfl⟩
 ·rename_i T x d ho hd
  obtain⟨vs,hvs,hdl,hK⟩:=hp
  have hvx:VR Γ bs w (opv E.GE st.tmps x) (a.eval x):=h.opv a.defers x
  generalize hve:a.eval x=vx at hvx
  obtain⟨k1,k2⟩:=hvx.cells hvs
  obtain⟨g1,hle⟩:=h.alloc_imm vx.cells T vx.cells.size (vaq _)
  have hrun:(execOp a.eval o).run P w=.ok (.value (.pointer (some ⟨w.heap.size,0,none⟩))) (w.alloc (.cells vx.cells T)):=by simp[execOp,ho,hve,Instr.box,newVar,newRow]
  unfold Oper.wp
  rw[hrun,Oper.upon_value]
  have hcell:∀j,(w.alloc (.cells vx.cells T)).cell? ⟨w.heap.size,j,none⟩=vx.cells[j]?:=fun j=>cell_of_row _ _ _ _ _ _ (fw w _)
  have hget:∀{k:Nat} {p:PVal},vs[k]? =some p->vx.cells[k]? =some (vx.cells.getD k undef):=fun{k p} hp=>by
   have hlt:k<vx.cells.size:=by rw[k1];exact aj hp
   simp[vas,hlt]
  have hvr:VR (Γ.put w.heap.size vx.cells.size) bs (w.alloc (.cells vx.cells T)) (.eptr vs) (.pointer (some ⟨w.heap.size,0,none⟩)):=
   .eptr vs w.heap.size 0 vx.cells.size (fun k=>vx.cells.getD k undef) (Γ.put_same _ _) (by omega)
    (fun k p hp=>by rw[hcell,vaB];exact hget hp) (fun k p hp=>(k2 k p _ hp (hget hp)).mono hle (.refl _))
  have g2:=g1.set (d:=d) hvr
  have hput:∀v,(a.put o.dst v).tmps=a.tmps.setIfInBounds d v:=fun v=>by rw[hd];rfl
  rw[<-hput]at g2
  exact⟨ck _ _ _,_,bs,_,_,g2,hK,.inl rfl⟩
 ·rename_i f args tys d ho hd
  obtain⟨r,ro,H',oa,h1,h2,h3⟩:=hp
  exact Aq h ho hd h2 h1 h3 Q
 ·exact hp.elim
theorem yL(h:SR P E Γ bs ow w a.tmps st){A:List Nat}{o:Oper}{id:Nat}(hid:au o.op=true->bs[id]? =some none){K:aq->Prop}(hp:tU P E.GE A o id K st)(Q:Exit->Act->World->Prop):o.wp P a w (EK P E bs id (au o.op) a.defers K) Q:=by
 rcases hp with hp|hp|hp
 ·exact Oper.wp_mono (fun _ _ hA=>hA.to3) (GB h hid hp Q)
 ·exact Oper.wp_mono (fun _ _ hA=>hA.to3) (wW h hp Q)
 ·exact HC h hp Q
theorem rG{bs0:ba}{ds:List Deferred}{A:List Nat}{ops:Array Oper}{K:aq->Prop}{Q:Exit->Act->World->Prop}
  (hQ:∀a w st,a.defers=ds->FE P E bs0 st a w->K st->Q .normal a w):
  ∀(rest:List Oper) (k id:Nat) (Γ:aK) (bs:ba) (ow:Nat->Option iD) (a:Act) (w:World) (st:aq),(∀j,rest[j]? =ops[k+j]?)->SR P E Γ bs ow w a.tmps st->a.defers=ds->JA bs0 bs->bs0.length<=id->
   (∀m,id<=m->m<id+bG rest->bs[m]? =some none)->cr P E.GE A ops K rest id st->wpOps P ops Q ((List.range ops.size).drop k) a w
 | [],k,id,Γ,bs,ow,a,w,st,hr,h,hd,hk,_,_,hp => by
  have hsz:ops.size<=k:=by
   have:=hr 0
   simp only[List.getElem?_nil,Nat.add_zero]at this
   exact vbX.1 this.symm
  rw[vcc (by simpa using hsz)]
  exact hQ a w st hd ⟨Γ,bs,ow,h,hk⟩ hp
 | o :: rest,k,id,Γ,bs,ow,a,w,st,hr,h,hd,hk,hid,hfree,hp => by
  have hok:ops[k]? =some o:=by have:=hr 0;simpa using this.symm
  have hlt:k<ops.size:=(vam.1 hok).1
  have hcons:(List.range ops.size).drop k=k::(List.range ops.size).drop (k+1):=by
   rw[vbb (by simpa using hlt)];simp
  rw[hcons,wpOps_cons]
  unfold wpOp
  rw[hok]
  simp only
  have hcnt:bG (o::rest)=(if au o.op then 1 else 0)+bG rest:=by
   unfold bG
   simp only[vbp]
   split<;>simp<;>omega
  have hrest:∀j,rest[j]? =ops[k+1+j]?:=fun j=>by
   have:=hr (j+1)
   simpa[vbR,vch 1 j]using this
  have hmk:au o.op=true->bs[id]? =some none:=fun hm=>hfree id (vaq _) (by rw[hcnt,hm];simp;omega)
  have step:tU P E.GE A o id (cr P E.GE A ops K rest (id+if au o.op then 1 else 0)) st->o.wp P a w (wpOps P ops Q ((List.range ops.size).drop (k+1))) Q:=by
   intro hs
   refine Oper.wp_mono (fun a' w' hA=>?_) (yL h hmk hs Q)
   obtain⟨hd',Γ',bs',ow',st',h1,h2,h3⟩:=hA
   refine rG hQ rest (k+1) _ Γ' bs' ow' a' w' st' hrest h1 (hd'.trans hd) ?_ (by omega) ?_ h2
   ·rcases h3 with rfl|⟨hm,b,rfl⟩|⟨x,rfl⟩
    ·exact hk
    ·intro i hi
     rw[vaj (by omega)]
     exact hk i hi
    ·intro i hi
     have hki:=hk i hi
     have hlt:i<bs.length:=by
      have h1:bs0[i]? =some bs0[i]:=vaa hi
      rw[h1]at hki
      exact aj hki
     rw[vac hlt]
     exact hki
   ·intro m hm1 hm2
    have hb:=hfree m (by omega) (by rw[hcnt];omega)
    rcases h3 with rfl|⟨hm,b,rfl⟩|⟨x,rfl⟩
    ·exact hb
    ·rw[hm]at hm1
     simp only[if_true]at hm1
     rw[vaj (by omega)]
     exact hb
    ·rw[vac (aj hb)]
     exact hb
  have skip:cr P E.GE A ops K rest (id+if au o.op then 1 else 0) (pM st o.dst (.val undef) [] st.boxes)->wpOps P ops Q ((List.range ops.size).drop (k+1)) (a.put o.dst undef) w:=by
   intro hs
   refine rG hQ rest (k+1) _ Γ bs ow (a.put o.dst undef) w _ hrest (h.putv_nil (.val undef) o.dst rfl) ((ck _ _ _).trans hd) hk (by omega) (fun m hm1 hm2=>hfree m (by omega) (by rw[hcnt];omega)) hs
  simp only[cr]at hp
  have hgo:(Region.wanted o (yielded ops a.tmps)=true->o.wp P a w (wpOps P ops Q ((List.range ops.size).drop (k+1))) Q)/\(¬Region.wanted o (yielded ops a.tmps)=true->wpOps P ops Q ((List.range ops.size).drop (k+1)) (a.put o.dst undef) w):=by
   split at hp
   ·rename_i hg
    exact⟨fun _=>step hp,fun hn=>absurd (by simp[Region.wanted,hg]) hn⟩
   ·rename_i j want hg
    split at hp
    ·rename_i x hx
     have hw:Region.wanted o (yielded ops a.tmps)=(x==some want):=by simp[Region.wanted,hg,Az h hx]
     rw[hw]
     exact⟨fun hx=>step (hp.1 (by simpa using hx)),fun hx=>skip (hp.2 (by simpa using hx))⟩
    ·exact hp.elim
  by_cases hw:Region.wanted o (yielded ops a.tmps)=true
  ·rw[var hw];exact .inl (hgo.1 hw)
  ·rw[vav hw];exact hgo.2 hw
theorem DX{bs0:ba}{A:List Nat}{ops:Array Oper}{K:aq->Prop}{Q:Exit->Act->World->Prop}(hR:FE P E bs0 st a w)(hl:bs0.length<=st.boxes.length)
  (hQ:∀a' w' st',a'.defers=a.defers->FE P E bs0 st' a' w'->K st'->Q .normal a' w') (hp:cr P E.GE A ops K ops.toList st.boxes.length {st with boxes:=st.boxes++ek P ops.toList}):
  wpOps P ops Q (List.range ops.size) a w:=by
 obtain⟨Γ,bs,ow,h,hk⟩:=hR
 have hext:=h.extend (ek P ops.toList)
 have hlen:=Bf P ops.toList
 have:=rG (P:=P) (E:=E) (bs0:=bs0) (ds:=a.defers) hQ ops.toList 0 st.boxes.length Γ _ ow a w _ (fun j=>by simp) hext rfl (fun i hi=>?_) hl (fun m hm1 hm2=>?_) hp
 ·simpa using this
 ·rw[vac (by rw[h.bl];omega)];exact hk i hi
 ·rw[vae (by rw[h.bl];omega),vaH,var (by rw[h.bl];omega)]
end
def Eg(ro:Option Nat)(P:Program)(c:Code)(Q:Exit->Act->World->Prop)(a:Act)(w:World):Prop:=match ro with
 |none=>c.wp P Q a w
 |some l=>∀n,c.wpIn (Fence.wide.inRound l) n P Q a w
def dZ(o:Oper):Bool:=match o.op with
 |.defer _=>false
 |_=>true
section
variable{P:Program}{ro:Option Nat}{Q:Exit->Act->World->Prop}{a:Act}{w:World}
theorem lS{c:Code}{Q':Exit->Act->World->Prop}(h:Eg ro P c Q a w)(hq:∀e a w,Q e a w->Q' e a w):Eg ro P c Q' a w:=by
 cases ro with
 |none=>exact wp_mono h hq
 |some l=>exact fun n=>wpIn_mono (h n) hq
theorem JR(h:Q .normal a w):Eg ro P .skip Q a w:=by
 cases ro with
 |none=>exact wp_skip h
 |some l=>exact fun n=>wpIn_skip h
theorem IK{l:Nat}(h:Q .normal a w):Eg ro P (.label l) Q a w:=by
 cases ro with
 |none=>exact wp_label h
 |some l=>exact fun n=>wpIn_label h
theorem JQ{id:Nat}(h:Q (.exit id) a w):Eg ro P (.exit id) Q a w:=by
 cases ro with
 |none=>exact wp_exit h
 |some l=>exact fun n=>wpIn_exit h
theorem Lh(h:Q .ret a w):Eg ro P .ret Q a w:=by
 cases ro with
 |none=>exact wp_ret h
 |some l=>exact fun n=>wpIn_ret h
theorem Li{x y:Code}(h:Eg ro P x (Exit.then (Eg ro P y Q) Q) a w):Eg ro P (.seq x y) Q a w:=by
 cases ro with
 |none=>exact wp_seq h
 |some l=>exact fun n=>wpIn_seq (wpIn_mono (h n) fun e a w hq=>by cases e<;>first|exact hq n|exact hq)
theorem JP{c:Operand}{x y:Code}{t:Bool}(hc:a.eval c=.bool t)(h1:t=true->Eg ro P x Q a w)(h2:t=false->Eg ro P y Q a w):Eg ro P (.cond c x y) Q a w:=by
 cases t with
 |true=>cases ro with
  |none=>exact wp_cond hc (h1 rfl)
  |some l=>exact fun n=>wpIn_cond hc (h1 rfl n)
 |false=>cases ro with
  |none=>exact wp_cond hc (h2 rfl)
  |some l=>exact fun n=>wpIn_cond hc (h2 rfl n)
theorem IJ{id:Nat}{c:Code}(h:Eg ro P c (Exit.inBlock id Q) a w):Eg ro P (.block id c) Q a w:=by
 cases ro with
 |none=>exact wp_block h
 |some l=>exact fun n=>wpIn_block (h n)
theorem Ca{c:Code}(I:Nat->Act->World->Prop)(n₀:Nat)(h₀:I n₀ a w)(round:∀n a w,I n a w->Eg ro P c (Exit.then (fun a' w'=>∃n',n'<n/\I n' a' w') Q) a w):Eg ro P (.loop c) Q a w:=by
 cases ro with
 |none=>exact wp_loop_ghost I n₀ h₀ round
 |some l=>exact fun n=>wpIn_loop_ghost I n₀ h₀ fun k a w hI=>round k a w hI n
theorem LB{l n:Nat}{row:String}{args:Array Value}{R:Value->World->Prop}(h:Rows P row args w R):RowsIn (Fence.wide.inRound l) n P row args w R:=fun c cs _=>by
 obtain⟨v,w',r,s⟩:=h c cs
 exact⟨v,w',r,by rw[fenced_inRound];exact stepsIn_wide.2 s⟩
theorem JN{l n:Nat}{f:FuncId}{args:Array Value}{R:Ending->World->Prop}(h:Calls P f args w R):CallsIn (Fence.wide.inRound l) n P f args w R:=CallsIn.inRound l (callsIn_wide.2 h)
theorem Ih{l n:Nat}{o:Oper}{jh:Act->World->Prop}(hd:dZ o=true)(h:o.wp P a w jh Q):o.wpIn (Fence.wide.inRound l) n P a w jh Q:=by
 refine⟨fun _ _=>trivial,?_⟩
 have hs:o.semAt (Fence.wide.inRound l).round a.eval=execOp a.eval o:=Oper.semAt_eq _ _ _ fun c hc=>by unfold dZ at hd;rw[hc]at hd;cases hd
 rw[hs]
 unfold Oper.wp at h
 generalize (execOp a.eval o).run P w=r at *
 have hdep:(Fence.wide.inRound l).depth.isSome=true->1<=n:=fun h=>by simp[Fence.wide]at h
 cases r with
 | ok x w' =>
  cases x<;>simp only[Oper.upon]at h<;>simp only[Oper.uponIn]<;>first
   |exact h.elim
   |exact h
   |exact⟨hdep,JN h⟩
   |exact⟨hdep,LB h⟩
 |halt x w'=>cases x<;>simp only[Oper.upon]at h<;>simp only[Oper.uponIn]<;>exact h
theorem yf{l n:Nat}{ops:Array Oper}(hd:ops.toList.all dZ=true)(hQ:¬LetsOut Q):∀(L:List Nat) (a:Act) (w:World),wpOps P ops Q L a w->wpOpsIn (Fence.wide.inRound l) n P ops Q L a w
 |[],a,w,h=>h
 | i :: rest,a,w,h => by
  unfold wpOps at h
  unfold wpOpsIn
  split at h
  ·rename_i ho;simp only[ho];exact yf hd hQ rest a w h
  ·rename_i o ho
   simp only[ho]
   have hn:dZ o=true:=vau.1 hd o (by
    have:=vcj ho
    simpa using this)
   split at h
   ·rename_i hw
    rw[var hw]
    rcases h with h|h
    ·exact Oper.wpIn_mono (fun a w h=>yf hd hQ rest a w h) (Ih hn h)
    ·exact absurd h.2 hQ
   ·rename_i hw
    rw[vav hw]
    exact⟨fun _ _=>trivial,yf hd hQ rest _ w h⟩
theorem Lt{l n:Nat}{ops:Array Oper}(hd:ops.toList.all dZ=true)(hQ:¬LetsOut Q){i:Nat}{K:Act->World->Prop}(h:wpOp P ops Q i K a w):wpOpIn (Fence.wide.inRound l) n P ops Q i K a w:=by
 unfold wpOp at h
 unfold wpOpIn
 split at h
 ·rename_i ho;simp only[ho];exact h
 ·rename_i o ho
  simp only[ho]
  have hn:dZ o=true:=vau.1 hd o (by
   have:=vcj ho
   simpa using this)
  split at h
  ·rename_i hw
   rw[var hw]
   rcases h with h|h
   ·exact Ih hn h
   ·exact absurd h.2 hQ
  ·rename_i hw
   rw[vav hw]
   exact⟨fun _ _=>trivial,h⟩
theorem FW{l n:Nat}{md:Region.Mode}{ops:Array Oper}(hd:ops.toList.all dZ=true)(hQ:¬LetsOut Q):∀(fuel:Nat) (listed:Array Bool) (a:Act) (w:World),wpAny P md ops Q fuel listed a w->wpAnyIn (Fence.wide.inRound l) n P md ops Q fuel listed a w
 |0,_,_,_,h=>h
 |fuel+1,_,_,_,h=>⟨h.1,fun i hi=>wpOpIn_mono (fun a w h=>FW hd hQ fuel _ a w h) (Lt hd hQ (h.2 i hi))⟩
theorem wH{id:Nat}{ops:Array Oper}(hd:ops.toList.all dZ=true)(hQ:¬LetsOut Q)(h:wpOps P ops Q (List.range ops.size) a w):Eg ro P (.region id ops false) Q a w:=by
 cases ro with
 |none=>exact wp_region h
 |some l=>exact fun n=>wpIn_region (yf hd hQ _ _ _ h)
theorem Cb{id:Nat}{ops:Array Oper}(hf:P.follows .mixedOrders=true)(hd:ops.toList.all dZ=true)(hQ:¬LetsOut Q)
  (h:wpAny P .any ops Q ops.size (Array.replicate ops.size false) a {w with drawn:=w.drawn+1}):Eg ro P (.region id ops true) Q a w:=by
 cases ro with
 |none=>exact wp_region_any hf h
 |some l=>exact fun n=>wpIn_region_any hf (FW hd hQ _ _ _ _ h)
end
end Go.Proofs.YtggeppllafbidaaGreatDoor
